/- The walks of functions that FnExactRepairToPlay reaches: what they return is what the plain functions of the same names say. Laid by a program of this session after the kit's print. No conditions beyond the arguments' being read. -/
import Derived.Test.YthmpginbaafbhaaSRepairToPlay0
import Derived.Test.YthmpginbaafbhaaSRepairToPlay3
import Derived.Test.YthmpginbaafbhaaSRepairToPlay4
import Derived.Test.YthmpginbaafbhaaSRepairToPlay5
import Derived.Test.YthmpginbaafbhaaSRepairToPlay8
import Derived.Test.YthmpginbaafbhaaSRepairToPlay10
namespace Go.Proofs.Ythmpginbaafbhaa.PFnExactRepairToPlay
open Go.RowKit Go.Proofs.YthmpginbaafbhaaW.PrintWords Go.Proofs.YthmpginbaafbhaaW.PrintLast Go.Proofs.YthmpginbaafbhaaW.PrintMore
attribute [local go_sem] max2_int min2_int max_two min_two max_three min_three max_four min_four   -- for this text's walks alone
set_option linter.unusedVariables false
set_option linter.unusedSimpArgs false

def spec_RepairToPlay.j0:Nat→List (S51)→List (S55)→Int→Int→Bool→List Int→Int→Option (Int×Bool)
 | 0,_,_,_,_,_,_,_=>none
 | k+1,x1,x2,x3,x4,x28,x321000,x321001=>if x28=true then(some (0,false)) else((spec_laHoles.f k x321000 x321001 x2 0).bind fun bt324=>(if bt324.2=true then((spec_rpCost.f k x1 bt324.1 x3 x4).bind fun t328=>(some (t328,true))) else(some (0,false))))
def spec_RepairToPlay.f (k:Nat) (l0_0:List Int) (a0_1:Int) (l1:List (S51)) (l2:List (S55)) (a3:Int) (a4:Int):Option (Int×Bool):=(spec_laAsked.f k l0_0 a0_1 l1).bind fun t321=>(if t321=true then((spec_ntGood.f k l2).bind fun t322=>(if t322=true then((spec_rpCosts.f a3 a4).bind fun t323=>(spec_RepairToPlay.j0 k l1 l2 a3 a4 (!t323) l0_0 a0_1)) else(spec_RepairToPlay.j0 k l1 l2 a3 a4 true l0_0 a0_1))) else(spec_RepairToPlay.j0 k l1 l2 a3 a4 true l0_0 a0_1))
set_option maxHeartbeats 8000000 in
set_option maxRecDepth 100000 in
theorem spec_RepairToPlay.calls (k:Nat) (A0_0:Option Addr) (c0_0:Nat) (l0_0:List Int) (a0_1:Int) (A1:Option Addr) (c1:Nat) (l1:List (S51)) (A2:Option Addr) (c2:Nat) (l2:List (S55)) (a3:Int) (a4:Int) (r1:Int) (r2:Bool) (w:World) (hr0_0:Kd.C (Kd.int .i64) w A0_0 l0_0.length l0_0) (hc0_0:l0_0.length≤c0_0) (hr1:Kd.C k51 w A1 l1.length l1) (hc1:l1.length≤c1) (hr2:Kd.C k55 w A2 l2.length l2) (hc2:l2.length≤c2) (h:spec_RepairToPlay.f k l0_0 a0_1 l1 l2 a3 a4=some (r1,r2)) :
  Calls Try.prog 7 #[.agg #[.slice A0_0 l0_0.length c0_0,.int .i64 a0_1],.slice A1 l1.length c1,.slice A2 l2.length c2,.int .i64 a3,.int .i64 a4] w fun e w'=>e = .returned (.tuple #[.int .i64 r1,.bool r2])∧Below w.heap.size w w':=by
 have hu32:=Try.underlying32
 have HR0_0:=am hr0_0
 have HC0_0:=am hc0_0
 clear hr0_0 hc0_0
 have HR1:=am hr1
 have HC1:=am hc1
 clear hr1 hc1
 have HR2:=am hr2
 have HC2:=am hc2
 clear hr2 hc2
 have HB:=am (Below.refl w.heap.size w)
 have H:((spec_laAsked.f k l0_0 a0_1 l1).bind fun t321=>(if t321=true then((spec_ntGood.f k l2).bind fun t322=>(if t322=true then((spec_rpCosts.f a3 a4).bind fun t323=>(spec_RepairToPlay.j0 k l1 l2 a3 a4 (!t323) l0_0 a0_1)) else(spec_RepairToPlay.j0 k l1 l2 a3 a4 true l0_0 a0_1))) else(spec_RepairToPlay.j0 k l1 l2 a3 a4 true l0_0 a0_1)))=some (r1,r2):=h
 clear h
 have HC6:=am H
 clear H
 go_enter Try.func7,Try.ntmps7
 go_upto_region 1 with(first|((with_reducible refine gate_dst (N:=5) rfl ?_);refine box_event ?hg (N:=5) ?hd (cs := #[.slice A0_0 l0_0.length c0_0,.int .i64 a0_1]) (t:=32) ?hr ?_;(case hd=>rfl);(case hg=>rfl);(case hr=>first|(go_simp;done)|(go_simp;rfl));intro gb320 hg w7 hbox hb;have BK320:=am (hbox);have GW320:=am (ge_ bl hg);have GE320:=am (ge_ bl hg);replace HB:=am (below_step bl hb);clear hb hbox hg))
 (try simp only[Act.put,List.setIfInBounds_toArray,List.set_cons_zero,List.set_cons_succ])
 go_cut [28] (fun v28 wc=>∃(kq:Nat) (x28_5:Bool),v28 = .bool x28_5∧Aside0 (spec_RepairToPlay.j0 kq l1 l2 a3 a4 x28_5 l0_0 a0_1=some (r1,r2))∧Aside0 (kq≤k)∧Aside0 (wc.heap[gb320]?=some (.cells #[(.slice A0_0 l0_0.length c0_0),.int .i64 a0_1] 32 (0,0)))∧Aside0 (Below w.heap.size w wc))
 case first =>
  have H:=HC6.out
  clear HC6
  replace H:=Option.bind_eq_some_iff.mp H
  obtain⟨t321,A80,H⟩:=H
  replace H:(if t321=true then((spec_ntGood.f k l2).bind fun t322=>(if t322=true then((spec_rpCosts.f a3 a4).bind fun t323=>(spec_RepairToPlay.j0 k l1 l2 a3 a4 (!t323) l0_0 a0_1)) else(spec_RepairToPlay.j0 k l1 l2 a3 a4 true l0_0 a0_1))) else(spec_RepairToPlay.j0 k l1 l2 a3 a4 true l0_0 a0_1))=some (r1,r2):=H
  have A8:=am A80
  clear A80
  by_cases c9:t321=true
  ·subst c9
   replace H:=(if_pos rfl).symm.trans H
   replace H:=Option.bind_eq_some_iff.mp H
   obtain⟨t322,A100,H⟩:=H
   replace H:(if t322=true then((spec_rpCosts.f a3 a4).bind fun t323=>(spec_RepairToPlay.j0 k l1 l2 a3 a4 (!t323) l0_0 a0_1)) else(spec_RepairToPlay.j0 k l1 l2 a3 a4 true l0_0 a0_1))=some (r1,r2):=H
   have A10:=am A100
   clear A100
   by_cases c11:t322=true
   ·subst c11
    replace H:=(if_pos rfl).symm.trans H
    replace H:=Option.bind_eq_some_iff.mp H
    obtain⟨t323,A120,H⟩:=H
    replace H:(spec_RepairToPlay.j0 k l1 l2 a3 a4 (!t323) l0_0 a0_1)=some (r1,r2):=H
    have A12:=am A120
    clear A120
    have H':=am H
    clear H
    have hcz13_0:w7.cell? ⟨gb320,0,none⟩=some (.slice A0_0 l0_0.length c0_0):=(blk_cell BK320.out 0).trans rfl
    have hcz13_1:w7.cell? ⟨gb320,1,none⟩=some (.int .i64 a0_1):=(blk_cell BK320.out 1).trans rfl
    have hfz13_0:=blk_frozen BK320.out 0
    have hfz13_1:=blk_frozen BK320.out 1
    go_wp2_with (first|((with_reducible refine gate_callee (f:=16) rfl ?_);refine goesL_ (some 16) rfl rfl Try.func16 (by kernel_rfl) rfl #[.agg #[.slice A0_0 l0_0.length c0_0,.int .i64 a0_1],.slice A1 l1.length c1] rfl tl ?_;(with_reducible refine(spec_laAsked.calls k _ _ l0_0 a0_1 _ _ l1 true _ ?side1 ?side2 ?side3 ?side4 A8.out).mono ?_);(case side1=>exact cup (Kd.C_below HR0_0.out HB.out));(case side2=>exact HC0_0.out);(case side3=>exact cup (Kd.C_below HR1.out HB.out));(case side4=>exact HC1.out);rintro e w14 ⟨rfl,hb⟩;refine⟨_,rfl,?_⟩;replace BK320:=am (blk_below (bup BK320.out) hb);replace HB:=am (below_step bl hb);(try clear hb))|(go_at_call 17;(with_reducible refine(spec_ntGood.calls k _ _ l2 true _ ?side1 ?side2 A10.out).mono ?_);(case side1=>exact cup (Kd.C_below HR2.out HB.out));(case side2=>exact HC2.out);rintro e w15 ⟨rfl,hb⟩;replace BK320:=am (blk_below (bup BK320.out) hb);replace HB:=am (below_step bl hb);(try clear hb))|(go_at_call 18;(with_reducible refine(spec_rpCosts.calls a3 a4 t323 _ A12.out).mono ?_);rintro e w' ⟨rfl,⟨nd,rfl⟩⟩))
    go_meet
    case rel=>exact⟨_,(!t323),fin2,H',⟨by first|omega|exact Nat.le_refl _⟩,⟨bup BK320.out⟩,⟨bl⟩⟩
   ·replace c11:=Bool.eq_false_iff.mpr c11
    subst c11
    replace H:=(if_neg Bool.false_ne_true).symm.trans H
    have H':=am H
    clear H
    have hcz16_0:w7.cell? ⟨gb320,0,none⟩=some (.slice A0_0 l0_0.length c0_0):=(blk_cell BK320.out 0).trans rfl
    have hcz16_1:w7.cell? ⟨gb320,1,none⟩=some (.int .i64 a0_1):=(blk_cell BK320.out 1).trans rfl
    have hfz16_0:=blk_frozen BK320.out 0
    have hfz16_1:=blk_frozen BK320.out 1
    go_wp2_with (first|((with_reducible refine gate_callee (f:=16) rfl ?_);refine goesL_ (some 16) rfl rfl Try.func16 (by kernel_rfl) rfl #[.agg #[.slice A0_0 l0_0.length c0_0,.int .i64 a0_1],.slice A1 l1.length c1] rfl tl ?_;(with_reducible refine(spec_laAsked.calls k _ _ l0_0 a0_1 _ _ l1 true _ ?side1 ?side2 ?side3 ?side4 A8.out).mono ?_);(case side1=>exact cup (Kd.C_below HR0_0.out HB.out));(case side2=>exact HC0_0.out);(case side3=>exact cup (Kd.C_below HR1.out HB.out));(case side4=>exact HC1.out);rintro e w17 ⟨rfl,hb⟩;refine⟨_,rfl,?_⟩;replace BK320:=am (blk_below (bup BK320.out) hb);replace HB:=am (below_step bl hb);(try clear hb))|(go_at_call 17;(with_reducible refine(spec_ntGood.calls k _ _ l2 false _ ?side1 ?side2 A10.out).mono ?_);(case side1=>exact cup (Kd.C_below HR2.out HB.out));(case side2=>exact HC2.out);rintro e w18 ⟨rfl,hb⟩;replace BK320:=am (blk_below (bup BK320.out) hb);replace HB:=am (below_step bl hb);(try clear hb)))
    go_meet
    case rel=>exact⟨_,(true),fin2,H',⟨by first|omega|exact Nat.le_refl _⟩,⟨bup BK320.out⟩,⟨bl⟩⟩
  ·replace c9:=Bool.eq_false_iff.mpr c9
   subst c9
   replace H:=(if_neg Bool.false_ne_true).symm.trans H
   have H':=am H
   clear H
   have hcz19_0:w7.cell? ⟨gb320,0,none⟩=some (.slice A0_0 l0_0.length c0_0):=(blk_cell BK320.out 0).trans rfl
   have hcz19_1:w7.cell? ⟨gb320,1,none⟩=some (.int .i64 a0_1):=(blk_cell BK320.out 1).trans rfl
   have hfz19_0:=blk_frozen BK320.out 0
   have hfz19_1:=blk_frozen BK320.out 1
   go_wp2_with (first|((with_reducible refine gate_callee (f:=16) rfl ?_);refine goesL_ (some 16) rfl rfl Try.func16 (by kernel_rfl) rfl #[.agg #[.slice A0_0 l0_0.length c0_0,.int .i64 a0_1],.slice A1 l1.length c1] rfl tl ?_;(with_reducible refine(spec_laAsked.calls k _ _ l0_0 a0_1 _ _ l1 false _ ?side1 ?side2 ?side3 ?side4 A8.out).mono ?_);(case side1=>exact cup (Kd.C_below HR0_0.out HB.out));(case side2=>exact HC0_0.out);(case side3=>exact cup (Kd.C_below HR1.out HB.out));(case side4=>exact HC1.out);rintro e w20 ⟨rfl,hb⟩;refine⟨_,rfl,?_⟩;replace BK320:=am (blk_below (bup BK320.out) hb);replace HB:=am (below_step bl hb);(try clear hb)))
   go_meet
   case rel=>exact⟨_,(true),fin2,H',⟨by first|omega|exact Nat.le_refl _⟩,⟨bup BK320.out⟩,⟨bl⟩⟩
 case rest =>
  clear HC6
  try clear c1
  try clear c2
  try clear p2
  try clear c7
  try clear c9
  try clear c11
  try clear c16
  try clear hcz13_0
  try clear hcz13_1
  try clear hcz16_0
  try clear hcz16_1
  try clear hcz19_0
  try clear hcz19_1
  try clear hfz13_0
  try clear hfz13_1
  try clear hfz16_0
  try clear hfz16_1
  try clear hfz19_0
  try clear hfz19_1
  obtain⟨kq,x28_5,rfl,HA,HJ5,BK320,HB⟩:=hcut
  cases kq with
  | zero=>exact absurd HA.out (by simp [spec_RepairToPlay.j0])
  | succ kj5 =>
   have H:=HA.out
   clear HA
   simp only[spec_RepairToPlay.j0] at H
   by_cases c21:x28_5=true
   ·subst c21
    replace H:=(if_pos rfl).symm.trans H
    simp only[Option.some.injEq,Prod.mk.injEq] at H
    obtain⟨rfl,rfl⟩:=H
    go_wp2
    go_ret2
    exact⟨fin1,bl⟩
   ·replace c21:=Bool.eq_false_iff.mpr c21
    subst c21
    replace H:=(if_neg Bool.false_ne_true).symm.trans H
    replace H:=Option.bind_eq_some_iff.mp H
    obtain⟨⟨t324,t327⟩,A220,H⟩:=H
    replace H:(if t327=true then((spec_rpCost.f kj5 l1 t324 a3 a4).bind fun t328=>(some (t328,true))) else(some (0,false)))=some (r1,r2):=H
    have A22:=am A220
    clear A220
    by_cases c23:t327=true
    ·subst c23
     replace H:=(if_pos rfl).symm.trans H
     replace H:=Option.bind_eq_some_iff.mp H
     obtain⟨t328,A240,H⟩:=H
     replace H:(some (t328,true))=some (r1,r2):=H
     have A24:=am A240
     clear A240
     simp only[Option.some.injEq,Prod.mk.injEq] at H
     obtain⟨rfl,rfl⟩:=H
     have hcz25_0:wc.cell? ⟨gb320,0,none⟩=some (.slice A0_0 l0_0.length c0_0):=(blk_cell BK320.out 0).trans rfl
     have hcz25_1:wc.cell? ⟨gb320,1,none⟩=some (.int .i64 a0_1):=(blk_cell BK320.out 1).trans rfl
     have hfz25_0:=blk_frozen BK320.out 0
     have hfz25_1:=blk_frozen BK320.out 1
     go_wp2_with (first|((with_reducible refine gate_callee (f:=19) rfl ?_);refine goesL_ (some 32) rfl rfl Try.func19 (by kernel_rfl) rfl #[.agg #[.slice A0_0 l0_0.length c0_0,.int .i64 a0_1],.slice A2 l2.length c2,.int .i64 0] rfl tl ?_;(with_reducible refine(spec_laHoles.calls kj5 _ _ l0_0 a0_1 _ _ l2 0 t324 true _ ?side1 ?side2 ?side3 ?side4 A22.out).mono ?_);(case side1=>exact cup (Kd.C_below HR0_0.out HB.out));(case side2=>exact HC0_0.out);(case side3=>exact cup (Kd.C_below HR2.out HB.out));(case side4=>exact HC2.out);rintro e w26 ⟨v325,rfl,ho0,hb⟩;refine⟨_,rfl,?_⟩;have HO326:=am (Kd.R_lower ho0 (below_size bl));replace BK320:=am (blk_below (bup BK320.out) hb);replace HB:=am (below_step bl hb);(try clear hb);(try clear ho0);obtain⟨Ao27,co27,eo27⟩:=Kd.R_slice HO326.out;subst eo27)|((with_reducible refine gate_callee (f:=20) rfl ?_);refine goesL_ (some 41) rfl rfl Try.func20 (by kernel_rfl) rfl #[.slice A1 l1.length c1,.slice Ao27 t324.length co27,.int .i64 a3,.int .i64 a4] rfl tl ?_;(with_reducible refine(spec_rpCost.calls kj5 _ _ l1 _ _ t324 a3 a4 t328 _ ?side1 ?side2 ?side3 ?side4 A24.out).mono ?_);(case side1=>exact cup (Kd.C_below HR1.out HB.out));(case side2=>exact HC1.out);(case side3=>repeat(first|exact(Kd.R_reads' HO326.out).2.2|(with_reducible refine Kd.C_alloc ?_ _)|(with_reducible refine Kd.C_drewN ?_ _)|(with_reducible refine Kd.C_drew ?_)));(case side4=>exact(Kd.R_reads' HO326.out).2.1);rintro e w28 ⟨rfl,hb⟩;refine⟨_,rfl,?_⟩;replace HO326:=am (Kd.R_below (rup HO326.out) hb);replace BK320:=am (blk_below (bup BK320.out) hb);replace HB:=am (below_step bl hb);(try clear hb)))
     go_ret2
     exact⟨fin1,bl⟩
    ·replace c23:=Bool.eq_false_iff.mpr c23
     subst c23
     replace H:=(if_neg Bool.false_ne_true).symm.trans H
     simp only[Option.some.injEq,Prod.mk.injEq] at H
     obtain⟨rfl,rfl⟩:=H
     have hcz29_0:wc.cell? ⟨gb320,0,none⟩=some (.slice A0_0 l0_0.length c0_0):=(blk_cell BK320.out 0).trans rfl
     have hcz29_1:wc.cell? ⟨gb320,1,none⟩=some (.int .i64 a0_1):=(blk_cell BK320.out 1).trans rfl
     have hfz29_0:=blk_frozen BK320.out 0
     have hfz29_1:=blk_frozen BK320.out 1
     go_wp2_with (first|((with_reducible refine gate_callee (f:=19) rfl ?_);refine goesL_ (some 32) rfl rfl Try.func19 (by kernel_rfl) rfl #[.agg #[.slice A0_0 l0_0.length c0_0,.int .i64 a0_1],.slice A2 l2.length c2,.int .i64 0] rfl tl ?_;(with_reducible refine(spec_laHoles.calls kj5 _ _ l0_0 a0_1 _ _ l2 0 t324 false _ ?side1 ?side2 ?side3 ?side4 A22.out).mono ?_);(case side1=>exact cup (Kd.C_below HR0_0.out HB.out));(case side2=>exact HC0_0.out);(case side3=>exact cup (Kd.C_below HR2.out HB.out));(case side4=>exact HC2.out);rintro e w30 ⟨v325,rfl,ho0,hb⟩;refine⟨_,rfl,?_⟩;have HO326:=am (Kd.R_lower ho0 (below_size bl));replace BK320:=am (blk_below (bup BK320.out) hb);replace HB:=am (below_step bl hb);(try clear hb);(try clear ho0)))
     go_ret2
     exact⟨fin1,bl⟩

def laws_toIntS.l0:Nat→List Int→List Int→Int→Option (List Int)
 | 0,_,_,_=>none
 | k+1,x0,x3,x4=>if x4<(x0.length:Int) then(if 0≤x4 then(if x4<(x3.length:Int) then(laws_toIntS.l0 k x0 (x3.set (x4:Int).toNat (rd x0 x4)) (wrap64 (x4+1))) else(none)) else(none)) else(some x3)
def laws_toIntS.f (k:Nat) (l0:List Int):Option (List Int):=if 0≤(l0.length:Int) then(if((l0.length:Int):Int).toNat≤35184372088832 then(laws_toIntS.l0 k l0 (List.replicate ((l0.length:Int):Int).toNat 0) 0) else(none)) else(none)
set_option maxHeartbeats 8000000 in
set_option maxRecDepth 100000 in
theorem laws_toIntS.calls (k:Nat) (A0:Option Addr) (c0:Nat) (l0:List Int) (r:List Int) (w:World) (hr0:Kd.C (Kd.int .i64) w A0 l0.length l0) (hc0:l0.length≤c0) (h:laws_toIntS.f k l0=some r) :
  Calls Try.prog 21 #[.slice A0 l0.length c0] w fun e w'=>∃ v0_:Value,e = .returned (v0_)∧Kd.R (Kd.int .i64) 3 w' w.heap.size (fun _=>True) v0_ r∧Below w.heap.size w w':=by
 have HR0:=am hr0
 have HC0:=am hc0
 clear hr0 hc0
 have HB:=am (Below.refl w.heap.size w)
 have H:(if 0≤(l0.length:Int) then(if((l0.length:Int):Int).toNat≤35184372088832 then(laws_toIntS.l0 k l0 (List.replicate ((l0.length:Int):Int).toNat 0) 0) else(none)) else(none))=some r:=h
 clear h
 obtain⟨c2,H⟩:=ifp H
 have c2b0:=eq_true c2
 have c2b1:decide (0≤(l0.length:Int))=true:=decide_eq_true c2
 clear c2
 obtain⟨c3,H⟩:=ifp H
 have c3b0:=eq_true c3
 have c3b1:decide (((l0.length:Int):Int).toNat≤35184372088832)=true:=decide_eq_true c3
 clear c3
 obtain⟨y329,hy329⟩:∃ y_:List Int,y_=(List.replicate ((l0.length:Int):Int).toNat 0):=⟨_,rfl⟩
 replace H:(laws_toIntS.l0 k l0 y329 0)=some r:=by subst hy329;exact H
 have Ny329:=am hy329
 clear hy329
 have H':=am H
 clear H
 go_enter Try.func21,Try.ntmps21
 go_wp2_with (first|((with_reducible refine gate_dst (N:=7) rfl ?_);refine Kd.R_make (Kd.int .i64) _ 3 rfl (N:=7) rfl 22 _ _ rfl (l0.length:Int) rfl rfl Try.underlying22 (.int .i64 0) 8 info3 rfl (by decide) (by omega) 0 (ok:=fun _=>True) (okp:=fun _=>True) rfl (fun _ hk=>hk) trivial (od) (Nat.le_trans (Nat.mul_le_mul_right _ (od:(l0.length:Int).toNat≤35184372088832)) (by omega)) (Below.refl _ _) (Nat.le_refl _) ?_;intro v330 w4 ho5 hb hg_ hnew_;clear hg_ hnew_;(first|rw[← Ny329.out] at ho5|(simp only[Int.reduceToNat] at ho5;rw[← Ny329.out] at ho5));have HO331:=am (Kd.R_lower ho5 (below_size bl));replace HB:=am (below_step bl hb);clear hb ho5))
 go_loopg [4] k (fun kq v4 w'=>∃(x3_1:List Int) (x4_1:Int),v4 = .int .i64 x4_1∧Aside0 (laws_toIntS.l0 kq l0 x3_1 x4_1=some r)∧Aside0 (kq≤k)∧Aside0 (Kd.R (Kd.int .i64) 3 w' w.heap.size (fun _=>True) v330 x3_1)∧Aside0 (Below w.heap.size w w'))
 case atStart=>exact⟨(y329),(0),fin2,H',⟨Nat.le_refl _⟩,⟨rup HO331.out⟩,⟨bl⟩⟩
 case round =>
  clear H'
  try clear c2
  try clear c2b0
  try clear c2b1
  try clear p2
  try clear c3
  try clear c3b0
  try clear c3b1
  obtain⟨x3_1,x4_1,rfl,HA,HK1,HO_3,HB⟩:=hrel
  cases gk with
  | zero=>exact absurd HA.out (by simp [laws_toIntS.l0])
  | succ k1 =>
   have H:=HA.out
   clear HA
   simp only[laws_toIntS.l0] at H
   rcases itc H with⟨c6,H⟩|⟨c6,H⟩
   ·have c6b0:=decide_eq_true c6
    clear c6
    obtain⟨c7b0,H⟩:=ifb H
    obtain⟨c8b0,H⟩:=ifb H
    obtain⟨y333,hy333⟩:∃ y_:List Int,y_=(x3_1.set (x4_1:Int).toNat (rd l0 x4_1)):=⟨_,rfl⟩
    replace H:(laws_toIntS.l0 k1 l0 y333 (wrap64 (x4_1+1)))=some r:=by subst hy333;exact H
    have Ny333:=am hy333
    clear hy333
    have H':=am H
    clear H
    have p332:0≤(x4_1:Int):=od
    have q332:x4_1<(l0.length:Int):=od
    obtain⟨ad332,e332,hx332_0⟩:=Kd.at_int HR0.out x4_1 p332 q332
    cases e332
    replace hx332_0:=(HB.out.cell (World.block_lt_of_cell? w _ hx332_0)).trans hx332_0
    replace p332:=eq_true p332
    replace q332:=eq_true q332
    have p9:0≤(x4_1:Int):=od
    have q9:(x4_1:Int)<((x3_1.length:Int):Int):=od
    obtain⟨go9,co9,eo9,gb9,gl9,cl9,HG9⟩:=Kd.R_form HO_3.out (by omega)
    (first|cases eo9|(injection eo9 with ea_ en_ ec_;(first|subst ea_|(injection ea_ with ea_;subst ea_));subst ec_;clear en_))
    have GB9:=am gb9
    have GG9:=am HG9
    clear gb9 gl9 HG9
    obtain⟨hx9_0,hf9_0⟩:=Kd.R_celln 0 HO_3.out (x4_1:Int) p9 q9
    replace p9:=eq_true p9
    replace q9:=eq_true q9
    have HP10:=Kd.R_putg HO_3.out (x4_1:Int) (rd l0 x4_1)
    go_wp2_with (first|((with_reducible refine gate_store (t:=3) (p:=20) rfl ?_);refine store_event (t:=3) (p:=20) (v:=?vo_w11) (w1:=(wr.setCell ⟨go9,(x4_1:Int).toNat,none⟩ (.int .i64 (rd l0 x4_1)))) ?hg ?ho ?hn ?hr ?_;(case ho=>rfl);(case hg=>rfl);(case hn=>rfl);(case hr=>first|(go_simp;done)|(go_simp;rfl));intro w11 hw;have hg:wr.grownBy w11 (some go9):=(by rw[hw];exact HP10.2);have hp_:Kd.R (Kd.int .i64) 3 w11 w.heap.size (fun _=>True) (.slice (some ⟨go9,0,none⟩) x3_1.length co9) y333:=(by rw[hw,Ny333.out];exact HP10.1);clear HP10;replace HO_3:=am (hp_);replace HB:=am ((by rw[hw];exact below_set (HB.out) GB9.out:Below w.heap.size w w11));clear hg hw hp_))
    go_roundg k1
    case measure=>have:=HK1.out;omega
    case rel=>exact⟨(y333),(wrap64 (x4_1+1)),fin2,H',⟨by have:=HK1.out;omega⟩,⟨rup HO_3.out⟩,⟨bl⟩⟩
   ·have c6b0:=decide_eq_false c6
    clear c6
    obtain rfl:=Option.some.inj H
    go_wp2
    go_ret
    exact⟨_,fin1,by(with_reducible repeat(first|apply Kd.R_alloc|apply Kd.R_drewN|apply Kd.R_drew));exact HO_3.out,bl⟩

def laws_toInstrument.f (k:Nat) (l0_0:List Int) (a0_1:Int):Option (List Int×Int):=(laws_toIntS.f k l0_0).bind fun t337=>(some (t337,a0_1))
set_option maxHeartbeats 8000000 in
set_option maxRecDepth 100000 in
theorem laws_toInstrument.calls (k:Nat) (A0_0:Option Addr) (c0_0:Nat) (l0_0:List Int) (a0_1:Int) (r1:List Int) (r2:Int) (w:World) (hr0_0:Kd.C (Kd.int .i64) w A0_0 l0_0.length l0_0) (hc0_0:l0_0.length≤c0_0) (h:laws_toInstrument.f k l0_0 a0_1=some (r1,r2)) :
  Calls Try.prog 8 #[.agg #[.slice A0_0 l0_0.length c0_0,.int .i64 a0_1]] w fun e w'=>∃ v0_:Value,e = .returned (.agg #[v0_,.int .i64 r2])∧Kd.R (Kd.int .i64) 3 w' w.heap.size (fun _=>True) v0_ r1∧Below w.heap.size w w':=by
 have hu24:=Try.underlying24
 have hu32:=Try.underlying32
 have HR0_0:=am hr0_0
 have HC0_0:=am hc0_0
 clear hr0_0 hc0_0
 have HB:=am (Below.refl w.heap.size w)
 have H:((laws_toIntS.f k l0_0).bind fun t337=>(some (t337,a0_1)))=some (r1,r2):=h
 clear h
 replace H:=Option.bind_eq_some_iff.mp H
 obtain⟨t337,A20,H⟩:=H
 replace H:(some (t337,a0_1))=some (r1,r2):=H
 have A2:=am A20
 clear A20
 simp only[Option.some.injEq,Prod.mk.injEq] at H
 obtain⟨rfl,rfl⟩:=H
 go_enter Try.func8,Try.ntmps8
 go_wp2_with (first|((with_reducible refine gate_dst (N:=1) rfl ?_);refine box_event ?hg (N:=1) ?hd (cs := #[.slice A0_0 l0_0.length c0_0,.int .i64 a0_1]) (t:=24) ?hr ?_;(case hd=>rfl);(case hg=>rfl);(case hr=>first|(go_simp;done)|(go_simp;rfl));intro gb334 hg w3 hbox hb;have BK334:=am (hbox);have GW334:=am (ge_ bl hg);have GE334:=am (ge_ bl hg);replace HB:=am (below_step bl hb);clear hb hbox hg)|((with_reducible refine gate_dst (N:=2) rfl ?_);refine box_event ?hg (N:=2) ?hd (cs := #[.slice none 0 0,.int .i64 0]) (t:=32) ?hr ?_;(case hd=>rfl);(case hg=>rfl);(case hr=>first|(go_simp;done)|(go_simp;rfl));intro gb335 hg w4 hbox hb;have BK335:=am (hbox);have GW335:=am (ge_ bl hg);have GE335:=am (ge_ bl hg);replace HB:=am (below_step bl hb);have NB334_335:=am (nl (bup BK334.out) hg);have NB335_334:=am (ng (bup BK334.out) hg);replace BK334:=am (blk_below (bup BK334.out) hb);clear hb hbox hg)|((with_reducible refine gate_dst (N:=3) rfl ?_);refine box_event ?hg (N:=3) ?hd (cs := #[.slice none 0 0,.int .i64 0]) (t:=32) ?hr ?_;(case hd=>rfl);(case hg=>rfl);(case hr=>first|(go_simp;done)|(go_simp;rfl));intro gb336 hg w5 hbox hb;have BK336:=am (hbox);have GW336:=am (ge_ bl hg);have GE336:=am (ge_ bl hg);replace HB:=am (below_step bl hb);have NB334_336:=am (nl (bup BK334.out) hg);have NB336_334:=am (ng (bup BK334.out) hg);replace BK334:=am (blk_below (bup BK334.out) hb);have NB335_336:=am (nl (bup BK335.out) hg);have NB336_335:=am (ng (bup BK335.out) hg);replace BK335:=am (blk_below (bup BK335.out) hb);clear hb hbox hg;have hnb6:=NB334_335.out;have hnc6:=NB335_334.out;have hnb7:=NB334_336.out;have hnc7:=NB336_334.out;have hcz8_0:w5.cell? ⟨gb334,0,none⟩=some (.slice A0_0 l0_0.length c0_0):=(blk_cell BK334.out 0).trans rfl;have hcz8_1:w5.cell? ⟨gb334,1,none⟩=some (.int .i64 a0_1):=(blk_cell BK334.out 1).trans rfl;have hfz8_0:=blk_frozen BK334.out 0;have hfz8_1:=blk_frozen BK334.out 1)|((with_reducible refine gate_callee (f:=21) rfl ?_);refine goesL_ (some 6) rfl rfl Try.func21 (by kernel_rfl) rfl #[.slice A0_0 l0_0.length c0_0] rfl tl ?_;(with_reducible refine(laws_toIntS.calls k _ _ l0_0 t337 _ ?side1 ?side2 A2.out).mono ?_);(case side1=>exact cup (Kd.C_below HR0_0.out HB.out));(case side2=>exact HC0_0.out);rintro e w9 ⟨v338,rfl,ho0,hb⟩;refine⟨_,rfl,?_⟩;have HO339:=am (Kd.R_lower ho0 (below_size bl));replace BK334:=am (blk_below (bup BK334.out) hb);replace BK335:=am (blk_below (bup BK335.out) hb);replace BK336:=am (blk_below (bup BK336.out) hb);replace HB:=am (below_step bl hb);(try clear hb);(try clear ho0);obtain⟨Ao10,co10,eo10⟩:=Kd.R_slice HO339.out;subst eo10;have hnb11:=NB336_335.out;have hnc11:=NB335_336.out;have hcz12_0:w9.cell? ⟨gb336,0,none⟩=some (.slice none 0 0):=(blk_cell BK336.out 0).trans rfl;have hcz12_1:w9.cell? ⟨gb336,1,none⟩=some (.int .i64 0):=(blk_cell BK336.out 1).trans rfl;have hfz12_0:=blk_frozen BK336.out 0;have hfz12_1:=blk_frozen BK336.out 1;have hcz13_0:w9.cell? ⟨gb334,0,none⟩=some (.slice A0_0 l0_0.length c0_0):=(blk_cell BK334.out 0).trans rfl;have hcz13_1:w9.cell? ⟨gb334,1,none⟩=some (.int .i64 a0_1):=(blk_cell BK334.out 1).trans rfl;have hfz13_0:=blk_frozen BK334.out 0;have hfz13_1:=blk_frozen BK334.out 1;have hcz14_0:w9.cell? ⟨gb335,0,none⟩=some (.slice none 0 0):=(blk_cell BK335.out 0).trans rfl;have hcz14_1:w9.cell? ⟨gb335,1,none⟩=some (.int .i64 0):=(blk_cell BK335.out 1).trans rfl;have hfz14_0:=blk_frozen BK335.out 0;have hfz14_1:=blk_frozen BK335.out 1))
 refine bodyPost_ret (results_cell_row rfl _ _ gb335 32 #[.slice Ao10 t337.length co10,.int .i64 a0_1] (0,0) _ rfl (by(with_reducible repeat(first|refine bN_ ?_ _|refine bD_ ?_|refine bA_ ?_ _));refine blk_put (cs := #[.slice Ao10 t337.length co10,.int .i64 0]) ?_ 1 _ rfl;(with_reducible repeat(first|refine bN_ ?_ _|refine bD_ ?_|refine bA_ ?_ _));refine blk_put (cs := #[.slice none 0 0,.int .i64 0]) ?_ 0 _ rfl;(with_reducible repeat(first|refine bN_ ?_ _|refine bD_ ?_|refine bA_ ?_ _));refine blk_far ?_ NB335_336.out _;(with_reducible repeat(first|refine bN_ ?_ _|refine bD_ ?_|refine bA_ ?_ _));refine blk_far ?_ NB335_336.out _;exact bup BK335.out) Try.underlying32 rfl (by kernel_rfl)) rfl ?_
 exact⟨_,fin1,rup (Kd.R_mono (Kd.R_far (p:=⟨gb335,1,none⟩) (Kd.R_far (p:=⟨gb335,0,none⟩) (Kd.R_far (p:=⟨gb336,1,none⟩) (Kd.R_far (p:=⟨gb336,0,none⟩) (Kd.R_types (Kd.R_types HO339.out BK336.out (by decide)) BK335.out (by decide)) (fun _ hk=>hk.1.2) (.slice Ao10 t337.length co10)) (fun _ hk=>hk.1.2) (.int .i64 a0_1)) (fun _ hk=>hk.2) (.slice Ao10 t337.length co10)) (fun _ hk=>hk.2) (.int .i64 a0_1)) (fun _ hk=>trivial)),bl⟩

def laws_toHole.f (a0_0:Int) (a0_1:Int) (a0_2:Int):Option (Int×Int×Int):=some (a0_0,a0_1,a0_2)
set_option maxHeartbeats 8000000 in
set_option maxRecDepth 100000 in
theorem laws_toHole.calls (a0_0:Int) (a0_1:Int) (a0_2:Int) (r1:Int) (r2:Int) (r3:Int) (w:World) (h:laws_toHole.f a0_0 a0_1 a0_2=some (r1,r2,r3)) :
  Calls Try.prog 22 #[.agg #[.int .i64 a0_0,.int .i64 a0_1,.int .i64 a0_2]] w fun e w'=>e = .returned (.agg #[.int .i64 r1,.int .i64 r2,.int .i64 r3])∧Below w.heap.size w w':=by
 have hu53:=Try.underlying53
 have hu51:=Try.underlying51
 have HB:=am (Below.refl w.heap.size w)
 have H:(some (a0_0,a0_1,a0_2))=some (r1,r2,r3):=h
 clear h
 simp only[Option.some.injEq,Prod.mk.injEq] at H
 obtain⟨rfl,rfl,rfl⟩:=H
 go_enter Try.func22,Try.ntmps22
 go_wp2_with (first|((with_reducible refine gate_dst (N:=1) rfl ?_);refine box_event ?hg (N:=1) ?hd (cs := #[.int .i64 a0_0,.int .i64 a0_1,.int .i64 a0_2]) (t:=53) ?hr ?_;(case hd=>rfl);(case hg=>rfl);(case hr=>first|(go_simp;done)|(go_simp;rfl));intro gb340 hg w2 hbox hb;have BK340:=am (hbox);have GW340:=am (ge_ bl hg);have GE340:=am (ge_ bl hg);replace HB:=am (below_step bl hb);clear hb hbox hg)|((with_reducible refine gate_dst (N:=2) rfl ?_);refine box_event ?hg (N:=2) ?hd (cs := #[.int .i64 0,.int .i64 0,.int .i64 0]) (t:=51) ?hr ?_;(case hd=>rfl);(case hg=>rfl);(case hr=>first|(go_simp;done)|(go_simp;rfl));intro gb341 hg w3 hbox hb;have BK341:=am (hbox);have GW341:=am (ge_ bl hg);have GE341:=am (ge_ bl hg);replace HB:=am (below_step bl hb);have NB340_341:=am (nl (bup BK340.out) hg);have NB341_340:=am (ng (bup BK340.out) hg);replace BK340:=am (blk_below (bup BK340.out) hb);clear hb hbox hg)|((with_reducible refine gate_dst (N:=3) rfl ?_);refine box_event ?hg (N:=3) ?hd (cs := #[.int .i64 0,.int .i64 0,.int .i64 0]) (t:=51) ?hr ?_;(case hd=>rfl);(case hg=>rfl);(case hr=>first|(go_simp;done)|(go_simp;rfl));intro gb342 hg w4 hbox hb;have BK342:=am (hbox);have GW342:=am (ge_ bl hg);have GE342:=am (ge_ bl hg);replace HB:=am (below_step bl hb);have NB340_342:=am (nl (bup BK340.out) hg);have NB342_340:=am (ng (bup BK340.out) hg);replace BK340:=am (blk_below (bup BK340.out) hb);have NB341_342:=am (nl (bup BK341.out) hg);have NB342_341:=am (ng (bup BK341.out) hg);replace BK341:=am (blk_below (bup BK341.out) hb);clear hb hbox hg;have hnb5:=NB340_341.out;have hnc5:=NB341_340.out;have hnb6:=NB340_342.out;have hnc6:=NB342_340.out;have hcz7_0:w4.cell? ⟨gb340,0,none⟩=some (.int .i64 a0_0):=(blk_cell BK340.out 0).trans rfl;have hcz7_1:w4.cell? ⟨gb340,1,none⟩=some (.int .i64 a0_1):=(blk_cell BK340.out 1).trans rfl;have hcz7_2:w4.cell? ⟨gb340,2,none⟩=some (.int .i64 a0_2):=(blk_cell BK340.out 2).trans rfl;have hfz7_0:=blk_frozen BK340.out 0;have hfz7_1:=blk_frozen BK340.out 1;have hfz7_2:=blk_frozen BK340.out 2;have hnb8:=NB342_341.out;have hnc8:=NB341_342.out;have hcz9_0:w4.cell? ⟨gb342,0,none⟩=some (.int .i64 0):=(blk_cell BK342.out 0).trans rfl;have hcz9_1:w4.cell? ⟨gb342,1,none⟩=some (.int .i64 0):=(blk_cell BK342.out 1).trans rfl;have hcz9_2:w4.cell? ⟨gb342,2,none⟩=some (.int .i64 0):=(blk_cell BK342.out 2).trans rfl;have hfz9_0:=blk_frozen BK342.out 0;have hfz9_1:=blk_frozen BK342.out 1;have hfz9_2:=blk_frozen BK342.out 2;have hcz10_0:w4.cell? ⟨gb341,0,none⟩=some (.int .i64 0):=(blk_cell BK341.out 0).trans rfl;have hcz10_1:w4.cell? ⟨gb341,1,none⟩=some (.int .i64 0):=(blk_cell BK341.out 1).trans rfl;have hcz10_2:w4.cell? ⟨gb341,2,none⟩=some (.int .i64 0):=(blk_cell BK341.out 2).trans rfl;have hfz10_0:=blk_frozen BK341.out 0;have hfz10_1:=blk_frozen BK341.out 1;have hfz10_2:=blk_frozen BK341.out 2))
 refine bodyPost_ret (results_cell_row rfl _ _ gb341 51 #[.int .i64 a0_0,.int .i64 a0_1,.int .i64 a0_2] (0,0) _ rfl (by(with_reducible repeat(first|refine bN_ ?_ _|refine bD_ ?_|refine bA_ ?_ _));refine blk_put (cs := #[.int .i64 a0_0,.int .i64 a0_1,.int .i64 0]) ?_ 2 _ rfl;(with_reducible repeat(first|refine bN_ ?_ _|refine bD_ ?_|refine bA_ ?_ _));refine blk_put (cs := #[.int .i64 a0_0,.int .i64 0,.int .i64 0]) ?_ 1 _ rfl;(with_reducible repeat(first|refine bN_ ?_ _|refine bD_ ?_|refine bA_ ?_ _));refine blk_put (cs := #[.int .i64 0,.int .i64 0,.int .i64 0]) ?_ 0 _ rfl;(with_reducible repeat(first|refine bN_ ?_ _|refine bD_ ?_|refine bA_ ?_ _));refine blk_far ?_ NB341_342.out _;(with_reducible repeat(first|refine bN_ ?_ _|refine bD_ ?_|refine bA_ ?_ _));refine blk_far ?_ NB341_342.out _;(with_reducible repeat(first|refine bN_ ?_ _|refine bD_ ?_|refine bA_ ?_ _));refine blk_far ?_ NB341_342.out _;exact bup BK341.out) Try.underlying51 rfl (by kernel_rfl)) rfl ?_
 exact⟨fin1,bl⟩

def laws_toHoleS.l0:Nat→List (S53)→List (S51)→Int→Option ((List (S51)))
 | 0,_,_,_=>none
 | k+1,x0,x3,x4=>if x4<(x0.length:Int) then(if 0≤x4 then((laws_toHole.f ((rd_T53 x0 x4).f0) ((rd_T53 x0 x4).f1) ((rd_T53 x0 x4).f2)).bind fun bt347=>(if x4<(x3.length:Int) then(laws_toHoleS.l0 k x0 (x3.set (x4:Int).toNat (⟨bt347.1,bt347.2.1,bt347.2.2⟩:S51)) (wrap64 (x4+1))) else(none))) else(none)) else(some x3)
def laws_toHoleS.f (k:Nat) (l0:List (S53)):Option ((List (S51))):=if 0≤(l0.length:Int) then(if((l0.length:Int):Int).toNat≤11728124029610 then(laws_toHoleS.l0 k l0 (List.replicate ((l0.length:Int):Int).toNat z51) 0) else(none)) else(none)
set_option maxHeartbeats 8000000 in
set_option maxRecDepth 100000 in
theorem laws_toHoleS.calls (k:Nat) (A0:Option Addr) (c0:Nat) (l0:List (S53)) (r:List (S51)) (w:World) (hr0:Kd.C k53 w A0 l0.length l0) (hc0:l0.length≤c0) (h:laws_toHoleS.f k l0=some r) :
  Calls Try.prog 9 #[.slice A0 l0.length c0] w fun e w'=>∃ v0_:Value,e = .returned (v0_)∧Kd.R k51 51 w' w.heap.size (fun _=>True) v0_ r∧Below w.heap.size w w':=by
 have hu53:=Try.underlying53
 have hu51:=Try.underlying51
 have HR0:=am hr0
 have HC0:=am hc0
 clear hr0 hc0
 have HB:=am (Below.refl w.heap.size w)
 have H:(if 0≤(l0.length:Int) then(if((l0.length:Int):Int).toNat≤11728124029610 then(laws_toHoleS.l0 k l0 (List.replicate ((l0.length:Int):Int).toNat z51) 0) else(none)) else(none))=some r:=h
 clear h
 obtain⟨c2,H⟩:=ifp H
 have c2b0:=eq_true c2
 have c2b1:decide (0≤(l0.length:Int))=true:=decide_eq_true c2
 clear c2
 obtain⟨c3,H⟩:=ifp H
 have c3b0:=eq_true c3
 have c3b1:decide (((l0.length:Int):Int).toNat≤11728124029610)=true:=decide_eq_true c3
 clear c3
 obtain⟨y343,hy343⟩:∃ y_:List (S51),y_=(List.replicate ((l0.length:Int):Int).toNat z51):=⟨_,rfl⟩
 replace H:(laws_toHoleS.l0 k l0 y343 0)=some r:=by subst hy343;exact H
 have Ny343:=am hy343
 clear hy343
 have H':=am H
 clear H
 go_enter Try.func9,Try.ntmps9
 go_wp2_with (first|((with_reducible refine gate_dst (N:=7) rfl ?_);refine Kd.R_make k51 _ 51 rfl (N:=7) rfl 34 _ _ rfl (l0.length:Int) rfl rfl Try.underlying34 (.agg #[(.int .i64 0),(.int .i64 0),(.int .i64 0)]) 24 info51 rfl (by decide) (by omega) z51 (ok:=fun _=>True) (okp:=fun _=>True) (k51_mkM _ _ _ z51 ) (fun _ hk=>hk) trivial (od) (Nat.le_trans (Nat.mul_le_mul_right _ (od:(l0.length:Int).toNat≤11728124029610)) (by omega)) (Below.refl _ _) (Nat.le_refl _) ?_;intro v344 w4 ho5 hb hg_ hnew_;clear hg_ hnew_;(first|rw[← Ny343.out] at ho5|(simp only[Int.reduceToNat] at ho5;rw[← Ny343.out] at ho5));have HO345:=am (Kd.R_lower ho5 (below_size bl));replace HB:=am (below_step bl hb);clear hb ho5))
 go_loopg [4] k (fun kq v4 w'=>∃(x3_1:List (S51)) (x4_1:Int),v4 = .int .i64 x4_1∧Aside0 (laws_toHoleS.l0 kq l0 x3_1 x4_1=some r)∧Aside0 (kq≤k)∧Aside0 (Kd.R k51 51 w' w.heap.size (fun _=>True) v344 x3_1)∧Aside0 (Below w.heap.size w w'))
 case atStart=>exact⟨(y343),(0),fin2,H',⟨Nat.le_refl _⟩,⟨rup HO345.out⟩,⟨bl⟩⟩
 case round =>
  clear H'
  try clear c2
  try clear c2b0
  try clear c2b1
  try clear p2
  try clear c3
  try clear c3b0
  try clear c3b1
  obtain⟨x3_1,x4_1,rfl,HA,HK1,HO_3,HB⟩:=hrel
  cases gk with
  | zero=>exact absurd HA.out (by simp [laws_toHoleS.l0])
  | succ k1 =>
   have H:=HA.out
   clear HA
   simp only[laws_toHoleS.l0] at H
   rcases itc H with⟨c6,H⟩|⟨c6,H⟩
   ·have c6b0:=decide_eq_true c6
    clear c6
    obtain⟨c7b0,H⟩:=ifb H
    obtain⟨⟨t347,t348,t349⟩,A8,H⟩:=bnd H;dsimp only at H
    obtain⟨c9b0,H⟩:=ifb H
    obtain⟨y350,hy350⟩:∃ y_:List (S51),y_=(x3_1.set (x4_1:Int).toNat (⟨t347,t348,t349⟩:S51)):=⟨_,rfl⟩
    replace H:(laws_toHoleS.l0 k1 l0 y350 (wrap64 (x4_1+1)))=some r:=by subst hy350;exact H
    have Ny350:=am hy350
    clear hy350
    have H':=am H
    clear H
    have p346:0≤(x4_1:Int):=od
    have q346:x4_1<(l0.length:Int):=od
    obtain⟨ad346,e346,hx346_0,hx346_1,hx346_2⟩:=at_T53 HR0.out x4_1 p346 q346
    cases e346
    replace hx346_0:=(HB.out.cell (World.block_lt_of_cell? w _ hx346_0)).trans hx346_0
    replace hx346_1:=(HB.out.cell (World.block_lt_of_cell? w _ hx346_1)).trans hx346_1
    replace hx346_2:=(HB.out.cell (World.block_lt_of_cell? w _ hx346_2)).trans hx346_2
    replace p346:=eq_true p346
    replace q346:=eq_true q346
    go_wp2_with (first|((with_reducible refine gate_callee (f:=22) rfl ?_);refine goesL_ (some 20) rfl rfl Try.func22 (by kernel_rfl) rfl #[.agg #[.int .i64 ((rd_T53 l0 x4_1).f0),.int .i64 ((rd_T53 l0 x4_1).f1),.int .i64 ((rd_T53 l0 x4_1).f2)]] rfl tl ?_;(with_reducible refine(laws_toHole.calls ((rd_T53 l0 x4_1).f0) ((rd_T53 l0 x4_1).f1) ((rd_T53 l0 x4_1).f2) t347 t348 t349 _ A8.out).mono ?_);rintro e w11 ⟨rfl,hb⟩;refine⟨_,rfl,?_⟩;replace HO_3:=am (Kd.R_below (rup HO_3.out) hb);replace HB:=am (below_step bl hb);(try clear hb);have p10:0≤(x4_1:Int):=od;have q10:(x4_1:Int)<((x3_1.length:Int):Int):=od;obtain⟨go10,co10,eo10,gb10,gl10,cl10,HG10⟩:=Kd.R_form HO_3.out (by omega);(first|cases eo10|(injection eo10 with ea_ en_ ec_;(first|subst ea_|(injection ea_ with ea_;subst ea_));subst ec_;clear en_));have GB10:=am gb10;have GG10:=am HG10;clear gb10 gl10 HG10;obtain⟨ce10,hcl10,hM10,hcc10,hfr10⟩:=Kd.R_elem HO_3.out z51 (x4_1:Int) p10 q10;obtain rfl:=k51_openM hM10;have hx10_0:w11.cell? ⟨go10,(x4_1:Int).toNat*3,none⟩=some (.int .i64 ((rd_T51 x3_1 x4_1).f0)):=hcc10 0 _ rfl;have hx10_1:w11.cell? ⟨go10,(x4_1:Int).toNat*3+1,none⟩=some (.int .i64 ((rd_T51 x3_1 x4_1).f1)):=hcc10 1 _ rfl;have hx10_2:w11.cell? ⟨go10,(x4_1:Int).toNat*3+2,none⟩=some (.int .i64 ((rd_T51 x3_1 x4_1).f2)):=hcc10 2 _ rfl;have hf10_0:w11.frozen? ⟨go10,(x4_1:Int).toNat*3,none⟩=false:=hfr10 0;have hf10_1:w11.frozen? ⟨go10,(x4_1:Int).toNat*3+1,none⟩=false:=hfr10 1;have hf10_2:w11.frozen? ⟨go10,(x4_1:Int).toNat*3+2,none⟩=false:=hfr10 2;(try clear hcl10);(try clear hcc10);(try clear hfr10);(try clear hM10);replace p10:=eq_true p10;replace q10:=eq_true q10;have HX12:=am (show Kd.R k51 51 w11 w.heap.size (fun _=>True) (.slice (some ⟨go10,0,none⟩) x3_1.length co10) x3_1 from(rup HO_3.out));obtain⟨ce12,hcl12,hM12,hcc12,hfr12⟩:=Kd.R_elem HX12.out z51 (x4_1:Int) (od) (by have h_:(x4_1:Int)<((x3_1.length:Int):Int):=od;first|exact h_|(have e_:=(Kd.R_reads' HO_3.out).1;omega)|simpa using h_);obtain rfl:=k51_openM hM12;have HP12:=Kd.R_seg HX12.out (x4_1:Int) (od) (by have h_:(x4_1:Int)<((x3_1.length:Int):Int):=od;first|exact h_|(have e_:=(Kd.R_reads' HO_3.out).1;omega)|simpa using h_) (seg:=[.int .i64 t347,.int .i64 t348,.int .i64 t349]) (j:=0) hcl12 hcc12 (show 3≤3 from by decide) (x':=(⟨t347,t348,t349⟩:S51)) (k51_mkM _ _ _ (⟨t347,t348,t349⟩:S51) ) (fun _ hk=>hk);have hx12_0:=hcc12 0 _ rfl;(try simp only[show(k51).sz=3 from rfl,Nat.mul_one,Nat.add_zero] at hx12_0);have hf12_0:=hfr12 0;(try simp only[show(k51).sz=3 from rfl,Nat.mul_one,Nat.add_zero] at hf12_0);have hx12_1:=hcc12 1 _ rfl;(try simp only[show(k51).sz=3 from rfl,Nat.mul_one,Nat.add_zero] at hx12_1);have hf12_1:=hfr12 1;(try simp only[show(k51).sz=3 from rfl,Nat.mul_one,Nat.add_zero] at hf12_1);have hx12_2:=hcc12 2 _ rfl;(try simp only[show(k51).sz=3 from rfl,Nat.mul_one,Nat.add_zero] at hx12_2);have hf12_2:=hfr12 2;(try simp only[show(k51).sz=3 from rfl,Nat.mul_one,Nat.add_zero] at hf12_2);(try clear hcl12);(try clear hcc12);(try clear hfr12);(try clear hM12))|((with_reducible refine gate_store (t:=51) (p:=21) rfl ?_);refine store_event (t:=51) (p:=21) (v:=?vo_w13) (w1:=(((w11.setCell ⟨go10,(x4_1:Int).toNat*3,none⟩ (.int .i64 t347)).setCell ⟨go10,(x4_1:Int).toNat*3+1,none⟩ (.int .i64 t348)).setCell ⟨go10,(x4_1:Int).toNat*3+2,none⟩ (.int .i64 t349))) ?hg ?ho ?hn ?hr ?_;(case ho=>rfl);(case hg=>rfl);(case hn=>rfl);(case hr=>first|(go_simp;done)|(go_simp;rfl));intro w13 hw;have hg:w11.grownBy w13 (some go10):=(by rw[hw];exact HP12.2);have hp_:Kd.R k51 51 w13 w.heap.size (fun _=>True) (.slice (some ⟨go10,0,none⟩) x3_1.length co10) y350:=(by rw[hw,Ny350.out];exact HP12.1);clear HP12;replace HO_3:=am (hp_);replace HB:=am ((by rw[hw];exact below_set (below_set (below_set (HB.out) GB10.out) GB10.out) GB10.out:Below w.heap.size w w13));clear hg hw hp_))
    go_roundg k1
    case measure=>have:=HK1.out;omega
    case rel=>exact⟨(y350),(wrap64 (x4_1+1)),fin2,H',⟨by have:=HK1.out;omega⟩,⟨rup HO_3.out⟩,⟨bl⟩⟩
   ·have c6b0:=decide_eq_false c6
    clear c6
    obtain rfl:=Option.some.inj H
    go_wp2
    go_ret
    exact⟨_,fin1,by(with_reducible repeat(first|apply Kd.R_alloc|apply Kd.R_drewN|apply Kd.R_drew));exact HO_3.out,bl⟩

def laws_toNote.f (a0_0:Int) (a0_1:Int) (a0_2:Int):Option (Int×Int×Int):=some (a0_0,a0_1,a0_2)
set_option maxHeartbeats 8000000 in
set_option maxRecDepth 100000 in
theorem laws_toNote.calls (a0_0:Int) (a0_1:Int) (a0_2:Int) (r1:Int) (r2:Int) (r3:Int) (w:World) (h:laws_toNote.f a0_0 a0_1 a0_2=some (r1,r2,r3)) :
  Calls Try.prog 23 #[.agg #[.int .i64 a0_0,.int .i64 a0_1,.int .i64 a0_2]] w fun e w'=>e = .returned (.agg #[.int .i64 r1,.int .i64 r2,.int .i64 r3])∧Below w.heap.size w w':=by
 have hu57:=Try.underlying57
 have hu55:=Try.underlying55
 have HB:=am (Below.refl w.heap.size w)
 have H:(some (a0_0,a0_1,a0_2))=some (r1,r2,r3):=h
 clear h
 simp only[Option.some.injEq,Prod.mk.injEq] at H
 obtain⟨rfl,rfl,rfl⟩:=H
 go_enter Try.func23,Try.ntmps23
 go_wp2_with (first|((with_reducible refine gate_dst (N:=1) rfl ?_);refine box_event ?hg (N:=1) ?hd (cs := #[.int .i64 a0_0,.int .i64 a0_1,.int .i64 a0_2]) (t:=57) ?hr ?_;(case hd=>rfl);(case hg=>rfl);(case hr=>first|(go_simp;done)|(go_simp;rfl));intro gb351 hg w2 hbox hb;have BK351:=am (hbox);have GW351:=am (ge_ bl hg);have GE351:=am (ge_ bl hg);replace HB:=am (below_step bl hb);clear hb hbox hg)|((with_reducible refine gate_dst (N:=2) rfl ?_);refine box_event ?hg (N:=2) ?hd (cs := #[.int .i64 0,.int .i64 0,.int .i64 0]) (t:=55) ?hr ?_;(case hd=>rfl);(case hg=>rfl);(case hr=>first|(go_simp;done)|(go_simp;rfl));intro gb352 hg w3 hbox hb;have BK352:=am (hbox);have GW352:=am (ge_ bl hg);have GE352:=am (ge_ bl hg);replace HB:=am (below_step bl hb);have NB351_352:=am (nl (bup BK351.out) hg);have NB352_351:=am (ng (bup BK351.out) hg);replace BK351:=am (blk_below (bup BK351.out) hb);clear hb hbox hg)|((with_reducible refine gate_dst (N:=3) rfl ?_);refine box_event ?hg (N:=3) ?hd (cs := #[.int .i64 0,.int .i64 0,.int .i64 0]) (t:=55) ?hr ?_;(case hd=>rfl);(case hg=>rfl);(case hr=>first|(go_simp;done)|(go_simp;rfl));intro gb353 hg w4 hbox hb;have BK353:=am (hbox);have GW353:=am (ge_ bl hg);have GE353:=am (ge_ bl hg);replace HB:=am (below_step bl hb);have NB351_353:=am (nl (bup BK351.out) hg);have NB353_351:=am (ng (bup BK351.out) hg);replace BK351:=am (blk_below (bup BK351.out) hb);have NB352_353:=am (nl (bup BK352.out) hg);have NB353_352:=am (ng (bup BK352.out) hg);replace BK352:=am (blk_below (bup BK352.out) hb);clear hb hbox hg;have hnb5:=NB351_352.out;have hnc5:=NB352_351.out;have hnb6:=NB351_353.out;have hnc6:=NB353_351.out;have hcz7_0:w4.cell? ⟨gb351,0,none⟩=some (.int .i64 a0_0):=(blk_cell BK351.out 0).trans rfl;have hcz7_1:w4.cell? ⟨gb351,1,none⟩=some (.int .i64 a0_1):=(blk_cell BK351.out 1).trans rfl;have hcz7_2:w4.cell? ⟨gb351,2,none⟩=some (.int .i64 a0_2):=(blk_cell BK351.out 2).trans rfl;have hfz7_0:=blk_frozen BK351.out 0;have hfz7_1:=blk_frozen BK351.out 1;have hfz7_2:=blk_frozen BK351.out 2;have hnb8:=NB353_352.out;have hnc8:=NB352_353.out;have hcz9_0:w4.cell? ⟨gb353,0,none⟩=some (.int .i64 0):=(blk_cell BK353.out 0).trans rfl;have hcz9_1:w4.cell? ⟨gb353,1,none⟩=some (.int .i64 0):=(blk_cell BK353.out 1).trans rfl;have hcz9_2:w4.cell? ⟨gb353,2,none⟩=some (.int .i64 0):=(blk_cell BK353.out 2).trans rfl;have hfz9_0:=blk_frozen BK353.out 0;have hfz9_1:=blk_frozen BK353.out 1;have hfz9_2:=blk_frozen BK353.out 2;have hcz10_0:w4.cell? ⟨gb352,0,none⟩=some (.int .i64 0):=(blk_cell BK352.out 0).trans rfl;have hcz10_1:w4.cell? ⟨gb352,1,none⟩=some (.int .i64 0):=(blk_cell BK352.out 1).trans rfl;have hcz10_2:w4.cell? ⟨gb352,2,none⟩=some (.int .i64 0):=(blk_cell BK352.out 2).trans rfl;have hfz10_0:=blk_frozen BK352.out 0;have hfz10_1:=blk_frozen BK352.out 1;have hfz10_2:=blk_frozen BK352.out 2))
 refine bodyPost_ret (results_cell_row rfl _ _ gb352 55 #[.int .i64 a0_0,.int .i64 a0_1,.int .i64 a0_2] (0,0) _ rfl (by(with_reducible repeat(first|refine bN_ ?_ _|refine bD_ ?_|refine bA_ ?_ _));refine blk_put (cs := #[.int .i64 a0_0,.int .i64 a0_1,.int .i64 0]) ?_ 2 _ rfl;(with_reducible repeat(first|refine bN_ ?_ _|refine bD_ ?_|refine bA_ ?_ _));refine blk_put (cs := #[.int .i64 a0_0,.int .i64 0,.int .i64 0]) ?_ 1 _ rfl;(with_reducible repeat(first|refine bN_ ?_ _|refine bD_ ?_|refine bA_ ?_ _));refine blk_put (cs := #[.int .i64 0,.int .i64 0,.int .i64 0]) ?_ 0 _ rfl;(with_reducible repeat(first|refine bN_ ?_ _|refine bD_ ?_|refine bA_ ?_ _));refine blk_far ?_ NB352_353.out _;(with_reducible repeat(first|refine bN_ ?_ _|refine bD_ ?_|refine bA_ ?_ _));refine blk_far ?_ NB352_353.out _;(with_reducible repeat(first|refine bN_ ?_ _|refine bD_ ?_|refine bA_ ?_ _));refine blk_far ?_ NB352_353.out _;exact bup BK352.out) Try.underlying55 rfl (by kernel_rfl)) rfl ?_
 exact⟨fin1,bl⟩

def laws_toNoteS.l0:Nat→List (S57)→List (S55)→Int→Option ((List (S55)))
 | 0,_,_,_=>none
 | k+1,x0,x3,x4=>if x4<(x0.length:Int) then(if 0≤x4 then((laws_toNote.f ((rd_T57 x0 x4).f0) ((rd_T57 x0 x4).f1) ((rd_T57 x0 x4).f2)).bind fun bt358=>(if x4<(x3.length:Int) then(laws_toNoteS.l0 k x0 (x3.set (x4:Int).toNat (⟨bt358.1,bt358.2.1,bt358.2.2⟩:S55)) (wrap64 (x4+1))) else(none))) else(none)) else(some x3)
def laws_toNoteS.f (k:Nat) (l0:List (S57)):Option ((List (S55))):=if 0≤(l0.length:Int) then(if((l0.length:Int):Int).toNat≤11728124029610 then(laws_toNoteS.l0 k l0 (List.replicate ((l0.length:Int):Int).toNat z55) 0) else(none)) else(none)
set_option maxHeartbeats 8000000 in
set_option maxRecDepth 100000 in
theorem laws_toNoteS.calls (k:Nat) (A0:Option Addr) (c0:Nat) (l0:List (S57)) (r:List (S55)) (w:World) (hr0:Kd.C k57 w A0 l0.length l0) (hc0:l0.length≤c0) (h:laws_toNoteS.f k l0=some r) :
  Calls Try.prog 10 #[.slice A0 l0.length c0] w fun e w'=>∃ v0_:Value,e = .returned (v0_)∧Kd.R k55 55 w' w.heap.size (fun _=>True) v0_ r∧Below w.heap.size w w':=by
 have hu57:=Try.underlying57
 have hu55:=Try.underlying55
 have HR0:=am hr0
 have HC0:=am hc0
 clear hr0 hc0
 have HB:=am (Below.refl w.heap.size w)
 have H:(if 0≤(l0.length:Int) then(if((l0.length:Int):Int).toNat≤11728124029610 then(laws_toNoteS.l0 k l0 (List.replicate ((l0.length:Int):Int).toNat z55) 0) else(none)) else(none))=some r:=h
 clear h
 obtain⟨c2,H⟩:=ifp H
 have c2b0:=eq_true c2
 have c2b1:decide (0≤(l0.length:Int))=true:=decide_eq_true c2
 clear c2
 obtain⟨c3,H⟩:=ifp H
 have c3b0:=eq_true c3
 have c3b1:decide (((l0.length:Int):Int).toNat≤11728124029610)=true:=decide_eq_true c3
 clear c3
 obtain⟨y354,hy354⟩:∃ y_:List (S55),y_=(List.replicate ((l0.length:Int):Int).toNat z55):=⟨_,rfl⟩
 replace H:(laws_toNoteS.l0 k l0 y354 0)=some r:=by subst hy354;exact H
 have Ny354:=am hy354
 clear hy354
 have H':=am H
 clear H
 go_enter Try.func10,Try.ntmps10
 go_wp2_with (first|((with_reducible refine gate_dst (N:=7) rfl ?_);refine Kd.R_make k55 _ 55 rfl (N:=7) rfl 36 _ _ rfl (l0.length:Int) rfl rfl Try.underlying36 (.agg #[(.int .i64 0),(.int .i64 0),(.int .i64 0)]) 24 info55 rfl (by decide) (by omega) z55 (ok:=fun _=>True) (okp:=fun _=>True) (k55_mkM _ _ _ z55 ) (fun _ hk=>hk) trivial (od) (Nat.le_trans (Nat.mul_le_mul_right _ (od:(l0.length:Int).toNat≤11728124029610)) (by omega)) (Below.refl _ _) (Nat.le_refl _) ?_;intro v355 w4 ho5 hb hg_ hnew_;clear hg_ hnew_;(first|rw[← Ny354.out] at ho5|(simp only[Int.reduceToNat] at ho5;rw[← Ny354.out] at ho5));have HO356:=am (Kd.R_lower ho5 (below_size bl));replace HB:=am (below_step bl hb);clear hb ho5))
 go_loopg [4] k (fun kq v4 w'=>∃(x3_1:List (S55)) (x4_1:Int),v4 = .int .i64 x4_1∧Aside0 (laws_toNoteS.l0 kq l0 x3_1 x4_1=some r)∧Aside0 (kq≤k)∧Aside0 (Kd.R k55 55 w' w.heap.size (fun _=>True) v355 x3_1)∧Aside0 (Below w.heap.size w w'))
 case atStart=>exact⟨(y354),(0),fin2,H',⟨Nat.le_refl _⟩,⟨rup HO356.out⟩,⟨bl⟩⟩
 case round =>
  clear H'
  try clear c1
  try clear c2
  try clear c2b0
  try clear c2b1
  try clear p2
  try clear c3
  try clear c3b0
  try clear c3b1
  obtain⟨x3_1,x4_1,rfl,HA,HK1,HO_3,HB⟩:=hrel
  cases gk with
  | zero=>exact absurd HA.out (by simp [laws_toNoteS.l0])
  | succ k1 =>
   have H:=HA.out
   clear HA
   simp only[laws_toNoteS.l0] at H
   rcases itc H with⟨c6,H⟩|⟨c6,H⟩
   ·have c6b0:=decide_eq_true c6
    clear c6
    obtain⟨c7b0,H⟩:=ifb H
    obtain⟨⟨t358,t359,t360⟩,A8,H⟩:=bnd H;dsimp only at H
    obtain⟨c9b0,H⟩:=ifb H
    obtain⟨y361,hy361⟩:∃ y_:List (S55),y_=(x3_1.set (x4_1:Int).toNat (⟨t358,t359,t360⟩:S55)):=⟨_,rfl⟩
    replace H:(laws_toNoteS.l0 k1 l0 y361 (wrap64 (x4_1+1)))=some r:=by subst hy361;exact H
    have Ny361:=am hy361
    clear hy361
    have H':=am H
    clear H
    have p357:0≤(x4_1:Int):=od
    have q357:x4_1<(l0.length:Int):=od
    obtain⟨ad357,e357,hx357_0,hx357_1,hx357_2⟩:=at_T57 HR0.out x4_1 p357 q357
    cases e357
    replace hx357_0:=(HB.out.cell (World.block_lt_of_cell? w _ hx357_0)).trans hx357_0
    replace hx357_1:=(HB.out.cell (World.block_lt_of_cell? w _ hx357_1)).trans hx357_1
    replace hx357_2:=(HB.out.cell (World.block_lt_of_cell? w _ hx357_2)).trans hx357_2
    replace p357:=eq_true p357
    replace q357:=eq_true q357
    go_wp2_with (first|((with_reducible refine gate_callee (f:=23) rfl ?_);refine goesL_ (some 20) rfl rfl Try.func23 (by kernel_rfl) rfl #[.agg #[.int .i64 ((rd_T57 l0 x4_1).f0),.int .i64 ((rd_T57 l0 x4_1).f1),.int .i64 ((rd_T57 l0 x4_1).f2)]] rfl tl ?_;(with_reducible refine(laws_toNote.calls ((rd_T57 l0 x4_1).f0) ((rd_T57 l0 x4_1).f1) ((rd_T57 l0 x4_1).f2) t358 t359 t360 _ A8.out).mono ?_);rintro e w11 ⟨rfl,hb⟩;refine⟨_,rfl,?_⟩;replace HO_3:=am (Kd.R_below (rup HO_3.out) hb);replace HB:=am (below_step bl hb);(try clear hb);have p10:0≤(x4_1:Int):=od;have q10:(x4_1:Int)<((x3_1.length:Int):Int):=od;obtain⟨go10,co10,eo10,gb10,gl10,cl10,HG10⟩:=Kd.R_form HO_3.out (by omega);(first|cases eo10|(injection eo10 with ea_ en_ ec_;(first|subst ea_|(injection ea_ with ea_;subst ea_));subst ec_;clear en_));have GB10:=am gb10;have GG10:=am HG10;clear gb10 gl10 HG10;obtain⟨ce10,hcl10,hM10,hcc10,hfr10⟩:=Kd.R_elem HO_3.out z55 (x4_1:Int) p10 q10;obtain rfl:=k55_openM hM10;have hx10_0:w11.cell? ⟨go10,(x4_1:Int).toNat*3,none⟩=some (.int .i64 ((rd_T55 x3_1 x4_1).f0)):=hcc10 0 _ rfl;have hx10_1:w11.cell? ⟨go10,(x4_1:Int).toNat*3+1,none⟩=some (.int .i64 ((rd_T55 x3_1 x4_1).f1)):=hcc10 1 _ rfl;have hx10_2:w11.cell? ⟨go10,(x4_1:Int).toNat*3+2,none⟩=some (.int .i64 ((rd_T55 x3_1 x4_1).f2)):=hcc10 2 _ rfl;have hf10_0:w11.frozen? ⟨go10,(x4_1:Int).toNat*3,none⟩=false:=hfr10 0;have hf10_1:w11.frozen? ⟨go10,(x4_1:Int).toNat*3+1,none⟩=false:=hfr10 1;have hf10_2:w11.frozen? ⟨go10,(x4_1:Int).toNat*3+2,none⟩=false:=hfr10 2;(try clear hcl10);(try clear hcc10);(try clear hfr10);(try clear hM10);replace p10:=eq_true p10;replace q10:=eq_true q10;have HX12:=am (show Kd.R k55 55 w11 w.heap.size (fun _=>True) (.slice (some ⟨go10,0,none⟩) x3_1.length co10) x3_1 from(rup HO_3.out));obtain⟨ce12,hcl12,hM12,hcc12,hfr12⟩:=Kd.R_elem HX12.out z55 (x4_1:Int) (od) (by have h_:(x4_1:Int)<((x3_1.length:Int):Int):=od;first|exact h_|(have e_:=(Kd.R_reads' HO_3.out).1;omega)|simpa using h_);obtain rfl:=k55_openM hM12;have HP12:=Kd.R_seg HX12.out (x4_1:Int) (od) (by have h_:(x4_1:Int)<((x3_1.length:Int):Int):=od;first|exact h_|(have e_:=(Kd.R_reads' HO_3.out).1;omega)|simpa using h_) (seg:=[.int .i64 t358,.int .i64 t359,.int .i64 t360]) (j:=0) hcl12 hcc12 (show 3≤3 from by decide) (x':=(⟨t358,t359,t360⟩:S55)) (k55_mkM _ _ _ (⟨t358,t359,t360⟩:S55) ) (fun _ hk=>hk);have hx12_0:=hcc12 0 _ rfl;(try simp only[show(k55).sz=3 from rfl,Nat.mul_one,Nat.add_zero] at hx12_0);have hf12_0:=hfr12 0;(try simp only[show(k55).sz=3 from rfl,Nat.mul_one,Nat.add_zero] at hf12_0);have hx12_1:=hcc12 1 _ rfl;(try simp only[show(k55).sz=3 from rfl,Nat.mul_one,Nat.add_zero] at hx12_1);have hf12_1:=hfr12 1;(try simp only[show(k55).sz=3 from rfl,Nat.mul_one,Nat.add_zero] at hf12_1);have hx12_2:=hcc12 2 _ rfl;(try simp only[show(k55).sz=3 from rfl,Nat.mul_one,Nat.add_zero] at hx12_2);have hf12_2:=hfr12 2;(try simp only[show(k55).sz=3 from rfl,Nat.mul_one,Nat.add_zero] at hf12_2);(try clear hcl12);(try clear hcc12);(try clear hfr12);(try clear hM12))|((with_reducible refine gate_store (t:=55) (p:=21) rfl ?_);refine store_event (t:=55) (p:=21) (v:=?vo_w13) (w1:=(((w11.setCell ⟨go10,(x4_1:Int).toNat*3,none⟩ (.int .i64 t358)).setCell ⟨go10,(x4_1:Int).toNat*3+1,none⟩ (.int .i64 t359)).setCell ⟨go10,(x4_1:Int).toNat*3+2,none⟩ (.int .i64 t360))) ?hg ?ho ?hn ?hr ?_;(case ho=>rfl);(case hg=>rfl);(case hn=>rfl);(case hr=>first|(go_simp;done)|(go_simp;rfl));intro w13 hw;have hg:w11.grownBy w13 (some go10):=(by rw[hw];exact HP12.2);have hp_:Kd.R k55 55 w13 w.heap.size (fun _=>True) (.slice (some ⟨go10,0,none⟩) x3_1.length co10) y361:=(by rw[hw,Ny361.out];exact HP12.1);clear HP12;replace HO_3:=am (hp_);replace HB:=am ((by rw[hw];exact below_set (below_set (below_set (HB.out) GB10.out) GB10.out) GB10.out:Below w.heap.size w w13));clear hg hw hp_))
    go_roundg k1
    case measure=>have:=HK1.out;omega
    case rel=>exact⟨(y361),(wrap64 (x4_1+1)),fin2,H',⟨by have:=HK1.out;omega⟩,⟨rup HO_3.out⟩,⟨bl⟩⟩
   ·have c6b0:=decide_eq_false c6
    clear c6
    obtain rfl:=Option.some.inj H
    go_wp2
    go_ret
    exact⟨_,fin1,by(with_reducible repeat(first|apply Kd.R_alloc|apply Kd.R_drewN|apply Kd.R_drew));exact HO_3.out,bl⟩

def impl_isPitch.f (a0:Int):Option (Bool):=if a0≥24 then(some (decide (a0≤96))) else(some false)
set_option maxHeartbeats 8000000 in
set_option maxRecDepth 100000 in
theorem impl_isPitch.calls (a0:Int) (r:Bool) (w:World) (h:impl_isPitch.f a0=some r) :
  Calls Try.prog 43 #[.int .i64 a0] w fun e w'=>e = .returned (.bool r)∧Drawn0 w w':=by
 have H:(if a0≥24 then(some (decide (a0≤96))) else(some false))=some r:=h
 clear h
 rcases itc H with⟨c2,H⟩|⟨c2,H⟩
 ·have c2b0:decide (24≤a0)=true:=decide_eq_true c2
  clear c2
  obtain rfl:=Option.some.inj H
  go_enter Try.func43,Try.ntmps43
  go_wp2
  go_ret
  exact⟨by first|rfl|(simp;done)|(simp [*];done),by repeat(first|exact Drawn0.refl _|apply Drawn0.step)⟩
 ·have c2b0:decide (24≤a0)=false:=decide_eq_false c2
  clear c2
  obtain rfl:=Option.some.inj H
  go_enter Try.func43,Try.ntmps43
  go_wp2
  go_ret
  exact⟨by first|rfl|(simp;done)|(simp [*];done),by repeat(first|exact Drawn0.refl _|apply Drawn0.step)⟩

end Go.Proofs.Ythmpginbaafbhaa.PFnExactRepairToPlay
