/- Walks of functions that FnExactShiftToPass reaches. No conditions beyond the arguments' being read. -/
import Derived.Test.YtipklbjbgbbgpaaGreatSShiftToPass0
import Derived.Test.YtipklbjbgbbgpaaGreatSShiftToPass5
import Derived.Test.YtipklbjbgbbgpaaGreatSShiftToPass8
namespace Go.Proofs.YtipklbjbgbbgpaaGreat.PFnExactShiftToPass
open Go.RowKit Go.Proofs.YtipklbjbgbbgpaaGreatW.PrintWords Go.Proofs.YtipklbjbgbbgpaaGreatW.PrintLast Go.Proofs.YtipklbjbgbbgpaaGreatW.PrintMore
attribute [local go_sem] max2_int min2_int max_two min_two max_three min_three max_four min_four
set_option linter.unusedVariables false
set_option linter.unusedSimpArgs false

def spec_ShiftToPass.l0:Nat→List (S55)→List (S59)→Int→List Int→Int→Int→List Int→Int→Int→Int→Int→Option (Int×Bool)
 | 0,_,_,_,_,_,_,_,_,_,_,_=>none
 | k+1,x1,x2,x4,x23,x24,x25,x253000,x253001,x254000,x254001,x254002=>if x25<x24 then(if 0≤x25 then(if x25<(x23.length:Int) then((spec_MoveSheet.f k x2 (rd x23 x25)).bind fun bt259=>(if bt259.2=true then((spec_vfFaults.f k x253000 x253001 x1 bt259.1 x254000 x254001 x254002 x4).bind fun t263=>(if(t263.length:Int)=0 then(some (rd x23 x25,true)) else(spec_ShiftToPass.l0 k x1 x2 x4 x23 x24 (wrap64 (x25+1)) x253000 x253001 x254000 x254001 x254002))) else(spec_ShiftToPass.l0 k x1 x2 x4 x23 x24 (wrap64 (x25+1)) x253000 x253001 x254000 x254001 x254002))) else(none)) else(none)) else(some (0,false))
def spec_ShiftToPass.f (k:Nat) (l0_0:List Int) (a0_1:Int) (l1:List (S55)) (l2:List (S59)) (a3_0:Int) (a3_1:Int) (a3_2:Int) (a4:Int):Option (Int×Bool):=(spec_vfAll.f k l0_0 a0_1 l1 l2 a3_0 a3_1 a3_2 a4).bind fun t254=>(if t254=true then((spec_trOrder.f k 100).bind fun t255=>(spec_ShiftToPass.l0 k l1 l2 a4 t255 (t255.length:Int) 0 l0_0 a0_1 a3_0 a3_1 a3_2)) else(some (0,false)))
set_option maxHeartbeats 8000000 in
set_option maxRecDepth 100000 in
theorem spec_ShiftToPass.calls (k:Nat) (A0_0:Option Addr) (c0_0:Nat) (l0_0:List Int) (a0_1:Int) (A1:Option Addr) (c1:Nat) (l1:List (S55)) (A2:Option Addr) (c2:Nat) (l2:List (S59)) (a3_0:Int) (a3_1:Int) (a3_2:Int) (a4:Int) (r1:Int) (r2:Bool) (w:World) (hr0_0:Kd.C (Kd.int .i64) w A0_0 l0_0.length l0_0) (hc0_0:l0_0.length≤c0_0) (hr1:Kd.C k55 w A1 l1.length l1) (hc1:l1.length≤c1) (hr2:Kd.C k59 w A2 l2.length l2) (hc2:l2.length≤c2) (h:spec_ShiftToPass.f k l0_0 a0_1 l1 l2 a3_0 a3_1 a3_2 a4=some (r1,r2)) :
  Calls Tryz.prog 7 #[.agg #[.slice A0_0 l0_0.length c0_0,.int .i64 a0_1],.slice A1 l1.length c1,.slice A2 l2.length c2,.agg #[.int .i64 a3_0,.int .i64 a3_1,.int .i64 a3_2],.int .i64 a4] w fun e w'=>e = .returned (.tuple #[.int .i64 r1,.bool r2])∧Below w.heap.size w w':=by
 have hu34:=Tryz.underlying34
 have hu40:=Tryz.underlying40
 have HR0_0:=am hr0_0
 have HC0_0:=am hc0_0
 clear hr0_0 hc0_0
 have HR1:=am hr1
 have HC1:=am hc1
 clear hr1 hc1
 have HR2:=am hr2
 have HC2:=am hc2
 clear hr2 hc2
 have HB:=am (Below.refl w.heap.size w)
 have H:((spec_vfAll.f k l0_0 a0_1 l1 l2 a3_0 a3_1 a3_2 a4).bind fun t254=>(if t254=true then((spec_trOrder.f k 100).bind fun t255=>(spec_ShiftToPass.l0 k l1 l2 a4 t255 (t255.length:Int) 0 l0_0 a0_1 a3_0 a3_1 a3_2)) else(some (0,false))))=some (r1,r2):=h
 clear h
 replace H:=Option.bind_eq_some_iff.mp H
 obtain⟨t254,A60,H⟩:=H
 replace H:(if t254=true then((spec_trOrder.f k 100).bind fun t255=>(spec_ShiftToPass.l0 k l1 l2 a4 t255 (t255.length:Int) 0 l0_0 a0_1 a3_0 a3_1 a3_2)) else(some (0,false)))=some (r1,r2):=H
 have A6:=am A60
 clear A60
 by_cases c7:t254=true
 ·subst c7
  replace H:=(if_pos rfl).symm.trans H
  replace H:=Option.bind_eq_some_iff.mp H
  obtain⟨t255,A80,H⟩:=H
  replace H:(spec_ShiftToPass.l0 k l1 l2 a4 t255 (t255.length:Int) 0 l0_0 a0_1 a3_0 a3_1 a3_2)=some (r1,r2):=H
  have A8:=am A80
  clear A80
  have H':=am H
  clear H
  go_enter Tryz.func7,Tryz.ntmps7
  go_wp2_with (first|((with_reducible refine gate_dst (N:=5) rfl ?_);(try(refine gate_guard (by rfl) ?_;dsimp only));refine box_event ?hg (N:=5) ?hd (cs := #[.slice A0_0 l0_0.length c0_0,.int .i64 a0_1]) (t:=34) ?hr ?_;(case hd=>rfl);(case hg=>rfl);(case hr=>first|(go_simp;done)|(go_simp;rfl));intro gb252 hg w9 hbox hb;have BK252:=am (hbox);have GW252:=am (ge_ bl hg);have GE252:=am (ge_ bl hg);replace HB:=am (below_step bl hb);clear hb hbox hg)|((with_reducible refine gate_dst (N:=8) rfl ?_);(try(refine gate_guard (by rfl) ?_;dsimp only));refine box_event ?hg (N:=8) ?hd (cs := #[.int .i64 a3_0,.int .i64 a3_1,.int .i64 a3_2]) (t:=40) ?hr ?_;(case hd=>rfl);(case hg=>rfl);(case hr=>first|(go_simp;done)|(go_simp;rfl));intro gb253 hg w10 hbox hb;have BK253:=am (hbox);have GW253:=am (ge_ bl hg);have GE253:=am (ge_ bl hg);replace HB:=am (below_step bl hb);have NB252_253:=am (nl (bup BK252.out) hg);have NB253_252:=am (ng (bup BK252.out) hg);replace BK252:=am (blk_below (bup BK252.out) hb);clear hb hbox hg;have hnb11:=NB252_253.out;have hnc11:=NB253_252.out;have hcz12_0:=bc BK252.out 0;have hcz12_1:=bc BK252.out 1;have hfz12_0:=blk_frozen BK252.out 0;have hfz12_1:=blk_frozen BK252.out 1;have hcz13_0:=bc BK253.out 0;have hcz13_1:=bc BK253.out 1;have hcz13_2:=bc BK253.out 2;have hfz13_0:=blk_frozen BK253.out 0;have hfz13_1:=blk_frozen BK253.out 1;have hfz13_2:=blk_frozen BK253.out 2)|((with_reducible refine gate_callee (f:=17) rfl ?_);refine goesL_ (some 21) rfl rfl Tryz.func17 (by kernel_rfl) rfl #[.agg #[.slice A0_0 l0_0.length c0_0,.int .i64 a0_1],.slice A1 l1.length c1,.slice A2 l2.length c2,.agg #[.int .i64 a3_0,.int .i64 a3_1,.int .i64 a3_2],.int .i64 a4] rfl tl ?_;(with_reducible refine(spec_vfAll.calls k _ _ l0_0 a0_1 _ _ l1 _ _ l2 a3_0 a3_1 a3_2 a4 true _ ?side1 ?side2 ?side3 ?side4 ?side5 ?side6 A6.out).mono ?_);(case side1=>exact cup (Kd.C_below HR0_0.out HB.out));(case side2=>exact HC0_0.out);(case side3=>exact cup (Kd.C_below HR1.out HB.out));(case side4=>exact HC1.out);(case side5=>exact cup (Kd.C_below HR2.out HB.out));(case side6=>exact HC2.out);rintro e w14 ⟨rfl,hb⟩;refine⟨_,rfl,?_⟩;replace BK252:=am (blk_below (bup BK252.out) hb);replace BK253:=am (blk_below (bup BK253.out) hb);replace HB:=am (below_step bl hb);(try clear hb))|((with_reducible refine gate_callee (f:=18) rfl ?_);refine goesL_ (some 23) rfl rfl Tryz.func18 (by kernel_rfl) rfl #[.int .i64 100] rfl tl ?_;(with_reducible refine(spec_trOrder.calls k 100 t255 _ A8.out).mono ?_);rintro e w15 ⟨v256,rfl,ho0,hb⟩;refine⟨_,rfl,?_⟩;have HO257:=am (Kd.R_lower ho0 (below_size bl));replace BK252:=am (blk_below (bup BK252.out) hb);replace BK253:=am (blk_below (bup BK253.out) hb);replace HB:=am (below_step bl hb);(try clear hb);(try clear ho0);obtain⟨Ao16,co16,eo16⟩:=Kd.R_slice HO257.out;subst eo16))
  go_loopg [25] k (fun kq v25 w'=>∃(x25_1:Int),v25 = .int .i64 x25_1∧Aside0 (spec_ShiftToPass.l0 kq l1 l2 a4 t255 (t255.length:Int) x25_1 l0_0 a0_1 a3_0 a3_1 a3_2=some (r1,r2))∧Aside0 (kq≤k)∧Aside0 (Kd.R (Kd.int .i64) 3 w' w.heap.size (fun _=>True) (.slice Ao16 t255.length co16) t255)∧Aside0 (w'.heap[gb252]?=some (.cells #[(.slice A0_0 l0_0.length c0_0),.int .i64 a0_1] 34 (0,0)))∧Aside0 (w'.heap[gb253]?=some (.cells #[.int .i64 a3_0,.int .i64 a3_1,.int .i64 a3_2] 40 (0,0)))∧Aside0 (Below w.heap.size w w'))
  case atStart=>exact⟨(0),fin2,H',⟨Nat.le_refl _⟩,⟨rup HO257.out⟩,⟨bup BK252.out⟩,⟨bup BK253.out⟩,⟨bl⟩⟩
  case round =>
   clear H'
   try clear c7
   try clear hcz12_0
   try clear hcz12_1
   try clear hcz13_0
   try clear hcz13_1
   try clear hcz13_2
   try clear hfz12_0
   try clear hfz12_1
   try clear hfz13_0
   try clear hfz13_1
   try clear hfz13_2
   obtain⟨x25_1,rfl,HA,HK1,HO_23,BK252,BK253,HB⟩:=hrel
   cases gk with
   | zero=>exact absurd HA.out (by simp [spec_ShiftToPass.l0])
   | succ k1 =>
    have H:=HA.out
    clear HA
    simp only[spec_ShiftToPass.l0] at H
    rcases itc H with⟨c17,H⟩|⟨c17,H⟩
    ·have c17b0:=decide_eq_true c17
     clear c17
     obtain⟨c18b0,H⟩:=ifb H
     obtain⟨c19b0,H⟩:=ifb H
     replace H:=Option.bind_eq_some_iff.mp H
     obtain⟨⟨t259,t260⟩,A200,H⟩:=H
     replace H:(if t260=true then((spec_vfFaults.f k1 l0_0 a0_1 l1 t259 a3_0 a3_1 a3_2 a4).bind fun t263=>(if(t263.length:Int)=0 then(some (rd t255 x25_1,true)) else(spec_ShiftToPass.l0 k1 l1 l2 a4 t255 (t255.length:Int) (wrap64 (x25_1+1)) l0_0 a0_1 a3_0 a3_1 a3_2))) else(spec_ShiftToPass.l0 k1 l1 l2 a4 t255 (t255.length:Int) (wrap64 (x25_1+1)) l0_0 a0_1 a3_0 a3_1 a3_2))=some (r1,r2):=H
     have A20:=am A200
     clear A200
     by_cases c21:t260=true
     ·subst c21
      replace H:=(if_pos rfl).symm.trans H
      replace H:=Option.bind_eq_some_iff.mp H
      obtain⟨t263,A220,H⟩:=H
      replace H:(if(t263.length:Int)=0 then(some (rd t255 x25_1,true)) else(spec_ShiftToPass.l0 k1 l1 l2 a4 t255 (t255.length:Int) (wrap64 (x25_1+1)) l0_0 a0_1 a3_0 a3_1 a3_2))=some (r1,r2):=H
      have A22:=am A220
      clear A220
      rcases itc H with⟨c23,H⟩|⟨c23,H⟩
      ·have c23b0:((t263.length:Int) == 0)=true:=beq_iff_eq.mpr c23
       have c23b1:((t263.length:Int) != 0)=false:=bne_eq_false_iff_eq.mpr c23
       clear c23
       simp only[Option.some.injEq,Prod.mk.injEq] at H
       obtain⟨rfl,rfl⟩:=H
       have p258:0≤(x25_1:Int):=od
       have q258:x25_1<(t255.length:Int):=od
       obtain⟨ad258,e258,hx258_0⟩:=Kd.at_int (Kd.R_reads' HO_23.out).2.2 x25_1 p258 q258
       cases e258
       replace p258:=eq_true p258
       replace q258:=eq_true q258
       go_wp2_with (first|((with_reducible refine gate_callee (f:=19) rfl ?_);refine goesL_ (some 32) rfl rfl Tryz.func19 (by kernel_rfl) rfl #[.slice A2 l2.length c2,.int .i64 (rd t255 x25_1)] rfl tl ?_;(with_reducible refine(spec_MoveSheet.calls k1 _ _ l2 (rd t255 x25_1) t259 true _ ?side1 ?side2 A20.out).mono ?_);(case side1=>exact cup (Kd.C_below HR2.out HB.out));(case side2=>exact HC2.out);rintro e w24 ⟨v261,rfl,ho0,hb⟩;refine⟨_,rfl,?_⟩;replace HO_23:=am (Kd.R_below (rup HO_23.out) hb);have HO262:=am (Kd.R_lower ho0 (below_size bl));replace BK252:=am (blk_below (bup BK252.out) hb);replace BK253:=am (blk_below (bup BK253.out) hb);replace HB:=am (below_step bl hb);(try clear hb);(try clear ho0);have hnb25:=NB252_253.out;have hnc25:=NB253_252.out;have hcz26_0:=bc BK252.out 0;have hcz26_1:=bc BK252.out 1;have hfz26_0:=blk_frozen BK252.out 0;have hfz26_1:=blk_frozen BK252.out 1;have hcz27_0:=bc BK253.out 0;have hcz27_1:=bc BK253.out 1;have hcz27_2:=bc BK253.out 2;have hfz27_0:=blk_frozen BK253.out 0;have hfz27_1:=blk_frozen BK253.out 1;have hfz27_2:=blk_frozen BK253.out 2;obtain⟨Ao28,co28,eo28⟩:=Kd.R_slice HO262.out;subst eo28)|(go_at_call 20;(with_reducible refine(spec_vfFaults.calls k1 _ _ l0_0 a0_1 _ _ l1 _ _ t259 a3_0 a3_1 a3_2 a4 t263 _ ?side1 ?side2 ?side3 ?side4 ?side5 ?side6 A22.out).mono ?_);(case side1=>exact cup (Kd.C_below HR0_0.out HB.out));(case side2=>exact HC0_0.out);(case side3=>exact cup (Kd.C_below HR1.out HB.out));(case side4=>exact HC1.out);(case side5=>repeat(first|exact(Kd.R_reads' HO262.out).2.2|(with_reducible refine Kd.C_alloc ?_ _)|(with_reducible refine Kd.C_drewN ?_ _)|(with_reducible refine Kd.C_drew ?_)));(case side6=>exact(Kd.R_reads' HO262.out).2.1);rintro e w29 ⟨v264,rfl,ho0,hb⟩;replace HO262:=am (Kd.R_below (rup HO262.out) hb);have HO265:=am (Kd.S_lower (Kd.S_new' ho0 (Kd.R_lt (rup HO_23.out))) (below_size bl));replace HO_23:=am (Kd.R_below (rup HO_23.out) hb);replace BK252:=am (blk_below (bup BK252.out) hb);replace BK253:=am (blk_below (bup BK253.out) hb);replace HB:=am (below_step bl hb);(try clear hb);(try clear ho0);obtain⟨Ao30,co30,eo30⟩:=Kd.S_slice HO265.out;subst eo30))
       go_ret2
       exact⟨fin1,bl⟩
      ·have c23b0:((t263.length:Int) == 0)=false:=beq_eq_false_iff_ne.mpr c23
       have c23b1:((t263.length:Int) != 0)=true:=bne_iff_ne.mpr c23
       have c23b2:¬ (t263=[]):=fun h_=>c23 (by rw[h_];rfl)
       have H':=am H
       clear H
       have p258:0≤(x25_1:Int):=od
       have q258:x25_1<(t255.length:Int):=od
       obtain⟨ad258,e258,hx258_0⟩:=Kd.at_int (Kd.R_reads' HO_23.out).2.2 x25_1 p258 q258
       cases e258
       replace p258:=eq_true p258
       replace q258:=eq_true q258
       go_wp2_with (first|((with_reducible refine gate_callee (f:=19) rfl ?_);refine goesL_ (some 32) rfl rfl Tryz.func19 (by kernel_rfl) rfl #[.slice A2 l2.length c2,.int .i64 (rd t255 x25_1)] rfl tl ?_;(with_reducible refine(spec_MoveSheet.calls k1 _ _ l2 (rd t255 x25_1) t259 true _ ?side1 ?side2 A20.out).mono ?_);(case side1=>exact cup (Kd.C_below HR2.out HB.out));(case side2=>exact HC2.out);rintro e w31 ⟨v261,rfl,ho0,hb⟩;refine⟨_,rfl,?_⟩;replace HO_23:=am (Kd.R_below (rup HO_23.out) hb);have HO262:=am (Kd.R_lower ho0 (below_size bl));replace BK252:=am (blk_below (bup BK252.out) hb);replace BK253:=am (blk_below (bup BK253.out) hb);replace HB:=am (below_step bl hb);(try clear hb);(try clear ho0);have hnb32:=NB252_253.out;have hnc32:=NB253_252.out;have hcz33_0:=bc BK252.out 0;have hcz33_1:=bc BK252.out 1;have hfz33_0:=blk_frozen BK252.out 0;have hfz33_1:=blk_frozen BK252.out 1;have hcz34_0:=bc BK253.out 0;have hcz34_1:=bc BK253.out 1;have hcz34_2:=bc BK253.out 2;have hfz34_0:=blk_frozen BK253.out 0;have hfz34_1:=blk_frozen BK253.out 1;have hfz34_2:=blk_frozen BK253.out 2;obtain⟨Ao35,co35,eo35⟩:=Kd.R_slice HO262.out;subst eo35)|(go_at_call 20;(with_reducible refine(spec_vfFaults.calls k1 _ _ l0_0 a0_1 _ _ l1 _ _ t259 a3_0 a3_1 a3_2 a4 t263 _ ?side1 ?side2 ?side3 ?side4 ?side5 ?side6 A22.out).mono ?_);(case side1=>exact cup (Kd.C_below HR0_0.out HB.out));(case side2=>exact HC0_0.out);(case side3=>exact cup (Kd.C_below HR1.out HB.out));(case side4=>exact HC1.out);(case side5=>repeat(first|exact(Kd.R_reads' HO262.out).2.2|(with_reducible refine Kd.C_alloc ?_ _)|(with_reducible refine Kd.C_drewN ?_ _)|(with_reducible refine Kd.C_drew ?_)));(case side6=>exact(Kd.R_reads' HO262.out).2.1);rintro e w36 ⟨v264,rfl,ho0,hb⟩;replace HO262:=am (Kd.R_below (rup HO262.out) hb);have HO265:=am (Kd.S_lower (Kd.S_new' ho0 (Kd.R_lt (rup HO_23.out))) (below_size bl));replace HO_23:=am (Kd.R_below (rup HO_23.out) hb);replace BK252:=am (blk_below (bup BK252.out) hb);replace BK253:=am (blk_below (bup BK253.out) hb);replace HB:=am (below_step bl hb);(try clear hb);(try clear ho0);obtain⟨Ao37,co37,eo37⟩:=Kd.S_slice HO265.out;subst eo37))
       go_roundg k1
       case measure=>have:=HK1.out;omega
       case rel=>exact⟨(wrap64 (x25_1+1)),fin2,H',⟨by have:=HK1.out;omega⟩,⟨rup HO_23.out⟩,⟨bup BK252.out⟩,⟨bup BK253.out⟩,⟨bl⟩⟩
     ·replace c21:=Bool.eq_false_iff.mpr c21
      subst c21
      replace H:=(if_neg Bool.false_ne_true).symm.trans H
      have H':=am H
      clear H
      have p258:0≤(x25_1:Int):=od
      have q258:x25_1<(t255.length:Int):=od
      obtain⟨ad258,e258,hx258_0⟩:=Kd.at_int (Kd.R_reads' HO_23.out).2.2 x25_1 p258 q258
      cases e258
      replace p258:=eq_true p258
      replace q258:=eq_true q258
      go_wp2_with (first|((with_reducible refine gate_callee (f:=19) rfl ?_);refine goesL_ (some 32) rfl rfl Tryz.func19 (by kernel_rfl) rfl #[.slice A2 l2.length c2,.int .i64 (rd t255 x25_1)] rfl tl ?_;(with_reducible refine(spec_MoveSheet.calls k1 _ _ l2 (rd t255 x25_1) t259 false _ ?side1 ?side2 A20.out).mono ?_);(case side1=>exact cup (Kd.C_below HR2.out HB.out));(case side2=>exact HC2.out);rintro e w38 ⟨v261,rfl,ho0,hb⟩;refine⟨_,rfl,?_⟩;replace HO_23:=am (Kd.R_below (rup HO_23.out) hb);have HO262:=am (Kd.R_lower ho0 (below_size bl));replace BK252:=am (blk_below (bup BK252.out) hb);replace BK253:=am (blk_below (bup BK253.out) hb);replace HB:=am (below_step bl hb);(try clear hb);(try clear ho0)))
      go_roundg k1
      case measure=>have:=HK1.out;omega
      case rel=>exact⟨(wrap64 (x25_1+1)),fin2,H',⟨by have:=HK1.out;omega⟩,⟨rup HO_23.out⟩,⟨bup BK252.out⟩,⟨bup BK253.out⟩,⟨bl⟩⟩
    ·have c17b0:=decide_eq_false c17
     clear c17
     simp only[Option.some.injEq,Prod.mk.injEq] at H
     obtain⟨rfl,rfl⟩:=H
     go_wp2
     go_ret2
     exact⟨fin1,bl⟩
 ·replace c7:=Bool.eq_false_iff.mpr c7
  subst c7
  replace H:=(if_neg Bool.false_ne_true).symm.trans H
  simp only[Option.some.injEq,Prod.mk.injEq] at H
  obtain⟨rfl,rfl⟩:=H
  go_enter Tryz.func7,Tryz.ntmps7
  go_wp2_with (first|((with_reducible refine gate_dst (N:=5) rfl ?_);(try(refine gate_guard (by rfl) ?_;dsimp only));refine box_event ?hg (N:=5) ?hd (cs := #[.slice A0_0 l0_0.length c0_0,.int .i64 a0_1]) (t:=34) ?hr ?_;(case hd=>rfl);(case hg=>rfl);(case hr=>first|(go_simp;done)|(go_simp;rfl));intro gb252 hg w39 hbox hb;have BK252:=am (hbox);have GW252:=am (ge_ bl hg);have GE252:=am (ge_ bl hg);replace HB:=am (below_step bl hb);clear hb hbox hg)|((with_reducible refine gate_dst (N:=8) rfl ?_);(try(refine gate_guard (by rfl) ?_;dsimp only));refine box_event ?hg (N:=8) ?hd (cs := #[.int .i64 a3_0,.int .i64 a3_1,.int .i64 a3_2]) (t:=40) ?hr ?_;(case hd=>rfl);(case hg=>rfl);(case hr=>first|(go_simp;done)|(go_simp;rfl));intro gb253 hg w40 hbox hb;have BK253:=am (hbox);have GW253:=am (ge_ bl hg);have GE253:=am (ge_ bl hg);replace HB:=am (below_step bl hb);have NB252_253:=am (nl (bup BK252.out) hg);have NB253_252:=am (ng (bup BK252.out) hg);replace BK252:=am (blk_below (bup BK252.out) hb);clear hb hbox hg;have hnb41:=NB252_253.out;have hnc41:=NB253_252.out;have hcz42_0:=bc BK252.out 0;have hcz42_1:=bc BK252.out 1;have hfz42_0:=blk_frozen BK252.out 0;have hfz42_1:=blk_frozen BK252.out 1;have hcz43_0:=bc BK253.out 0;have hcz43_1:=bc BK253.out 1;have hcz43_2:=bc BK253.out 2;have hfz43_0:=blk_frozen BK253.out 0;have hfz43_1:=blk_frozen BK253.out 1;have hfz43_2:=blk_frozen BK253.out 2)|((with_reducible refine gate_callee (f:=17) rfl ?_);refine goesL_ (some 21) rfl rfl Tryz.func17 (by kernel_rfl) rfl #[.agg #[.slice A0_0 l0_0.length c0_0,.int .i64 a0_1],.slice A1 l1.length c1,.slice A2 l2.length c2,.agg #[.int .i64 a3_0,.int .i64 a3_1,.int .i64 a3_2],.int .i64 a4] rfl tl ?_;(with_reducible refine(spec_vfAll.calls k _ _ l0_0 a0_1 _ _ l1 _ _ l2 a3_0 a3_1 a3_2 a4 false _ ?side1 ?side2 ?side3 ?side4 ?side5 ?side6 A6.out).mono ?_);(case side1=>exact cup (Kd.C_below HR0_0.out HB.out));(case side2=>exact HC0_0.out);(case side3=>exact cup (Kd.C_below HR1.out HB.out));(case side4=>exact HC1.out);(case side5=>exact cup (Kd.C_below HR2.out HB.out));(case side6=>exact HC2.out);rintro e w44 ⟨rfl,hb⟩;refine⟨_,rfl,?_⟩;replace BK252:=am (blk_below (bup BK252.out) hb);replace BK253:=am (blk_below (bup BK253.out) hb);replace HB:=am (below_step bl hb);(try clear hb)))
  go_ret2
  exact⟨fin1,bl⟩

def laws_toIntS.l0:Nat→List Int→List Int→Int→Option (List Int)
 | 0,_,_,_=>none
 | k+1,x0,x3,x4=>if x4<(x0.length:Int) then(if 0≤x4 then(if x4<(x3.length:Int) then(laws_toIntS.l0 k x0 (x3.set (x4:Int).toNat (rd x0 x4)) (wrap64 (x4+1))) else(none)) else(none)) else(some x3)
def laws_toIntS.f (k:Nat) (l0:List Int):Option (List Int):=if 0≤(l0.length:Int) then(if((l0.length:Int):Int).toNat≤35184372088832 then(laws_toIntS.l0 k l0 (List.replicate ((l0.length:Int):Int).toNat 0) 0) else(none)) else(none)
set_option maxHeartbeats 8000000 in
set_option maxRecDepth 100000 in
theorem laws_toIntS.calls (k:Nat) (A0:Option Addr) (c0:Nat) (l0:List Int) (r:List Int) (w:World) (hr0:Kd.C (Kd.int .i64) w A0 l0.length l0) (hc0:l0.length≤c0) (h:laws_toIntS.f k l0=some r) :
  Calls Tryz.prog 21 #[.slice A0 l0.length c0] w fun e w'=>∃ v0_:Value,e = .returned (v0_)∧Kd.R (Kd.int .i64) 3 w' w.heap.size (fun _=>True) v0_ r∧Below w.heap.size w w':=by
 have HR0:=am hr0
 have HC0:=am hc0
 clear hr0 hc0
 have HB:=am (Below.refl w.heap.size w)
 have H:(if 0≤(l0.length:Int) then(if((l0.length:Int):Int).toNat≤35184372088832 then(laws_toIntS.l0 k l0 (List.replicate ((l0.length:Int):Int).toNat 0) 0) else(none)) else(none))=some r:=h
 clear h
 obtain⟨c2,H⟩:=ifp H
 have c2b0:=eq_true c2
 have c2b1:decide (0≤(l0.length:Int))=true:=decide_eq_true c2
 clear c2
 obtain⟨c3,H⟩:=ifp H
 have c3b0:=eq_true c3
 have c3b1:decide (((l0.length:Int):Int).toNat≤35184372088832)=true:=decide_eq_true c3
 clear c3
 obtain⟨y266,hy266⟩:∃ y_:List Int,y_=(List.replicate ((l0.length:Int):Int).toNat 0):=⟨_,rfl⟩
 replace H:(laws_toIntS.l0 k l0 y266 0)=some r:=by subst hy266;exact H
 have Ny266:=am hy266
 clear hy266
 have H':=am H
 clear H
 go_enter Tryz.func21,Tryz.ntmps21
 go_wp2_with (first|((with_reducible refine gate_dst (N:=7) rfl ?_);refine Kd.R_make (Kd.int .i64) _ 3 rfl (N:=7) rfl 22 _ _ rfl (l0.length:Int) rfl rfl Tryz.underlying22 (.int .i64 0) 8 info3 rfl (by decide) (by omega) 0 (ok:=fun _=>True) (okp:=fun _=>True) rfl (fun _ hk=>hk) trivial (od) (Nat.le_trans (Nat.mul_le_mul_right _ (od:(l0.length:Int).toNat≤35184372088832)) (by omega)) (Below.refl _ _) (Nat.le_refl _) ?_;intro v267 w4 ho5 hb hg_ hnew_;clear hg_ hnew_;(first|rw[← Ny266.out] at ho5|(simp only[Int.reduceToNat] at ho5;rw[← Ny266.out] at ho5));have HO268:=am (Kd.R_lower ho5 (below_size bl));replace HB:=am (below_step bl hb);clear hb ho5))
 go_loopg [4] k (fun kq v4 w'=>∃(x3_1:List Int) (x4_1:Int),v4 = .int .i64 x4_1∧Aside0 (laws_toIntS.l0 kq l0 x3_1 x4_1=some r)∧Aside0 (kq≤k)∧Aside0 (Kd.R (Kd.int .i64) 3 w' w.heap.size (fun _=>True) v267 x3_1)∧Aside0 (Below w.heap.size w w'))
 case atStart=>exact⟨(y266),(0),fin2,H',⟨Nat.le_refl _⟩,⟨rup HO268.out⟩,⟨bl⟩⟩
 case round =>
  clear H'
  try clear c2b0
  try clear c2b1
  try clear c3b0
  try clear c3b1
  obtain⟨x3_1,x4_1,rfl,HA,HK1,HO_3,HB⟩:=hrel
  cases gk with
  | zero=>exact absurd HA.out (by simp [laws_toIntS.l0])
  | succ k1 =>
   have H:=HA.out
   clear HA
   simp only[laws_toIntS.l0] at H
   rcases itc H with⟨c6,H⟩|⟨c6,H⟩
   ·have c6b0:=decide_eq_true c6
    clear c6
    obtain⟨c7b0,H⟩:=ifb H
    obtain⟨c8b0,H⟩:=ifb H
    obtain⟨y270,hy270⟩:∃ y_:List Int,y_=(x3_1.set (x4_1:Int).toNat (rd l0 x4_1)):=⟨_,rfl⟩
    replace H:(laws_toIntS.l0 k1 l0 y270 (wrap64 (x4_1+1)))=some r:=by subst hy270;exact H
    have Ny270:=am hy270
    clear hy270
    have H':=am H
    clear H
    have p269:0≤(x4_1:Int):=od
    have q269:x4_1<(l0.length:Int):=od
    obtain⟨ad269,e269,hx269_0⟩:=Kd.at_int HR0.out x4_1 p269 q269
    cases e269
    replace hx269_0:=(HB.out.cell (World.block_lt_of_cell? w _ hx269_0)).trans hx269_0
    replace p269:=eq_true p269
    replace q269:=eq_true q269
    have p9:0≤(x4_1:Int):=od
    have q9:(x4_1:Int)<((x3_1.length:Int):Int):=od
    obtain⟨go9,co9,eo9,gb9,gl9,cl9,HG9⟩:=Kd.R_form HO_3.out (by omega)
    (first|cases eo9|(injection eo9 with ea_ en_ ec_;(first|subst ea_|(injection ea_ with ea_;subst ea_));subst ec_;clear en_))
    have GB9:=am gb9
    have GG9:=am HG9
    clear gb9 gl9 HG9
    obtain⟨hx9_0,hf9_0⟩:=Kd.R_celln 0 HO_3.out (x4_1:Int) p9 q9
    replace p9:=eq_true p9
    replace q9:=eq_true q9
    have HP10:=Kd.R_putg HO_3.out (x4_1:Int) (rd l0 x4_1)
    go_wp2_with (first|((with_reducible refine gate_store (t:=3) (p:=20) rfl ?_);refine store_event (t:=3) (p:=20) (v:=?vo_w11) (w1:=(wr.setCell ⟨go9,(x4_1:Int).toNat,none⟩ (.int .i64 (rd l0 x4_1)))) ?hg ?ho ?hn ?hr ?_;(case ho=>rfl);(case hg=>rfl);(case hn=>rfl);(case hr=>first|(go_simp;done)|(go_simp;rfl));intro w11 hw;have hg:wr.grownBy w11 (some go9):=(by rw[hw];exact HP10.2);have hp_:Kd.R (Kd.int .i64) 3 w11 w.heap.size (fun _=>True) (.slice (some ⟨go9,0,none⟩) x3_1.length co9) y270:=(by rw[hw,Ny270.out];exact HP10.1);clear HP10;replace HO_3:=am (hp_);replace HB:=am ((by rw[hw];exact below_set (HB.out) GB9.out:Below w.heap.size w w11));clear hg hw hp_))
    go_roundg k1
    case measure=>have:=HK1.out;omega
    case rel=>exact⟨(y270),(wrap64 (x4_1+1)),fin2,H',⟨by have:=HK1.out;omega⟩,⟨rup HO_3.out⟩,⟨bl⟩⟩
   ·have c6b0:=decide_eq_false c6
    clear c6
    obtain rfl:=Option.some.inj H
    go_wp2
    go_ret
    exact⟨_,fin1,by(with_reducible repeat(first|apply Kd.R_alloc|apply Kd.R_drewN|apply Kd.R_drew));exact HO_3.out,bl⟩

def laws_toInstrument.f (k:Nat) (l0_0:List Int) (a0_1:Int):Option (List Int×Int):=(laws_toIntS.f k l0_0).bind fun t274=>(some (t274,a0_1))
set_option maxHeartbeats 8000000 in
set_option maxRecDepth 100000 in
theorem laws_toInstrument.calls (k:Nat) (A0_0:Option Addr) (c0_0:Nat) (l0_0:List Int) (a0_1:Int) (r1:List Int) (r2:Int) (w:World) (hr0_0:Kd.C (Kd.int .i64) w A0_0 l0_0.length l0_0) (hc0_0:l0_0.length≤c0_0) (h:laws_toInstrument.f k l0_0 a0_1=some (r1,r2)) :
  Calls Tryz.prog 8 #[.agg #[.slice A0_0 l0_0.length c0_0,.int .i64 a0_1]] w fun e w'=>∃ v0_:Value,e = .returned (.agg #[v0_,.int .i64 r2])∧Kd.R (Kd.int .i64) 3 w' w.heap.size (fun _=>True) v0_ r1∧Below w.heap.size w w':=by
 have hu24:=Tryz.underlying24
 have hu34:=Tryz.underlying34
 have HR0_0:=am hr0_0
 have HC0_0:=am hc0_0
 clear hr0_0 hc0_0
 have HB:=am (Below.refl w.heap.size w)
 have H:((laws_toIntS.f k l0_0).bind fun t274=>(some (t274,a0_1)))=some (r1,r2):=h
 clear h
 replace H:=Option.bind_eq_some_iff.mp H
 obtain⟨t274,A20,H⟩:=H
 replace H:(some (t274,a0_1))=some (r1,r2):=H
 have A2:=am A20
 clear A20
 simp only[Option.some.injEq,Prod.mk.injEq] at H
 obtain⟨rfl,rfl⟩:=H
 go_enter Tryz.func8,Tryz.ntmps8
 go_wp2_with (first|((with_reducible refine gate_dst (N:=1) rfl ?_);refine box_event ?hg (N:=1) ?hd (cs := #[.slice A0_0 l0_0.length c0_0,.int .i64 a0_1]) (t:=24) ?hr ?_;(case hd=>rfl);(case hg=>rfl);(case hr=>first|(go_simp;done)|(go_simp;rfl));intro gb271 hg w3 hbox hb;have BK271:=am (hbox);have GW271:=am (ge_ bl hg);have GE271:=am (ge_ bl hg);replace HB:=am (below_step bl hb);clear hb hbox hg)|((with_reducible refine gate_dst (N:=2) rfl ?_);refine box_event ?hg (N:=2) ?hd (cs := #[.slice none 0 0,.int .i64 0]) (t:=34) ?hr ?_;(case hd=>rfl);(case hg=>rfl);(case hr=>first|(go_simp;done)|(go_simp;rfl));intro gb272 hg w4 hbox hb;have BK272:=am (hbox);have GW272:=am (ge_ bl hg);have GE272:=am (ge_ bl hg);replace HB:=am (below_step bl hb);have NB271_272:=am (nl (bup BK271.out) hg);have NB272_271:=am (ng (bup BK271.out) hg);replace BK271:=am (blk_below (bup BK271.out) hb);clear hb hbox hg)|((with_reducible refine gate_dst (N:=3) rfl ?_);refine box_event ?hg (N:=3) ?hd (cs := #[.slice none 0 0,.int .i64 0]) (t:=34) ?hr ?_;(case hd=>rfl);(case hg=>rfl);(case hr=>first|(go_simp;done)|(go_simp;rfl));intro gb273 hg w5 hbox hb;have BK273:=am (hbox);have GW273:=am (ge_ bl hg);have GE273:=am (ge_ bl hg);replace HB:=am (below_step bl hb);have NB271_273:=am (nl (bup BK271.out) hg);have NB273_271:=am (ng (bup BK271.out) hg);replace BK271:=am (blk_below (bup BK271.out) hb);have NB272_273:=am (nl (bup BK272.out) hg);have NB273_272:=am (ng (bup BK272.out) hg);replace BK272:=am (blk_below (bup BK272.out) hb);clear hb hbox hg;have hnb6:=NB271_272.out;have hnc6:=NB272_271.out;have hnb7:=NB271_273.out;have hnc7:=NB273_271.out;have hcz8_0:=bc BK271.out 0;have hcz8_1:=bc BK271.out 1;have hfz8_0:=blk_frozen BK271.out 0;have hfz8_1:=blk_frozen BK271.out 1)|((with_reducible refine gate_callee (f:=21) rfl ?_);refine goesL_ (some 6) rfl rfl Tryz.func21 (by kernel_rfl) rfl #[.slice A0_0 l0_0.length c0_0] rfl tl ?_;(with_reducible refine(laws_toIntS.calls k _ _ l0_0 t274 _ ?side1 ?side2 A2.out).mono ?_);(case side1=>exact cup (Kd.C_below HR0_0.out HB.out));(case side2=>exact HC0_0.out);rintro e w9 ⟨v275,rfl,ho0,hb⟩;refine⟨_,rfl,?_⟩;have HO276:=am (Kd.R_lower ho0 (below_size bl));replace BK271:=am (blk_below (bup BK271.out) hb);replace BK272:=am (blk_below (bup BK272.out) hb);replace BK273:=am (blk_below (bup BK273.out) hb);replace HB:=am (below_step bl hb);(try clear hb);(try clear ho0);obtain⟨Ao10,co10,eo10⟩:=Kd.R_slice HO276.out;subst eo10;have hnb11:=NB273_272.out;have hnc11:=NB272_273.out;have hcz12_0:=bc BK273.out 0;have hcz12_1:=bc BK273.out 1;have hfz12_0:=blk_frozen BK273.out 0;have hfz12_1:=blk_frozen BK273.out 1;have hcz13_0:=bc BK271.out 0;have hcz13_1:=bc BK271.out 1;have hfz13_0:=blk_frozen BK271.out 0;have hfz13_1:=blk_frozen BK271.out 1;have hcz14_0:=bc BK272.out 0;have hcz14_1:=bc BK272.out 1;have hfz14_0:=blk_frozen BK272.out 0;have hfz14_1:=blk_frozen BK272.out 1))
 refine bodyPost_ret (results_cell_row rfl _ _ gb272 34 #[.slice Ao10 t274.length co10,.int .i64 a0_1] (0,0) _ rfl (by(with_reducible repeat(first|refine bN_ ?_ _|refine bD_ ?_|refine bA_ ?_ _));refine blk_put (cs := #[.slice Ao10 t274.length co10,.int .i64 0]) ?_ 1 _ rfl;(with_reducible repeat(first|refine bN_ ?_ _|refine bD_ ?_|refine bA_ ?_ _));refine blk_put (cs := #[.slice none 0 0,.int .i64 0]) ?_ 0 _ rfl;(with_reducible repeat(first|refine bN_ ?_ _|refine bD_ ?_|refine bA_ ?_ _));refine blk_far ?_ NB272_273.out _;(with_reducible repeat(first|refine bN_ ?_ _|refine bD_ ?_|refine bA_ ?_ _));refine blk_far ?_ NB272_273.out _;exact bup BK272.out) Tryz.underlying34 rfl (by kernel_rfl)) rfl ?_
 exact⟨_,fin1,rup (Kd.R_mono (Kd.R_far (p:=⟨gb272,1,none⟩) (Kd.R_far (p:=⟨gb272,0,none⟩) (Kd.R_far (p:=⟨gb273,1,none⟩) (Kd.R_far (p:=⟨gb273,0,none⟩) (Kd.R_types (Kd.R_types HO276.out BK273.out (by decide)) BK272.out (by decide)) (fun _ hk=>hk.1.2) (.slice Ao10 t274.length co10)) (fun _ hk=>hk.1.2) (.int .i64 a0_1)) (fun _ hk=>hk.2) (.slice Ao10 t274.length co10)) (fun _ hk=>hk.2) (.int .i64 a0_1)) (fun _ hk=>trivial)),bl⟩

def laws_toNote.f (a0_0:Int) (a0_1:Int) (a0_2:Int):Option (Int×Int×Int):=some (a0_0,a0_1,a0_2)
set_option maxHeartbeats 8000000 in
set_option maxRecDepth 100000 in
theorem laws_toNote.calls (a0_0:Int) (a0_1:Int) (a0_2:Int) (r1:Int) (r2:Int) (r3:Int) (w:World) (h:laws_toNote.f a0_0 a0_1 a0_2=some (r1,r2,r3)) :
  Calls Tryz.prog 22 #[.agg #[.int .i64 a0_0,.int .i64 a0_1,.int .i64 a0_2]] w fun e w'=>e = .returned (.agg #[.int .i64 r1,.int .i64 r2,.int .i64 r3])∧Below w.heap.size w w':=by
 have hu57:=Tryz.underlying57
 have hu55:=Tryz.underlying55
 have HB:=am (Below.refl w.heap.size w)
 have H:(some (a0_0,a0_1,a0_2))=some (r1,r2,r3):=h
 clear h
 simp only[Option.some.injEq,Prod.mk.injEq] at H
 obtain⟨rfl,rfl,rfl⟩:=H
 go_enter Tryz.func22,Tryz.ntmps22
 go_wp2_with (first|((with_reducible refine gate_dst (N:=1) rfl ?_);refine box_event ?hg (N:=1) ?hd (cs := #[.int .i64 a0_0,.int .i64 a0_1,.int .i64 a0_2]) (t:=57) ?hr ?_;(case hd=>rfl);(case hg=>rfl);(case hr=>first|(go_simp;done)|(go_simp;rfl));intro gb277 hg w2 hbox hb;have BK277:=am (hbox);have GW277:=am (ge_ bl hg);have GE277:=am (ge_ bl hg);replace HB:=am (below_step bl hb);clear hb hbox hg)|((with_reducible refine gate_dst (N:=2) rfl ?_);refine box_event ?hg (N:=2) ?hd (cs := #[.int .i64 0,.int .i64 0,.int .i64 0]) (t:=55) ?hr ?_;(case hd=>rfl);(case hg=>rfl);(case hr=>first|(go_simp;done)|(go_simp;rfl));intro gb278 hg w3 hbox hb;have BK278:=am (hbox);have GW278:=am (ge_ bl hg);have GE278:=am (ge_ bl hg);replace HB:=am (below_step bl hb);have NB277_278:=am (nl (bup BK277.out) hg);have NB278_277:=am (ng (bup BK277.out) hg);replace BK277:=am (blk_below (bup BK277.out) hb);clear hb hbox hg)|((with_reducible refine gate_dst (N:=3) rfl ?_);refine box_event ?hg (N:=3) ?hd (cs := #[.int .i64 0,.int .i64 0,.int .i64 0]) (t:=55) ?hr ?_;(case hd=>rfl);(case hg=>rfl);(case hr=>first|(go_simp;done)|(go_simp;rfl));intro gb279 hg w4 hbox hb;have BK279:=am (hbox);have GW279:=am (ge_ bl hg);have GE279:=am (ge_ bl hg);replace HB:=am (below_step bl hb);have NB277_279:=am (nl (bup BK277.out) hg);have NB279_277:=am (ng (bup BK277.out) hg);replace BK277:=am (blk_below (bup BK277.out) hb);have NB278_279:=am (nl (bup BK278.out) hg);have NB279_278:=am (ng (bup BK278.out) hg);replace BK278:=am (blk_below (bup BK278.out) hb);clear hb hbox hg;have hnb5:=NB277_278.out;have hnc5:=NB278_277.out;have hnb6:=NB277_279.out;have hnc6:=NB279_277.out;have hcz7_0:=bc BK277.out 0;have hcz7_1:=bc BK277.out 1;have hcz7_2:=bc BK277.out 2;have hfz7_0:=blk_frozen BK277.out 0;have hfz7_1:=blk_frozen BK277.out 1;have hfz7_2:=blk_frozen BK277.out 2;have hnb8:=NB279_278.out;have hnc8:=NB278_279.out;have hcz9_0:=bc BK279.out 0;have hcz9_1:=bc BK279.out 1;have hcz9_2:=bc BK279.out 2;have hfz9_0:=blk_frozen BK279.out 0;have hfz9_1:=blk_frozen BK279.out 1;have hfz9_2:=blk_frozen BK279.out 2;have hcz10_0:=bc BK278.out 0;have hcz10_1:=bc BK278.out 1;have hcz10_2:=bc BK278.out 2;have hfz10_0:=blk_frozen BK278.out 0;have hfz10_1:=blk_frozen BK278.out 1;have hfz10_2:=blk_frozen BK278.out 2))
 refine bodyPost_ret (results_cell_row rfl _ _ gb278 55 #[.int .i64 a0_0,.int .i64 a0_1,.int .i64 a0_2] (0,0) _ rfl (by(with_reducible repeat(first|refine bN_ ?_ _|refine bD_ ?_|refine bA_ ?_ _));refine blk_put (cs := #[.int .i64 a0_0,.int .i64 a0_1,.int .i64 0]) ?_ 2 _ rfl;(with_reducible repeat(first|refine bN_ ?_ _|refine bD_ ?_|refine bA_ ?_ _));refine blk_put (cs := #[.int .i64 a0_0,.int .i64 0,.int .i64 0]) ?_ 1 _ rfl;(with_reducible repeat(first|refine bN_ ?_ _|refine bD_ ?_|refine bA_ ?_ _));refine blk_put (cs := #[.int .i64 0,.int .i64 0,.int .i64 0]) ?_ 0 _ rfl;(with_reducible repeat(first|refine bN_ ?_ _|refine bD_ ?_|refine bA_ ?_ _));refine blk_far ?_ NB278_279.out _;(with_reducible repeat(first|refine bN_ ?_ _|refine bD_ ?_|refine bA_ ?_ _));refine blk_far ?_ NB278_279.out _;(with_reducible repeat(first|refine bN_ ?_ _|refine bD_ ?_|refine bA_ ?_ _));refine blk_far ?_ NB278_279.out _;exact bup BK278.out) Tryz.underlying55 rfl (by kernel_rfl)) rfl ?_
 exact⟨fin1,bl⟩

def laws_toNoteS.l0:Nat→List (S57)→List (S55)→Int→Option ((List (S55)))
 | 0,_,_,_=>none
 | k+1,x0,x3,x4=>if x4<(x0.length:Int) then(if 0≤x4 then((laws_toNote.f ((rd_T57 x0 x4).f0) ((rd_T57 x0 x4).f1) ((rd_T57 x0 x4).f2)).bind fun bt284=>(if x4<(x3.length:Int) then(laws_toNoteS.l0 k x0 (x3.set (x4:Int).toNat (⟨bt284.1,bt284.2.1,bt284.2.2⟩:S55)) (wrap64 (x4+1))) else(none))) else(none)) else(some x3)
def laws_toNoteS.f (k:Nat) (l0:List (S57)):Option ((List (S55))):=if 0≤(l0.length:Int) then(if((l0.length:Int):Int).toNat≤11728124029610 then(laws_toNoteS.l0 k l0 (List.replicate ((l0.length:Int):Int).toNat z55) 0) else(none)) else(none)
set_option maxHeartbeats 8000000 in
set_option maxRecDepth 100000 in
theorem laws_toNoteS.calls (k:Nat) (A0:Option Addr) (c0:Nat) (l0:List (S57)) (r:List (S55)) (w:World) (hr0:Kd.C k57 w A0 l0.length l0) (hc0:l0.length≤c0) (h:laws_toNoteS.f k l0=some r) :
  Calls Tryz.prog 9 #[.slice A0 l0.length c0] w fun e w'=>∃ v0_:Value,e = .returned (v0_)∧Kd.R k55 55 w' w.heap.size (fun _=>True) v0_ r∧Below w.heap.size w w':=by
 have hu57:=Tryz.underlying57
 have hu55:=Tryz.underlying55
 have HR0:=am hr0
 have HC0:=am hc0
 clear hr0 hc0
 have HB:=am (Below.refl w.heap.size w)
 have H:(if 0≤(l0.length:Int) then(if((l0.length:Int):Int).toNat≤11728124029610 then(laws_toNoteS.l0 k l0 (List.replicate ((l0.length:Int):Int).toNat z55) 0) else(none)) else(none))=some r:=h
 clear h
 obtain⟨c2,H⟩:=ifp H
 have c2b0:=eq_true c2
 have c2b1:decide (0≤(l0.length:Int))=true:=decide_eq_true c2
 clear c2
 obtain⟨c3,H⟩:=ifp H
 have c3b0:=eq_true c3
 have c3b1:decide (((l0.length:Int):Int).toNat≤11728124029610)=true:=decide_eq_true c3
 clear c3
 obtain⟨y280,hy280⟩:∃ y_:List (S55),y_=(List.replicate ((l0.length:Int):Int).toNat z55):=⟨_,rfl⟩
 replace H:(laws_toNoteS.l0 k l0 y280 0)=some r:=by subst hy280;exact H
 have Ny280:=am hy280
 clear hy280
 have H':=am H
 clear H
 go_enter Tryz.func9,Tryz.ntmps9
 go_wp2_with (first|((with_reducible refine gate_dst (N:=7) rfl ?_);refine Kd.R_make k55 _ 55 rfl (N:=7) rfl 36 _ _ rfl (l0.length:Int) rfl rfl Tryz.underlying36 (.agg #[(.int .i64 0),(.int .i64 0),(.int .i64 0)]) 24 info55 rfl (by decide) (by omega) z55 (ok:=fun _=>True) (okp:=fun _=>True) (k55_mkM _ _ _ z55 ) (fun _ hk=>hk) trivial (od) (Nat.le_trans (Nat.mul_le_mul_right _ (od:(l0.length:Int).toNat≤11728124029610)) (by omega)) (Below.refl _ _) (Nat.le_refl _) ?_;intro v281 w4 ho5 hb hg_ hnew_;clear hg_ hnew_;(first|rw[← Ny280.out] at ho5|(simp only[Int.reduceToNat] at ho5;rw[← Ny280.out] at ho5));have HO282:=am (Kd.R_lower ho5 (below_size bl));replace HB:=am (below_step bl hb);clear hb ho5))
 go_loopg [4] k (fun kq v4 w'=>∃(x3_1:List (S55)) (x4_1:Int),v4 = .int .i64 x4_1∧Aside0 (laws_toNoteS.l0 kq l0 x3_1 x4_1=some r)∧Aside0 (kq≤k)∧Aside0 (Kd.R k55 55 w' w.heap.size (fun _=>True) v281 x3_1)∧Aside0 (Below w.heap.size w w'))
 case atStart=>exact⟨(y280),(0),fin2,H',⟨Nat.le_refl _⟩,⟨rup HO282.out⟩,⟨bl⟩⟩
 case round =>
  clear H'
  try clear c2b0
  try clear c2b1
  try clear c3b0
  try clear c3b1
  obtain⟨x3_1,x4_1,rfl,HA,HK1,HO_3,HB⟩:=hrel
  cases gk with
  | zero=>exact absurd HA.out (by simp [laws_toNoteS.l0])
  | succ k1 =>
   have H:=HA.out
   clear HA
   simp only[laws_toNoteS.l0] at H
   rcases itc H with⟨c6,H⟩|⟨c6,H⟩
   ·have c6b0:=decide_eq_true c6
    clear c6
    obtain⟨c7b0,H⟩:=ifb H
    obtain⟨⟨t284,t285,t286⟩,A8,H⟩:=bnd H;dsimp only at H
    obtain⟨c9b0,H⟩:=ifb H
    obtain⟨y287,hy287⟩:∃ y_:List (S55),y_=(x3_1.set (x4_1:Int).toNat (⟨t284,t285,t286⟩:S55)):=⟨_,rfl⟩
    replace H:(laws_toNoteS.l0 k1 l0 y287 (wrap64 (x4_1+1)))=some r:=by subst hy287;exact H
    have Ny287:=am hy287
    clear hy287
    have H':=am H
    clear H
    have p283:0≤(x4_1:Int):=od
    have q283:x4_1<(l0.length:Int):=od
    obtain⟨ad283,e283,hx283_0,hx283_1,hx283_2⟩:=at_T57 HR0.out x4_1 p283 q283
    cases e283
    replace hx283_0:=(HB.out.cell (World.block_lt_of_cell? w _ hx283_0)).trans hx283_0
    replace hx283_1:=(HB.out.cell (World.block_lt_of_cell? w _ hx283_1)).trans hx283_1
    replace hx283_2:=(HB.out.cell (World.block_lt_of_cell? w _ hx283_2)).trans hx283_2
    replace p283:=eq_true p283
    replace q283:=eq_true q283
    go_wp2_with (first|((with_reducible refine gate_callee (f:=22) rfl ?_);refine goesL_ (some 20) rfl rfl Tryz.func22 (by kernel_rfl) rfl #[.agg #[.int .i64 ((rd_T57 l0 x4_1).f0),.int .i64 ((rd_T57 l0 x4_1).f1),.int .i64 ((rd_T57 l0 x4_1).f2)]] rfl tl ?_;(with_reducible refine(laws_toNote.calls ((rd_T57 l0 x4_1).f0) ((rd_T57 l0 x4_1).f1) ((rd_T57 l0 x4_1).f2) t284 t285 t286 _ A8.out).mono ?_);rintro e w11 ⟨rfl,hb⟩;refine⟨_,rfl,?_⟩;replace HO_3:=am (Kd.R_below (rup HO_3.out) hb);replace HB:=am (below_step bl hb);(try clear hb);have p10:0≤(x4_1:Int):=od;have q10:(x4_1:Int)<((x3_1.length:Int):Int):=od;obtain⟨go10,co10,eo10,gb10,gl10,cl10,HG10⟩:=Kd.R_form HO_3.out (by omega);(first|cases eo10|(injection eo10 with ea_ en_ ec_;(first|subst ea_|(injection ea_ with ea_;subst ea_));subst ec_;clear en_));have GB10:=am gb10;have GG10:=am HG10;clear gb10 gl10 HG10;obtain⟨ce10,hcl10,hM10,hcc10,hfr10⟩:=Kd.R_elem HO_3.out z55 (x4_1:Int) p10 q10;obtain rfl:=k55_openM hM10;have hx10_0:w11.cell? ⟨go10,(x4_1:Int).toNat*3,none⟩=some (.int .i64 ((rd_T55 x3_1 x4_1).f0)):=hcc10 0 _ rfl;have hx10_1:w11.cell? ⟨go10,(x4_1:Int).toNat*3+1,none⟩=some (.int .i64 ((rd_T55 x3_1 x4_1).f1)):=hcc10 1 _ rfl;have hx10_2:w11.cell? ⟨go10,(x4_1:Int).toNat*3+2,none⟩=some (.int .i64 ((rd_T55 x3_1 x4_1).f2)):=hcc10 2 _ rfl;have hf10_0:w11.frozen? ⟨go10,(x4_1:Int).toNat*3,none⟩=false:=hfr10 0;have hf10_1:w11.frozen? ⟨go10,(x4_1:Int).toNat*3+1,none⟩=false:=hfr10 1;have hf10_2:w11.frozen? ⟨go10,(x4_1:Int).toNat*3+2,none⟩=false:=hfr10 2;(try clear hcl10);(try clear hcc10);(try clear hfr10);(try clear hM10);replace p10:=eq_true p10;replace q10:=eq_true q10;have HX12:=am (show Kd.R k55 55 w11 w.heap.size (fun _=>True) (.slice (some ⟨go10,0,none⟩) x3_1.length co10) x3_1 from(rup HO_3.out));obtain⟨ce12,hcl12,hM12,hcc12,hfr12⟩:=Kd.R_elem HX12.out z55 (x4_1:Int) (od) (by have h_:(x4_1:Int)<((x3_1.length:Int):Int):=od;first|exact h_|(have e_:=(Kd.R_reads' HO_3.out).1;omega)|simpa using h_);obtain rfl:=k55_openM hM12;have HP12:=Kd.R_seg HX12.out (x4_1:Int) (od) (by have h_:(x4_1:Int)<((x3_1.length:Int):Int):=od;first|exact h_|(have e_:=(Kd.R_reads' HO_3.out).1;omega)|simpa using h_) (seg:=[.int .i64 t284,.int .i64 t285,.int .i64 t286]) (j:=0) hcl12 hcc12 (show 3≤3 from by decide) (x':=(⟨t284,t285,t286⟩:S55)) (k55_mkM _ _ _ (⟨t284,t285,t286⟩:S55) ) (fun _ hk=>hk);have hx12_0:=hcc12 0 _ rfl;(try simp only[show(k55).sz=3 from rfl,Nat.mul_one,Nat.add_zero] at hx12_0);have hf12_0:=hfr12 0;(try simp only[show(k55).sz=3 from rfl,Nat.mul_one,Nat.add_zero] at hf12_0);have hx12_1:=hcc12 1 _ rfl;(try simp only[show(k55).sz=3 from rfl,Nat.mul_one,Nat.add_zero] at hx12_1);have hf12_1:=hfr12 1;(try simp only[show(k55).sz=3 from rfl,Nat.mul_one,Nat.add_zero] at hf12_1);have hx12_2:=hcc12 2 _ rfl;(try simp only[show(k55).sz=3 from rfl,Nat.mul_one,Nat.add_zero] at hx12_2);have hf12_2:=hfr12 2;(try simp only[show(k55).sz=3 from rfl,Nat.mul_one,Nat.add_zero] at hf12_2);(try clear hcl12);(try clear hcc12);(try clear hfr12);(try clear hM12))|((with_reducible refine gate_store (t:=55) (p:=21) rfl ?_);refine store_event (t:=55) (p:=21) (v:=?vo_w13) (w1:=(((w11.setCell ⟨go10,(x4_1:Int).toNat*3,none⟩ (.int .i64 t284)).setCell ⟨go10,(x4_1:Int).toNat*3+1,none⟩ (.int .i64 t285)).setCell ⟨go10,(x4_1:Int).toNat*3+2,none⟩ (.int .i64 t286))) ?hg ?ho ?hn ?hr ?_;(case ho=>rfl);(case hg=>rfl);(case hn=>rfl);(case hr=>first|(go_simp;done)|(go_simp;rfl));intro w13 hw;have hg:w11.grownBy w13 (some go10):=(by rw[hw];exact HP12.2);have hp_:Kd.R k55 55 w13 w.heap.size (fun _=>True) (.slice (some ⟨go10,0,none⟩) x3_1.length co10) y287:=(by rw[hw,Ny287.out];exact HP12.1);clear HP12;replace HO_3:=am (hp_);replace HB:=am ((by rw[hw];exact below_set (below_set (below_set (HB.out) GB10.out) GB10.out) GB10.out:Below w.heap.size w w13));clear hg hw hp_))
    go_roundg k1
    case measure=>have:=HK1.out;omega
    case rel=>exact⟨(y287),(wrap64 (x4_1+1)),fin2,H',⟨by have:=HK1.out;omega⟩,⟨rup HO_3.out⟩,⟨bl⟩⟩
   ·have c6b0:=decide_eq_false c6
    clear c6
    obtain rfl:=Option.some.inj H
    go_wp2
    go_ret
    exact⟨_,fin1,by(with_reducible repeat(first|apply Kd.R_alloc|apply Kd.R_drewN|apply Kd.R_drew));exact HO_3.out,bl⟩

def laws_toHole.f (a0_0:Int) (a0_1:Int) (a0_2:Int):Option (Int×Int×Int):=some (a0_0,a0_1,a0_2)
set_option maxHeartbeats 8000000 in
set_option maxRecDepth 100000 in
theorem laws_toHole.calls (a0_0:Int) (a0_1:Int) (a0_2:Int) (r1:Int) (r2:Int) (r3:Int) (w:World) (h:laws_toHole.f a0_0 a0_1 a0_2=some (r1,r2,r3)) :
  Calls Tryz.prog 23 #[.agg #[.int .i64 a0_0,.int .i64 a0_1,.int .i64 a0_2]] w fun e w'=>e = .returned (.agg #[.int .i64 r1,.int .i64 r2,.int .i64 r3])∧Below w.heap.size w w':=by
 have hu61:=Tryz.underlying61
 have hu59:=Tryz.underlying59
 have HB:=am (Below.refl w.heap.size w)
 have H:(some (a0_0,a0_1,a0_2))=some (r1,r2,r3):=h
 clear h
 simp only[Option.some.injEq,Prod.mk.injEq] at H
 obtain⟨rfl,rfl,rfl⟩:=H
 go_enter Tryz.func23,Tryz.ntmps23
 go_wp2_with (first|((with_reducible refine gate_dst (N:=1) rfl ?_);refine box_event ?hg (N:=1) ?hd (cs := #[.int .i64 a0_0,.int .i64 a0_1,.int .i64 a0_2]) (t:=61) ?hr ?_;(case hd=>rfl);(case hg=>rfl);(case hr=>first|(go_simp;done)|(go_simp;rfl));intro gb288 hg w2 hbox hb;have BK288:=am (hbox);have GW288:=am (ge_ bl hg);have GE288:=am (ge_ bl hg);replace HB:=am (below_step bl hb);clear hb hbox hg)|((with_reducible refine gate_dst (N:=2) rfl ?_);refine box_event ?hg (N:=2) ?hd (cs := #[.int .i64 0,.int .i64 0,.int .i64 0]) (t:=59) ?hr ?_;(case hd=>rfl);(case hg=>rfl);(case hr=>first|(go_simp;done)|(go_simp;rfl));intro gb289 hg w3 hbox hb;have BK289:=am (hbox);have GW289:=am (ge_ bl hg);have GE289:=am (ge_ bl hg);replace HB:=am (below_step bl hb);have NB288_289:=am (nl (bup BK288.out) hg);have NB289_288:=am (ng (bup BK288.out) hg);replace BK288:=am (blk_below (bup BK288.out) hb);clear hb hbox hg)|((with_reducible refine gate_dst (N:=3) rfl ?_);refine box_event ?hg (N:=3) ?hd (cs := #[.int .i64 0,.int .i64 0,.int .i64 0]) (t:=59) ?hr ?_;(case hd=>rfl);(case hg=>rfl);(case hr=>first|(go_simp;done)|(go_simp;rfl));intro gb290 hg w4 hbox hb;have BK290:=am (hbox);have GW290:=am (ge_ bl hg);have GE290:=am (ge_ bl hg);replace HB:=am (below_step bl hb);have NB288_290:=am (nl (bup BK288.out) hg);have NB290_288:=am (ng (bup BK288.out) hg);replace BK288:=am (blk_below (bup BK288.out) hb);have NB289_290:=am (nl (bup BK289.out) hg);have NB290_289:=am (ng (bup BK289.out) hg);replace BK289:=am (blk_below (bup BK289.out) hb);clear hb hbox hg;have hnb5:=NB288_289.out;have hnc5:=NB289_288.out;have hnb6:=NB288_290.out;have hnc6:=NB290_288.out;have hcz7_0:=bc BK288.out 0;have hcz7_1:=bc BK288.out 1;have hcz7_2:=bc BK288.out 2;have hfz7_0:=blk_frozen BK288.out 0;have hfz7_1:=blk_frozen BK288.out 1;have hfz7_2:=blk_frozen BK288.out 2;have hnb8:=NB290_289.out;have hnc8:=NB289_290.out;have hcz9_0:=bc BK290.out 0;have hcz9_1:=bc BK290.out 1;have hcz9_2:=bc BK290.out 2;have hfz9_0:=blk_frozen BK290.out 0;have hfz9_1:=blk_frozen BK290.out 1;have hfz9_2:=blk_frozen BK290.out 2;have hcz10_0:=bc BK289.out 0;have hcz10_1:=bc BK289.out 1;have hcz10_2:=bc BK289.out 2;have hfz10_0:=blk_frozen BK289.out 0;have hfz10_1:=blk_frozen BK289.out 1;have hfz10_2:=blk_frozen BK289.out 2))
 refine bodyPost_ret (results_cell_row rfl _ _ gb289 59 #[.int .i64 a0_0,.int .i64 a0_1,.int .i64 a0_2] (0,0) _ rfl (by(with_reducible repeat(first|refine bN_ ?_ _|refine bD_ ?_|refine bA_ ?_ _));refine blk_put (cs := #[.int .i64 a0_0,.int .i64 a0_1,.int .i64 0]) ?_ 2 _ rfl;(with_reducible repeat(first|refine bN_ ?_ _|refine bD_ ?_|refine bA_ ?_ _));refine blk_put (cs := #[.int .i64 a0_0,.int .i64 0,.int .i64 0]) ?_ 1 _ rfl;(with_reducible repeat(first|refine bN_ ?_ _|refine bD_ ?_|refine bA_ ?_ _));refine blk_put (cs := #[.int .i64 0,.int .i64 0,.int .i64 0]) ?_ 0 _ rfl;(with_reducible repeat(first|refine bN_ ?_ _|refine bD_ ?_|refine bA_ ?_ _));refine blk_far ?_ NB289_290.out _;(with_reducible repeat(first|refine bN_ ?_ _|refine bD_ ?_|refine bA_ ?_ _));refine blk_far ?_ NB289_290.out _;(with_reducible repeat(first|refine bN_ ?_ _|refine bD_ ?_|refine bA_ ?_ _));refine blk_far ?_ NB289_290.out _;exact bup BK289.out) Tryz.underlying59 rfl (by kernel_rfl)) rfl ?_
 exact⟨fin1,bl⟩

def laws_toHoleS.l0:Nat→List (S61)→List (S59)→Int→Option ((List (S59)))
 | 0,_,_,_=>none
 | k+1,x0,x3,x4=>if x4<(x0.length:Int) then(if 0≤x4 then((laws_toHole.f ((rd_T61 x0 x4).f0) ((rd_T61 x0 x4).f1) ((rd_T61 x0 x4).f2)).bind fun bt295=>(if x4<(x3.length:Int) then(laws_toHoleS.l0 k x0 (x3.set (x4:Int).toNat (⟨bt295.1,bt295.2.1,bt295.2.2⟩:S59)) (wrap64 (x4+1))) else(none))) else(none)) else(some x3)
def laws_toHoleS.f (k:Nat) (l0:List (S61)):Option ((List (S59))):=if 0≤(l0.length:Int) then(if((l0.length:Int):Int).toNat≤11728124029610 then(laws_toHoleS.l0 k l0 (List.replicate ((l0.length:Int):Int).toNat z59) 0) else(none)) else(none)
set_option maxHeartbeats 8000000 in
set_option maxRecDepth 100000 in
theorem laws_toHoleS.calls (k:Nat) (A0:Option Addr) (c0:Nat) (l0:List (S61)) (r:List (S59)) (w:World) (hr0:Kd.C k61 w A0 l0.length l0) (hc0:l0.length≤c0) (h:laws_toHoleS.f k l0=some r) :
  Calls Tryz.prog 10 #[.slice A0 l0.length c0] w fun e w'=>∃ v0_:Value,e = .returned (v0_)∧Kd.R k59 59 w' w.heap.size (fun _=>True) v0_ r∧Below w.heap.size w w':=by
 have hu61:=Tryz.underlying61
 have hu59:=Tryz.underlying59
 have HR0:=am hr0
 have HC0:=am hc0
 clear hr0 hc0
 have HB:=am (Below.refl w.heap.size w)
 have H:(if 0≤(l0.length:Int) then(if((l0.length:Int):Int).toNat≤11728124029610 then(laws_toHoleS.l0 k l0 (List.replicate ((l0.length:Int):Int).toNat z59) 0) else(none)) else(none))=some r:=h
 clear h
 obtain⟨c2,H⟩:=ifp H
 have c2b0:=eq_true c2
 have c2b1:decide (0≤(l0.length:Int))=true:=decide_eq_true c2
 clear c2
 obtain⟨c3,H⟩:=ifp H
 have c3b0:=eq_true c3
 have c3b1:decide (((l0.length:Int):Int).toNat≤11728124029610)=true:=decide_eq_true c3
 clear c3
 obtain⟨y291,hy291⟩:∃ y_:List (S59),y_=(List.replicate ((l0.length:Int):Int).toNat z59):=⟨_,rfl⟩
 replace H:(laws_toHoleS.l0 k l0 y291 0)=some r:=by subst hy291;exact H
 have Ny291:=am hy291
 clear hy291
 have H':=am H
 clear H
 go_enter Tryz.func10,Tryz.ntmps10
 go_wp2_with (first|((with_reducible refine gate_dst (N:=7) rfl ?_);refine Kd.R_make k59 _ 59 rfl (N:=7) rfl 38 _ _ rfl (l0.length:Int) rfl rfl Tryz.underlying38 (.agg #[(.int .i64 0),(.int .i64 0),(.int .i64 0)]) 24 info59 rfl (by decide) (by omega) z59 (ok:=fun _=>True) (okp:=fun _=>True) (k59_mkM _ _ _ z59 ) (fun _ hk=>hk) trivial (od) (Nat.le_trans (Nat.mul_le_mul_right _ (od:(l0.length:Int).toNat≤11728124029610)) (by omega)) (Below.refl _ _) (Nat.le_refl _) ?_;intro v292 w4 ho5 hb hg_ hnew_;clear hg_ hnew_;(first|rw[← Ny291.out] at ho5|(simp only[Int.reduceToNat] at ho5;rw[← Ny291.out] at ho5));have HO293:=am (Kd.R_lower ho5 (below_size bl));replace HB:=am (below_step bl hb);clear hb ho5))
 go_loopg [4] k (fun kq v4 w'=>∃(x3_1:List (S59)) (x4_1:Int),v4 = .int .i64 x4_1∧Aside0 (laws_toHoleS.l0 kq l0 x3_1 x4_1=some r)∧Aside0 (kq≤k)∧Aside0 (Kd.R k59 59 w' w.heap.size (fun _=>True) v292 x3_1)∧Aside0 (Below w.heap.size w w'))
 case atStart=>exact⟨(y291),(0),fin2,H',⟨Nat.le_refl _⟩,⟨rup HO293.out⟩,⟨bl⟩⟩
 case round =>
  clear H'
  try clear c2b0
  try clear c2b1
  try clear c3b0
  try clear c3b1
  obtain⟨x3_1,x4_1,rfl,HA,HK1,HO_3,HB⟩:=hrel
  cases gk with
  | zero=>exact absurd HA.out (by simp [laws_toHoleS.l0])
  | succ k1 =>
   have H:=HA.out
   clear HA
   simp only[laws_toHoleS.l0] at H
   rcases itc H with⟨c6,H⟩|⟨c6,H⟩
   ·have c6b0:=decide_eq_true c6
    clear c6
    obtain⟨c7b0,H⟩:=ifb H
    obtain⟨⟨t295,t296,t297⟩,A8,H⟩:=bnd H;dsimp only at H
    obtain⟨c9b0,H⟩:=ifb H
    obtain⟨y298,hy298⟩:∃ y_:List (S59),y_=(x3_1.set (x4_1:Int).toNat (⟨t295,t296,t297⟩:S59)):=⟨_,rfl⟩
    replace H:(laws_toHoleS.l0 k1 l0 y298 (wrap64 (x4_1+1)))=some r:=by subst hy298;exact H
    have Ny298:=am hy298
    clear hy298
    have H':=am H
    clear H
    have p294:0≤(x4_1:Int):=od
    have q294:x4_1<(l0.length:Int):=od
    obtain⟨ad294,e294,hx294_0,hx294_1,hx294_2⟩:=at_T61 HR0.out x4_1 p294 q294
    cases e294
    replace hx294_0:=(HB.out.cell (World.block_lt_of_cell? w _ hx294_0)).trans hx294_0
    replace hx294_1:=(HB.out.cell (World.block_lt_of_cell? w _ hx294_1)).trans hx294_1
    replace hx294_2:=(HB.out.cell (World.block_lt_of_cell? w _ hx294_2)).trans hx294_2
    replace p294:=eq_true p294
    replace q294:=eq_true q294
    go_wp2_with (first|((with_reducible refine gate_callee (f:=23) rfl ?_);refine goesL_ (some 20) rfl rfl Tryz.func23 (by kernel_rfl) rfl #[.agg #[.int .i64 ((rd_T61 l0 x4_1).f0),.int .i64 ((rd_T61 l0 x4_1).f1),.int .i64 ((rd_T61 l0 x4_1).f2)]] rfl tl ?_;(with_reducible refine(laws_toHole.calls ((rd_T61 l0 x4_1).f0) ((rd_T61 l0 x4_1).f1) ((rd_T61 l0 x4_1).f2) t295 t296 t297 _ A8.out).mono ?_);rintro e w11 ⟨rfl,hb⟩;refine⟨_,rfl,?_⟩;replace HO_3:=am (Kd.R_below (rup HO_3.out) hb);replace HB:=am (below_step bl hb);(try clear hb);have p10:0≤(x4_1:Int):=od;have q10:(x4_1:Int)<((x3_1.length:Int):Int):=od;obtain⟨go10,co10,eo10,gb10,gl10,cl10,HG10⟩:=Kd.R_form HO_3.out (by omega);(first|cases eo10|(injection eo10 with ea_ en_ ec_;(first|subst ea_|(injection ea_ with ea_;subst ea_));subst ec_;clear en_));have GB10:=am gb10;have GG10:=am HG10;clear gb10 gl10 HG10;obtain⟨ce10,hcl10,hM10,hcc10,hfr10⟩:=Kd.R_elem HO_3.out z59 (x4_1:Int) p10 q10;obtain rfl:=k59_openM hM10;have hx10_0:w11.cell? ⟨go10,(x4_1:Int).toNat*3,none⟩=some (.int .i64 ((rd_T59 x3_1 x4_1).f0)):=hcc10 0 _ rfl;have hx10_1:w11.cell? ⟨go10,(x4_1:Int).toNat*3+1,none⟩=some (.int .i64 ((rd_T59 x3_1 x4_1).f1)):=hcc10 1 _ rfl;have hx10_2:w11.cell? ⟨go10,(x4_1:Int).toNat*3+2,none⟩=some (.int .i64 ((rd_T59 x3_1 x4_1).f2)):=hcc10 2 _ rfl;have hf10_0:w11.frozen? ⟨go10,(x4_1:Int).toNat*3,none⟩=false:=hfr10 0;have hf10_1:w11.frozen? ⟨go10,(x4_1:Int).toNat*3+1,none⟩=false:=hfr10 1;have hf10_2:w11.frozen? ⟨go10,(x4_1:Int).toNat*3+2,none⟩=false:=hfr10 2;(try clear hcl10);(try clear hcc10);(try clear hfr10);(try clear hM10);replace p10:=eq_true p10;replace q10:=eq_true q10;have HX12:=am (show Kd.R k59 59 w11 w.heap.size (fun _=>True) (.slice (some ⟨go10,0,none⟩) x3_1.length co10) x3_1 from(rup HO_3.out));obtain⟨ce12,hcl12,hM12,hcc12,hfr12⟩:=Kd.R_elem HX12.out z59 (x4_1:Int) (od) (by have h_:(x4_1:Int)<((x3_1.length:Int):Int):=od;first|exact h_|(have e_:=(Kd.R_reads' HO_3.out).1;omega)|simpa using h_);obtain rfl:=k59_openM hM12;have HP12:=Kd.R_seg HX12.out (x4_1:Int) (od) (by have h_:(x4_1:Int)<((x3_1.length:Int):Int):=od;first|exact h_|(have e_:=(Kd.R_reads' HO_3.out).1;omega)|simpa using h_) (seg:=[.int .i64 t295,.int .i64 t296,.int .i64 t297]) (j:=0) hcl12 hcc12 (show 3≤3 from by decide) (x':=(⟨t295,t296,t297⟩:S59)) (k59_mkM _ _ _ (⟨t295,t296,t297⟩:S59) ) (fun _ hk=>hk);have hx12_0:=hcc12 0 _ rfl;(try simp only[show(k59).sz=3 from rfl,Nat.mul_one,Nat.add_zero] at hx12_0);have hf12_0:=hfr12 0;(try simp only[show(k59).sz=3 from rfl,Nat.mul_one,Nat.add_zero] at hf12_0);have hx12_1:=hcc12 1 _ rfl;(try simp only[show(k59).sz=3 from rfl,Nat.mul_one,Nat.add_zero] at hx12_1);have hf12_1:=hfr12 1;(try simp only[show(k59).sz=3 from rfl,Nat.mul_one,Nat.add_zero] at hf12_1);have hx12_2:=hcc12 2 _ rfl;(try simp only[show(k59).sz=3 from rfl,Nat.mul_one,Nat.add_zero] at hx12_2);have hf12_2:=hfr12 2;(try simp only[show(k59).sz=3 from rfl,Nat.mul_one,Nat.add_zero] at hf12_2);(try clear hcl12);(try clear hcc12);(try clear hfr12);(try clear hM12))|((with_reducible refine gate_store (t:=59) (p:=21) rfl ?_);refine store_event (t:=59) (p:=21) (v:=?vo_w13) (w1:=(((w11.setCell ⟨go10,(x4_1:Int).toNat*3,none⟩ (.int .i64 t295)).setCell ⟨go10,(x4_1:Int).toNat*3+1,none⟩ (.int .i64 t296)).setCell ⟨go10,(x4_1:Int).toNat*3+2,none⟩ (.int .i64 t297))) ?hg ?ho ?hn ?hr ?_;(case ho=>rfl);(case hg=>rfl);(case hn=>rfl);(case hr=>first|(go_simp;done)|(go_simp;rfl));intro w13 hw;have hg:w11.grownBy w13 (some go10):=(by rw[hw];exact HP12.2);have hp_:Kd.R k59 59 w13 w.heap.size (fun _=>True) (.slice (some ⟨go10,0,none⟩) x3_1.length co10) y298:=(by rw[hw,Ny298.out];exact HP12.1);clear HP12;replace HO_3:=am (hp_);replace HB:=am ((by rw[hw];exact below_set (below_set (below_set (HB.out) GB10.out) GB10.out) GB10.out:Below w.heap.size w w13));clear hg hw hp_))
    go_roundg k1
    case measure=>have:=HK1.out;omega
    case rel=>exact⟨(y298),(wrap64 (x4_1+1)),fin2,H',⟨by have:=HK1.out;omega⟩,⟨rup HO_3.out⟩,⟨bl⟩⟩
   ·have c6b0:=decide_eq_false c6
    clear c6
    obtain rfl:=Option.some.inj H
    go_wp2
    go_ret
    exact⟨_,fin1,by(with_reducible repeat(first|apply Kd.R_alloc|apply Kd.R_drewN|apply Kd.R_drew));exact HO_3.out,bl⟩

def laws_toAction.f (a0_0:Int) (a0_1:Int) (a0_2:Int):Option (Int×Int×Int):=some (a0_0,a0_1,a0_2)
set_option maxHeartbeats 8000000 in
set_option maxRecDepth 100000 in
theorem laws_toAction.calls (a0_0:Int) (a0_1:Int) (a0_2:Int) (r1:Int) (r2:Int) (r3:Int) (w:World) (h:laws_toAction.f a0_0 a0_1 a0_2=some (r1,r2,r3)) :
  Calls Tryz.prog 11 #[.agg #[.int .i64 a0_0,.int .i64 a0_1,.int .i64 a0_2]] w fun e w'=>e = .returned (.agg #[.int .i64 r1,.int .i64 r2,.int .i64 r3])∧Below w.heap.size w w':=by
 have hu28:=Tryz.underlying28
 have hu40:=Tryz.underlying40
 have HB:=am (Below.refl w.heap.size w)
 have H:(some (a0_0,a0_1,a0_2))=some (r1,r2,r3):=h
 clear h
 simp only[Option.some.injEq,Prod.mk.injEq] at H
 obtain⟨rfl,rfl,rfl⟩:=H
 go_enter Tryz.func11,Tryz.ntmps11
 go_wp2_with (first|((with_reducible refine gate_dst (N:=1) rfl ?_);refine box_event ?hg (N:=1) ?hd (cs := #[.int .i64 a0_0,.int .i64 a0_1,.int .i64 a0_2]) (t:=28) ?hr ?_;(case hd=>rfl);(case hg=>rfl);(case hr=>first|(go_simp;done)|(go_simp;rfl));intro gb299 hg w2 hbox hb;have BK299:=am (hbox);have GW299:=am (ge_ bl hg);have GE299:=am (ge_ bl hg);replace HB:=am (below_step bl hb);clear hb hbox hg)|((with_reducible refine gate_dst (N:=2) rfl ?_);refine box_event ?hg (N:=2) ?hd (cs := #[.int .i64 0,.int .i64 0,.int .i64 0]) (t:=40) ?hr ?_;(case hd=>rfl);(case hg=>rfl);(case hr=>first|(go_simp;done)|(go_simp;rfl));intro gb300 hg w3 hbox hb;have BK300:=am (hbox);have GW300:=am (ge_ bl hg);have GE300:=am (ge_ bl hg);replace HB:=am (below_step bl hb);have NB299_300:=am (nl (bup BK299.out) hg);have NB300_299:=am (ng (bup BK299.out) hg);replace BK299:=am (blk_below (bup BK299.out) hb);clear hb hbox hg)|((with_reducible refine gate_dst (N:=3) rfl ?_);refine box_event ?hg (N:=3) ?hd (cs := #[.int .i64 0,.int .i64 0,.int .i64 0]) (t:=40) ?hr ?_;(case hd=>rfl);(case hg=>rfl);(case hr=>first|(go_simp;done)|(go_simp;rfl));intro gb301 hg w4 hbox hb;have BK301:=am (hbox);have GW301:=am (ge_ bl hg);have GE301:=am (ge_ bl hg);replace HB:=am (below_step bl hb);have NB299_301:=am (nl (bup BK299.out) hg);have NB301_299:=am (ng (bup BK299.out) hg);replace BK299:=am (blk_below (bup BK299.out) hb);have NB300_301:=am (nl (bup BK300.out) hg);have NB301_300:=am (ng (bup BK300.out) hg);replace BK300:=am (blk_below (bup BK300.out) hb);clear hb hbox hg;have hnb5:=NB299_300.out;have hnc5:=NB300_299.out;have hnb6:=NB299_301.out;have hnc6:=NB301_299.out;have hcz7_0:=bc BK299.out 0;have hcz7_1:=bc BK299.out 1;have hcz7_2:=bc BK299.out 2;have hfz7_0:=blk_frozen BK299.out 0;have hfz7_1:=blk_frozen BK299.out 1;have hfz7_2:=blk_frozen BK299.out 2;have hnb8:=NB301_300.out;have hnc8:=NB300_301.out;have hcz9_0:=bc BK301.out 0;have hcz9_1:=bc BK301.out 1;have hcz9_2:=bc BK301.out 2;have hfz9_0:=blk_frozen BK301.out 0;have hfz9_1:=blk_frozen BK301.out 1;have hfz9_2:=blk_frozen BK301.out 2;have hcz10_0:=bc BK300.out 0;have hcz10_1:=bc BK300.out 1;have hcz10_2:=bc BK300.out 2;have hfz10_0:=blk_frozen BK300.out 0;have hfz10_1:=blk_frozen BK300.out 1;have hfz10_2:=blk_frozen BK300.out 2))
 refine bodyPost_ret (results_cell_row rfl _ _ gb300 40 #[.int .i64 a0_0,.int .i64 a0_1,.int .i64 a0_2] (0,0) _ rfl (by(with_reducible repeat(first|refine bN_ ?_ _|refine bD_ ?_|refine bA_ ?_ _));refine blk_put (cs := #[.int .i64 a0_0,.int .i64 a0_1,.int .i64 0]) ?_ 2 _ rfl;(with_reducible repeat(first|refine bN_ ?_ _|refine bD_ ?_|refine bA_ ?_ _));refine blk_put (cs := #[.int .i64 a0_0,.int .i64 0,.int .i64 0]) ?_ 1 _ rfl;(with_reducible repeat(first|refine bN_ ?_ _|refine bD_ ?_|refine bA_ ?_ _));refine blk_put (cs := #[.int .i64 0,.int .i64 0,.int .i64 0]) ?_ 0 _ rfl;(with_reducible repeat(first|refine bN_ ?_ _|refine bD_ ?_|refine bA_ ?_ _));refine blk_far ?_ NB300_301.out _;(with_reducible repeat(first|refine bN_ ?_ _|refine bD_ ?_|refine bA_ ?_ _));refine blk_far ?_ NB300_301.out _;(with_reducible repeat(first|refine bN_ ?_ _|refine bD_ ?_|refine bA_ ?_ _));refine blk_far ?_ NB300_301.out _;exact bup BK300.out) Tryz.underlying40 rfl (by kernel_rfl)) rfl ?_
 exact⟨fin1,bl⟩

def impl_isPitch.f (a0:Int):Option (Bool):=if a0≥24 then(some (decide (a0≤96))) else(some false)
set_option maxHeartbeats 8000000 in
set_option maxRecDepth 100000 in
theorem impl_isPitch.calls (a0:Int) (r:Bool) (w:World) (h:impl_isPitch.f a0=some r) :
  Calls Tryz.prog 57 #[.int .i64 a0] w fun e w'=>e = .returned (.bool r)∧Drawn0 w w':=by
 have H:(if a0≥24 then(some (decide (a0≤96))) else(some false))=some r:=h
 clear h
 rcases itc H with⟨c2,H⟩|⟨c2,H⟩
 ·have c2b0:decide (24≤a0)=true:=decide_eq_true c2
  clear c2
  obtain rfl:=Option.some.inj H
  go_enter Tryz.func57,Tryz.ntmps57
  go_wp2
  go_ret
  exact⟨by first|rfl|(simp;done)|(simp [*];done),by repeat(first|exact Drawn0.refl _|apply Drawn0.step)⟩
 ·have c2b0:decide (24≤a0)=false:=decide_eq_false c2
  clear c2
  obtain rfl:=Option.some.inj H
  go_enter Tryz.func57,Tryz.ntmps57
  go_wp2
  go_ret
  exact⟨by first|rfl|(simp;done)|(simp [*];done),by repeat(first|exact Drawn0.refl _|apply Drawn0.step)⟩

end Go.Proofs.YtipklbjbgbbgpaaGreat.PFnExactShiftToPass
