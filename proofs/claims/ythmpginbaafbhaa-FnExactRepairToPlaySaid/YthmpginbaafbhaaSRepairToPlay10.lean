/- The walks of functions that FnExactRepairToPlay reaches: what they return is what the plain functions of the same names say. Laid by a program of this session after the kit's print. No conditions beyond the arguments' being read. -/
import Derived.Test.YthmpginbaafbhaaSRepairToPlay0
import Derived.Test.YthmpginbaafbhaaSRepairToPlay7
import Derived.Test.YthmpginbaafbhaaSRepairToPlay8
import Derived.Test.YthmpginbaafbhaaSRepairToPlay9
namespace Go.Proofs.Ythmpginbaafbhaa.PFnExactRepairToPlay
open Go.RowKit Go.Proofs.YthmpginbaafbhaaW.PrintWords Go.Proofs.YthmpginbaafbhaaW.PrintLast Go.Proofs.YthmpginbaafbhaaW.PrintMore
attribute [local go_sem] max2_int min2_int max_two min_two max_three min_three max_four min_four   -- for this text's walks alone
set_option linter.unusedVariables false
set_option linter.unusedSimpArgs false

mutual
def spec_rpRanges.l0:Nat→List (List Bool)→List (List Bool)→List (List Int)→Int→Int→Option ((List (List Int)))
 | 0,_,_,_,_,_=>none
 | k+1,x5,x6,x7,x16,x17=>if x17<x16 then(if 0≤x17 then(if x17<(x5.length:Int) then(spec_rpRanges.l1 k x5 x6 x7 x17 x16 x17 ((rd_L7 x5 x17).length:Int) 0) else(none)) else(none)) else(some x7)
def spec_rpRanges.l1:Nat→List (List Bool)→List (List Bool)→List (List Int)→Int→Int→Int→Int→Int→Option ((List (List Int)))
 | 0,_,_,_,_,_,_,_,_=>none
 | k+1,x5,x6,x7,x8,x16,x17,x24,x25=>if x25<x24 then(if 0≤x8 then(if x8<(x5.length:Int) then(if 0≤x25 then(if x25<((rd_L7 x5 x8).length:Int) then(if(rdOf false (rd_L7 x5 x8) x25=true) then(if x8<(x6.length:Int) then(if x25<((rd_L7 x6 x8).length:Int) then(spec_rpRanges.j2 k x5 x6 x7 x8 x25 x16 x17 x24 x25 (rdOf false (rd_L7 x6 x8) x25)) else(none)) else(none)) else(spec_rpRanges.j2 k x5 x6 x7 x8 x25 x16 x17 x24 x25 true)) else(none)) else(none)) else(none)) else(none)) else(spec_rpRanges.l0 k x5 x6 x7 x16 (wrap64 (x17+1)))
def spec_rpRanges.j2:Nat→List (List Bool)→List (List Bool)→List (List Int)→Int→Int→Int→Int→Int→Int→Bool→Option ((List (List Int)))
 | 0,_,_,_,_,_,_,_,_,_,_=>none
 | k+1,x5,x6,x7,x8,x9,x16,x17,x24,x25,x44=>if x44=true then(spec_rpRanges.l1 k x5 x6 x7 x8 x16 x17 x24 (wrap64 (x25+1))) else(if(x7.length:Int)>0 then(if 0≤(wrap64 ((x7.length:Int) - 1)) then(if(wrap64 ((x7.length:Int) - 1))<(x7.length:Int) then(if 0<((rd_L5 x7 (wrap64 ((x7.length:Int) - 1))).length:Int) then(if(rd (rd_L5 x7 (wrap64 ((x7.length:Int) - 1))) 0)=x8 then(if 2<((rd_L5 x7 (wrap64 ((x7.length:Int) - 1))).length:Int) then(if(rd (rd_L5 x7 (wrap64 ((x7.length:Int) - 1))) 2)=x9 then(spec_rpRanges.l1 k x5 x6 (x7.set ((wrap64 ((x7.length:Int) - 1)):Int).toNat ((rd_L5 x7 (wrap64 ((x7.length:Int) - 1))).set (2:Int).toNat (wrap64 ((rd (rd_L5 x7 (wrap64 ((x7.length:Int) - 1))) 2)+1)))) x8 x16 x17 x24 (wrap64 (x25+1))) else(if x7.length<5864062014805 then(spec_rpRanges.l1 k x5 x6 (x7 ++ [(([x8,x9,wrap64 (x9+1)]:List Int))]) x8 x16 x17 x24 (wrap64 (x25+1))) else(none))) else(none)) else(if x7.length<5864062014805 then(spec_rpRanges.l1 k x5 x6 (x7 ++ [(([x8,x9,wrap64 (x9+1)]:List Int))]) x8 x16 x17 x24 (wrap64 (x25+1))) else(none))) else(none)) else(none)) else(none)) else(if x7.length<5864062014805 then(spec_rpRanges.l1 k x5 x6 (x7 ++ [(([x8,x9,wrap64 (x9+1)]:List Int))]) x8 x16 x17 x24 (wrap64 (x25+1))) else(none)))
end
def spec_rpRanges.f (k:Nat) (l0:List (S51)) (l1:List (S51)):Option ((List (List Int))):=(spec_rpOpen.f k l0).bind fun t267=>((spec_rpOpen.f k l1).bind fun t270=>(spec_rpRanges.l0 k t267 t270 ([]:List (List Int)) (t267.length:Int) 0))
set_option maxHeartbeats 8000000 in
set_option maxRecDepth 100000 in
theorem spec_rpRanges.calls (k:Nat) (A0:Option Addr) (c0:Nat) (l0:List (S51)) (A1:Option Addr) (c1:Nat) (l1:List (S51)) (r:List (List Int)) (w:World) (hr0:Kd.C k51 w A0 l0.length l0) (hc0:l0.length≤c0) (hr1:Kd.C k51 w A1 l1.length l1) (hc1:l1.length≤c1) (h:spec_rpRanges.f k l0 l1=some r) :
  Calls Try.prog 42 #[.slice A0 l0.length c0,.slice A1 l1.length c1] w fun e w'=>∃ v0_:Value,e = .returned (v0_)∧Kd.S (Kd.slice 3 (Kd.int .i64)) 22 w' w.heap.size (fun _=>True) v0_ r∧Below w.heap.size w w':=by
 have HR0:=am hr0
 have HC0:=am hc0
 clear hr0 hc0
 have HR1:=am hr1
 have HC1:=am hc1
 clear hr1 hc1
 have HB:=am (Below.refl w.heap.size w)
 have H:((spec_rpOpen.f k l0).bind fun t267=>((spec_rpOpen.f k l1).bind fun t270=>(spec_rpRanges.l0 k t267 t270 ([]:List (List Int)) (t267.length:Int) 0)))=some r:=h
 clear h
 obtain⟨t267,A3,H⟩:=bnd H
 obtain⟨t270,A4,H⟩:=bnd H
 have H':=am H
 clear H
 go_enter Try.func42,Try.ntmps42
 go_wp2_with (first|((with_reducible refine gate_callee (f:=61) rfl ?_);refine goesL_ (some 12) rfl rfl Try.func61 (by kernel_rfl) rfl #[.slice A0 l0.length c0] rfl tl ?_;(with_reducible refine(spec_rpOpen.calls k _ _ l0 t267 _ ?side1 ?side2 A3.out).mono ?_);(case side1=>repeat(first|exact HR0.out|(with_reducible refine Kd.C_alloc ?_ _)|(with_reducible refine Kd.C_drewN ?_ _)|(with_reducible refine Kd.C_drew ?_)));(case side2=>exact HC0.out);rintro e w5 ⟨v268,rfl,ho0,hb⟩;refine⟨_,rfl,?_⟩;have HO269:=am (Kd.S_lower ho0 (below_size bl));replace HB:=am (below_step bl hb);(try clear hb);(try clear ho0))|((with_reducible refine gate_callee (f:=61) rfl ?_);refine goesL_ (some 14) rfl rfl Try.func61 (by kernel_rfl) rfl #[.slice A1 l1.length c1] rfl tl ?_;(with_reducible refine(spec_rpOpen.calls k _ _ l1 t270 _ ?side1 ?side2 A4.out).mono ?_);(case side1=>exact cup (Kd.C_below HR1.out HB.out));(case side2=>exact HC1.out);rintro e w6 ⟨v271,rfl,ho0,hb⟩;refine⟨_,rfl,?_⟩;have HO272:=am (Kd.S_lower (Kd.S_new' ho0 (Kd.S_lt (by(with_reducible repeat(first|apply Kd.S_alloc|apply Kd.S_drewN|apply Kd.S_drew));exact HO269.out))) (below_size bl));replace HO269:=am (Kd.S_elder' (by(with_reducible repeat(first|apply Kd.S_alloc|apply Kd.S_drewN|apply Kd.S_drew));exact HO269.out) (Kd.S_base ho0) hb);replace HB:=am (below_step bl hb);(try clear hb);(try clear ho0);obtain⟨Ao7,co7,eo7⟩:=Kd.S_slice HO269.out;subst eo7))
 go_loopg [7,17] k (fun kq v7 v17 w'=>∃(x7_1:List (List Int)) (x17_1:Int),v17 = .int .i64 x17_1∧Aside0 (spec_rpRanges.l0 kq t267 t270 x7_1 (t267.length:Int) x17_1=some r)∧Aside0 (kq≤k)∧Aside0 (Kd.S (Kd.slice 4 Kd.bool) 87 w' w.heap.size (fun k_=>some k_≠(v271:Value).ownBlock) (.slice Ao7 t267.length co7) t267)∧Aside0 (Kd.S (Kd.slice 4 Kd.bool) 87 w' w.heap.size (fun k_=>some k_≠((.slice Ao7 t267.length co7):Value).ownBlock) v271 t270)∧Aside0 (Kd.S (Kd.slice 3 (Kd.int .i64)) 22 w' w.heap.size (fun _=>True) v7 x7_1)∧Aside0 (Below w.heap.size w w'))
 case atStart=>exact⟨(([]:List (List Int))),(0),fin2,H',⟨Nat.le_refl _⟩,⟨by(with_reducible repeat(first|apply Kd.S_alloc|apply Kd.S_drewN|apply Kd.S_drew));exact Kd.S_mono HO269.out (fun _ hk=>hk.2)⟩,⟨by(with_reducible repeat(first|apply Kd.S_alloc|apply Kd.S_drewN|apply Kd.S_drew));exact Kd.S_mono HO272.out (fun _ hk=>hk.2)⟩,⟨by first|exact Kd.S_nil _ _ _ _ _|exact Kd.N_nil _ _ _ _ _|exact Kd.V_nil _ _ _ _ _|exact Kd.Q_nil _ _ _ _ _|exact Kd.R_nil _ _ _ _ _⟩,⟨bl⟩⟩
 case round =>
  clear H'
  try clear c1
  try clear p2
  try clear c4
  try clear c6
  obtain⟨x7_1,x17_1,rfl,HA,HK1,HO_5,HO_6,HO_7,HB⟩:=hrel
  cases gk with
  | zero=>exact absurd HA.out (by simp [spec_rpRanges.l0])
  | succ k1 =>
   have H:=HA.out
   clear HA
   simp only[spec_rpRanges.l0] at H
   rcases itc H with⟨c8,H⟩|⟨c8,H⟩
   ·have c8b0:=decide_eq_true c8
    clear c8
    obtain⟨c9b0,H⟩:=ifb H
    obtain⟨c10b0,H⟩:=ifb H
    have H':=am H
    clear H
    have p273:0≤(x17_1:Int):=od
    have q273:x17_1<(t267.length:Int):=od
    obtain⟨ad273,A273_0,c273_0,e273,hx273_0,hl273_0,hi273_0⟩:=at_L7 (Kd.S_reads' HO_5.out).2.2 x17_1 p273 q273
    cases e273
    obtain⟨ce273,hce273,hMe273,hcc273⟩:=Kd.S_get HO_5.out [] x17_1 p273 (by first|exact q273|exact od|(have e_:=(Kd.S_reads' HO_5.out).1;omega))
    obtain⟨ve273_0,rfl,ge273_0⟩:=hMe273
    have hv273_0:=hcc273 0 _ rfl
    rw[Nat.add_zero,show((Kd.slice 4 Kd.bool)).sz=1 from rfl,Nat.mul_one] at hv273_0
    replace hv273_0:=Option.some.inj (hv273_0.symm.trans hx273_0)
    rw[hv273_0] at ge273_0
    have HL273_0:=am (show Kd.R Kd.bool 4 _ _ _ _ (rd_L7 t267 x17_1) from ge273_0)
    clear hv273_0 ge273_0
    have HX273_0:=am hx273_0
    clear hcc273 hce273
    have HR273_0:=am hi273_0
    have HC273_0:=am hl273_0
    clear hi273_0 hl273_0
    replace p273:=eq_true p273
    replace q273:=eq_true q273
    go_wp2
    go_loopg [7,25] k1 (fun kq v7 v25 w'=>∃(x7_2:List (List Int)) (x25_2:Int),v25 = .int .i64 x25_2∧Aside0 (spec_rpRanges.l1 kq t267 t270 x7_2 x17_1 (t267.length:Int) x17_1 ((rd_L7 t267 x17_1).length:Int) x25_2=some r)∧Aside0 (kq≤k1)∧Aside0 (Kd.S (Kd.slice 4 Kd.bool) 87 w' w.heap.size (fun k_=>some k_≠(v271:Value).ownBlock) (.slice (some ad273) t267.length co7) t267)∧Aside0 (Kd.S (Kd.slice 4 Kd.bool) 87 w' w.heap.size (fun k_=>some k_≠((.slice (some ad273) t267.length co7):Value).ownBlock) v271 t270)∧Aside0 (Kd.S (Kd.slice 3 (Kd.int .i64)) 22 w' w.heap.size (fun _=>True) v7 x7_2)∧Aside0 (Below w.heap.size w w'))
    case atStart=>exact⟨(x7_1),(0),fin2,H',⟨Nat.le_refl _⟩,⟨by(with_reducible repeat(first|apply Kd.S_alloc|apply Kd.S_drewN|apply Kd.S_drew));exact HO_5.out⟩,⟨by(with_reducible repeat(first|apply Kd.S_alloc|apply Kd.S_drewN|apply Kd.S_drew));exact HO_6.out⟩,⟨by(with_reducible repeat(first|apply Kd.S_alloc|apply Kd.S_drewN|apply Kd.S_drew));exact HO_7.out⟩,⟨bl⟩⟩
    case round =>
     clear H'
     try clear c1
     try clear c2
     try clear p2
     try clear q2
     try clear hx2
     try clear c4
     try clear c6
     try clear c8
     try clear c8b0
     try clear c9
     try clear c9b0
     try clear c10
     try clear c10b0
     try clear hx273_0
     try clear p2
     try clear p273
     try clear q273
     obtain⟨x7_2,x25_2,rfl,HA,HK2,HO_5,HO_6,HO_7,HB⟩:=hrel
     cases gk with
     | zero=>exact absurd HA.out (by simp [spec_rpRanges.l1])
     | succ k2 =>
      have H:=HA.out
      clear HA
      simp only[spec_rpRanges.l1] at H
      rcases itc H with⟨c11,H⟩|⟨c11,H⟩
      ·have c11b0:=decide_eq_true c11
       clear c11
       have HC12:=am H
       clear H
       go_upto_region 9 with(fail)
       go_cut [44] (fun v44 wc=>∃(kq:Nat) (x44_11:Bool),v44 = .bool x44_11∧Aside0 (spec_rpRanges.j2 kq t267 t270 x7_2 x17_1 x25_2 (t267.length:Int) x17_1 ((rd_L7 t267 x17_1).length:Int) x25_2 x44_11=some r)∧Aside0 (kq≤k2)∧Aside0 (Kd.S (Kd.slice 4 Kd.bool) 87 wc w.heap.size (fun k_=>some k_≠(v271:Value).ownBlock) (.slice (some ad273) t267.length co7) t267)∧Aside0 (Kd.S (Kd.slice 4 Kd.bool) 87 wc w.heap.size (fun k_=>some k_≠((.slice (some ad273) t267.length co7):Value).ownBlock) v271 t270)∧Aside0 (Kd.S (Kd.slice 3 (Kd.int .i64)) 22 wc w.heap.size (fun _=>True) u7 x7_2)∧Aside0 (Below w.heap.size w wc))
       case first =>
        have H:=HC12.out
        clear HC12
        obtain⟨c13b0,H⟩:=ifb H
        (first|rw[c13b0]|(simp only[i64_w,i32_w];rw[c13b0])|skip)
        obtain⟨c14b0,H⟩:=ifb H
        obtain⟨c15b0,H⟩:=ifb H
        obtain⟨c16b0,H⟩:=ifb H
        obtain⟨bq17,hbq17⟩:∃ b_:Bool,b_=(rdOf false (rd_L7 t267 x17_1) x25_2):=⟨_,rfl⟩
        replace H:(if(bq17=true) then(if x17_1<(t270.length:Int) then(if x25_2<((rd_L7 t270 x17_1).length:Int) then(spec_rpRanges.j2 k2 t267 t270 x7_2 x17_1 x25_2 (t267.length:Int) x17_1 ((rd_L7 t267 x17_1).length:Int) x25_2 (rdOf false (rd_L7 t270 x17_1) x25_2)) else(none)) else(none)) else(spec_rpRanges.j2 k2 t267 t270 x7_2 x17_1 x25_2 (t267.length:Int) x17_1 ((rd_L7 t267 x17_1).length:Int) x25_2 true))=some r:=by rw[← hbq17] at H;exact H
        have Nbq17:=am hbq17
        clear hbq17
        by_cases c18:(bq17=true)
        ·subst c18
         replace H:=(if_pos rfl).symm.trans H
         obtain⟨c19b0,H⟩:=ifb H
         obtain⟨c20b0,H⟩:=ifb H
         have H':=am H
         clear H
         have p274:0≤(x17_1:Int):=od
         have q274:x17_1<(t267.length:Int):=od
         obtain⟨ad274,A274_0,c274_0,e274,hx274_0,hl274_0,hi274_0⟩:=at_L7 (Kd.S_reads' HO_5.out).2.2 x17_1 p274 q274
         obtain rfl:ad273=ad274:=(by injection e274)
         obtain⟨ce274,hce274,hMe274,hcc274⟩:=Kd.S_get HO_5.out [] x17_1 p274 (by first|exact q274|exact od|(have e_:=(Kd.S_reads' HO_5.out).1;omega))
         obtain⟨ve274_0,rfl,ge274_0⟩:=hMe274
         have hv274_0:=hcc274 0 _ rfl
         rw[Nat.add_zero,show((Kd.slice 4 Kd.bool)).sz=1 from rfl,Nat.mul_one] at hv274_0
         replace hv274_0:=Option.some.inj (hv274_0.symm.trans hx274_0)
         rw[hv274_0] at ge274_0
         have HL274_0:=am (show Kd.R Kd.bool 4 _ _ _ _ (rd_L7 t267 x17_1) from ge274_0)
         clear hv274_0 ge274_0
         have HX274_0:=am hx274_0
         clear hcc274 hce274
         have HR274_0:=am hi274_0
         have HC274_0:=am hl274_0
         clear hi274_0 hl274_0
         replace p274:=eq_true p274
         replace q274:=eq_true q274
         have p275:0≤(x25_2:Int):=od
         have q275:x25_2<((rd_L7 t267 x17_1).length:Int):=od
         obtain⟨ad275,e275,hx275_0⟩:=Kd.at_bool (by repeat(first|(with_reducible exact HR274_0.out)|(with_reducible refine Kd.C_alloc ?_ _)|(with_reducible refine Kd.C_drewN ?_ _)|(with_reducible refine Kd.C_drew ?_)|exact HR274_0.out)) x25_2 p275 q275
         (try rw[← Nbq17.out] at hx275_0)
         cases e275
         replace p275:=eq_true p275
         replace q275:=eq_true q275
         obtain⟨Ao21,co21,eo21⟩:=Kd.S_slice HO_6.out
         subst eo21
         have p276:0≤(x17_1:Int):=od
         have q276:x17_1<(t270.length:Int):=od
         obtain⟨ad276,A276_0,c276_0,e276,hx276_0,hl276_0,hi276_0⟩:=at_L7 (Kd.S_reads' HO_6.out).2.2 x17_1 p276 q276
         cases e276
         obtain⟨ce276,hce276,hMe276,hcc276⟩:=Kd.S_get HO_6.out [] x17_1 p276 (by first|exact q276|exact od|(have e_:=(Kd.S_reads' HO_6.out).1;omega))
         obtain⟨ve276_0,rfl,ge276_0⟩:=hMe276
         have hv276_0:=hcc276 0 _ rfl
         rw[Nat.add_zero,show((Kd.slice 4 Kd.bool)).sz=1 from rfl,Nat.mul_one] at hv276_0
         replace hv276_0:=Option.some.inj (hv276_0.symm.trans hx276_0)
         rw[hv276_0] at ge276_0
         have HL276_0:=am (show Kd.R Kd.bool 4 _ _ _ _ (rd_L7 t270 x17_1) from ge276_0)
         clear hv276_0 ge276_0
         have HX276_0:=am hx276_0
         clear hcc276 hce276
         have HR276_0:=am hi276_0
         have HC276_0:=am hl276_0
         clear hi276_0 hl276_0
         replace p276:=eq_true p276
         replace q276:=eq_true q276
         have p277:0≤(x25_2:Int):=od
         have q277:x25_2<((rd_L7 t270 x17_1).length:Int):=od
         obtain⟨ad277,e277,hx277_0⟩:=Kd.at_bool (by repeat(first|(with_reducible exact HR276_0.out)|(with_reducible refine Kd.C_alloc ?_ _)|(with_reducible refine Kd.C_drewN ?_ _)|(with_reducible refine Kd.C_drew ?_)|exact HR276_0.out)) x25_2 p277 q277
         (try rw[← Nbq17.out] at hx277_0)
         cases e277
         replace p277:=eq_true p277
         replace q277:=eq_true q277
         go_wp2
         go_meet
         case rel=>exact⟨_,(rdOf false (rd_L7 t270 x17_1) x25_2),fin2,H',⟨by have:=HK1.out;have:=HK2.out;first|omega|exact Nat.le_refl _⟩,⟨by(with_reducible repeat(first|apply Kd.S_alloc|apply Kd.S_drewN|apply Kd.S_drew));exact HO_5.out⟩,⟨by(with_reducible repeat(first|apply Kd.S_alloc|apply Kd.S_drewN|apply Kd.S_drew));exact HO_6.out⟩,⟨by(with_reducible repeat(first|apply Kd.S_alloc|apply Kd.S_drewN|apply Kd.S_drew));exact HO_7.out⟩,⟨bl⟩⟩
        ·replace c18:=Bool.eq_false_iff.mpr c18
         subst c18
         replace H:=(if_neg Bool.false_ne_true).symm.trans H
         have H':=am H
         clear H
         have p274:0≤(x17_1:Int):=od
         have q274:x17_1<(t267.length:Int):=od
         obtain⟨ad274,A274_0,c274_0,e274,hx274_0,hl274_0,hi274_0⟩:=at_L7 (Kd.S_reads' HO_5.out).2.2 x17_1 p274 q274
         obtain rfl:ad273=ad274:=(by injection e274)
         obtain⟨ce274,hce274,hMe274,hcc274⟩:=Kd.S_get HO_5.out [] x17_1 p274 (by first|exact q274|exact od|(have e_:=(Kd.S_reads' HO_5.out).1;omega))
         obtain⟨ve274_0,rfl,ge274_0⟩:=hMe274
         have hv274_0:=hcc274 0 _ rfl
         rw[Nat.add_zero,show((Kd.slice 4 Kd.bool)).sz=1 from rfl,Nat.mul_one] at hv274_0
         replace hv274_0:=Option.some.inj (hv274_0.symm.trans hx274_0)
         rw[hv274_0] at ge274_0
         have HL274_0:=am (show Kd.R Kd.bool 4 _ _ _ _ (rd_L7 t267 x17_1) from ge274_0)
         clear hv274_0 ge274_0
         have HX274_0:=am hx274_0
         clear hcc274 hce274
         have HR274_0:=am hi274_0
         have HC274_0:=am hl274_0
         clear hi274_0 hl274_0
         replace p274:=eq_true p274
         replace q274:=eq_true q274
         have p275:0≤(x25_2:Int):=od
         have q275:x25_2<((rd_L7 t267 x17_1).length:Int):=od
         obtain⟨ad275,e275,hx275_0⟩:=Kd.at_bool (by repeat(first|(with_reducible exact HR274_0.out)|(with_reducible refine Kd.C_alloc ?_ _)|(with_reducible refine Kd.C_drewN ?_ _)|(with_reducible refine Kd.C_drew ?_)|exact HR274_0.out)) x25_2 p275 q275
         (try rw[← Nbq17.out] at hx275_0)
         cases e275
         replace p275:=eq_true p275
         replace q275:=eq_true q275
         go_wp2
         go_meet
         case rel=>exact⟨_,(true),fin2,H',⟨by have:=HK1.out;have:=HK2.out;first|omega|exact Nat.le_refl _⟩,⟨by(with_reducible repeat(first|apply Kd.S_alloc|apply Kd.S_drewN|apply Kd.S_drew));exact HO_5.out⟩,⟨by(with_reducible repeat(first|apply Kd.S_alloc|apply Kd.S_drewN|apply Kd.S_drew));exact HO_6.out⟩,⟨by(with_reducible repeat(first|apply Kd.S_alloc|apply Kd.S_drewN|apply Kd.S_drew));exact HO_7.out⟩,⟨bl⟩⟩
       case rest =>
        clear HC12
        try clear c1
        try clear q1
        try clear c2
        try clear p2
        try clear q2
        try clear hx2
        try clear c4
        try clear c6
        try clear c8
        try clear c8b0
        try clear c9
        try clear c9b0
        try clear c10
        try clear c10b0
        try clear c11
        try clear c11b0
        try clear c13
        try clear c13b0
        try clear c14
        try clear c14b0
        try clear c15
        try clear c15b0
        try clear c16
        try clear c16b0
        try clear q17
        try clear c18
        try clear c19
        try clear c19b0
        try clear c20
        try clear c20b0
        try clear hx273_0
        try clear hx274_0
        try clear hx275_0
        try clear hx276_0
        try clear hx277_0
        try clear p2
        try clear p273
        try clear p274
        try clear p275
        try clear p276
        try clear p277
        try clear q2
        try clear q273
        try clear q274
        try clear q275
        try clear q276
        try clear q277
        obtain⟨kq,x44_11,rfl,HA,HJ11,HO_5,HO_6,HO_7,HB⟩:=hcut
        cases kq with
        | zero=>exact absurd HA.out (by simp [spec_rpRanges.j2])
        | succ kj11 =>
         have H:=HA.out
         clear HA
         simp only[spec_rpRanges.j2] at H
         by_cases c22:x44_11=true
         ·subst c22
          replace H:=(if_pos rfl).symm.trans H
          have H':=am H
          clear H
          go_wp2
          go_roundg kj11
          case measure=>have:=HK1.out;have:=HK2.out;have:=HJ11.out;omega
          case rel=>exact⟨(x7_2),(wrap64 (x25_2+1)),fin2,H',⟨by have:=HK1.out;have:=HK2.out;have:=HJ11.out;omega⟩,⟨by(with_reducible repeat(first|apply Kd.S_alloc|apply Kd.S_drewN|apply Kd.S_drew));exact HO_5.out⟩,⟨by(with_reducible repeat(first|apply Kd.S_alloc|apply Kd.S_drewN|apply Kd.S_drew));exact HO_6.out⟩,⟨by(with_reducible repeat(first|apply Kd.S_alloc|apply Kd.S_drewN|apply Kd.S_drew));exact HO_7.out⟩,⟨bl⟩⟩
         ·replace c22:=Bool.eq_false_iff.mpr c22
          subst c22
          replace H:=(if_neg Bool.false_ne_true).symm.trans H
          rcases itc H with⟨c23,H⟩|⟨c23,H⟩
          ·have c23b0:decide (0<(x7_2.length:Int))=true:=decide_eq_true c23
           have c23b1:decide (0<x7_2.length)=true:=decide_eq_true (by omega)
           clear c23
           obtain⟨ji24,hji24⟩:∃ j_:Int,(wrap64 ((x7_2.length:Int) - 1))=j_:=⟨_,rfl⟩
           replace H:(if 0≤(ji24) then(if(ji24)<(x7_2.length:Int) then(if 0<((rd_L5 x7_2 (ji24)).length:Int) then(if(rd (rd_L5 x7_2 (ji24)) 0)=x17_1 then(if 2<((rd_L5 x7_2 (ji24)).length:Int) then(if(rd (rd_L5 x7_2 (ji24)) 2)=x25_2 then(spec_rpRanges.l1 kj11 t267 t270 (x7_2.set ((ji24):Int).toNat ((rd_L5 x7_2 (ji24)).set (2:Int).toNat (wrap64 ((rd (rd_L5 x7_2 (ji24)) 2)+1)))) x17_1 (t267.length:Int) x17_1 ((rd_L7 t267 x17_1).length:Int) (wrap64 (x25_2+1))) else(if x7_2.length<5864062014805 then(spec_rpRanges.l1 kj11 t267 t270 (x7_2 ++ [(([x17_1,x25_2,wrap64 (x25_2+1)]:List Int))]) x17_1 (t267.length:Int) x17_1 ((rd_L7 t267 x17_1).length:Int) (wrap64 (x25_2+1))) else(none))) else(none)) else(if x7_2.length<5864062014805 then(spec_rpRanges.l1 kj11 t267 t270 (x7_2 ++ [(([x17_1,x25_2,wrap64 (x25_2+1)]:List Int))]) x17_1 (t267.length:Int) x17_1 ((rd_L7 t267 x17_1).length:Int) (wrap64 (x25_2+1))) else(none))) else(none)) else(none)) else(none))=some r:=by first|(rw[hji24] at H;exact H)|(simp only[hji24] at H ⊢;exact H)
           have hji24w:(IntKind.i64.wrap ((x7_2.length:Int) - 1))=ji24:=(i64_w _).trans hji24
           obtain⟨c25b0,H⟩:=ifb H
           obtain⟨c26b0,H⟩:=ifb H
           obtain⟨c27,H⟩:=ifp H
           have c27b0:=decide_eq_true c27
           have c27b1:decide (0<(rd_L5 x7_2 (ji24)).length)=true:=decide_eq_true (by omega)
           clear c27
           rcases itc H with⟨c28,H⟩|⟨c28,H⟩
           ·have c28b0:((rd (rd_L5 x7_2 (ji24)) 0) == x17_1)=true:=beq_iff_eq.mpr c28
            have c28b1:((rd (rd_L5 x7_2 (ji24)) 0) != x17_1)=false:=bne_eq_false_iff_eq.mpr c28
            clear c28
            obtain⟨c29,H⟩:=ifp H
            have c29b0:=decide_eq_true c29
            have c29b1:decide (2<(rd_L5 x7_2 (ji24)).length)=true:=decide_eq_true (by omega)
            clear c29
            rcases itc H with⟨c30,H⟩|⟨c30,H⟩
            ·have c30b0:((rd (rd_L5 x7_2 (ji24)) 2) == x25_2)=true:=beq_iff_eq.mpr c30
             have c30b1:((rd (rd_L5 x7_2 (ji24)) 2) != x25_2)=false:=bne_eq_false_iff_eq.mpr c30
             clear c30
             obtain⟨y284,hy284⟩:∃ y_:List Int,y_=((rd_L5 x7_2 (ji24)).set (2:Int).toNat (wrap64 ((rd (rd_L5 x7_2 (ji24)) 2)+1))):=⟨_,rfl⟩
             replace H:(spec_rpRanges.l1 kj11 t267 t270 (x7_2.set ((ji24):Int).toNat y284) x17_1 (t267.length:Int) x17_1 ((rd_L7 t267 x17_1).length:Int) (wrap64 (x25_2+1)))=some r:=by subst hy284;exact H
             have Ny284:=am hy284
             clear hy284
             obtain⟨y286,hy286⟩:∃ y_:List (List Int),y_=(x7_2.set ((ji24):Int).toNat y284):=⟨_,rfl⟩
             replace H:(spec_rpRanges.l1 kj11 t267 t270 y286 x17_1 (t267.length:Int) x17_1 ((rd_L7 t267 x17_1).length:Int) (wrap64 (x25_2+1)))=some r:=by subst hy286;exact H
             have Ny286:=am hy286
             clear hy286
             have H':=am H
             clear H
             obtain⟨Ao32,co32,eo32⟩:=Kd.S_slice HO_7.out
             subst eo32
             have p278:0≤((ji24):Int):=od
             have q278:(ji24)<(x7_2.length:Int):=od
             obtain⟨ad278,A278_0,c278_0,e278,hx278_0,hl278_0,hi278_0⟩:=at_L5 (Kd.S_reads' HO_7.out).2.2 (ji24) p278 q278
             cases e278
             obtain⟨ce278,hce278,hMe278,hcc278⟩:=Kd.S_get HO_7.out [] (ji24) p278 (by first|exact q278|exact od|(have e_:=(Kd.S_reads' HO_7.out).1;omega))
             obtain⟨ve278_0,rfl,ge278_0⟩:=hMe278
             have hv278_0:=hcc278 0 _ rfl
             rw[Nat.add_zero,show((Kd.slice 3 (Kd.int .i64))).sz=1 from rfl,Nat.mul_one] at hv278_0
             replace hv278_0:=Option.some.inj (hv278_0.symm.trans hx278_0)
             rw[hv278_0] at ge278_0
             have HL278_0:=am (show Kd.R (Kd.int .i64) 3 _ _ _ _ (rd_L5 x7_2 (ji24)) from ge278_0)
             clear hv278_0 ge278_0
             have HX278_0:=am hx278_0
             clear hcc278 hce278
             have HR278_0:=am hi278_0
             have HC278_0:=am hl278_0
             clear hi278_0 hl278_0
             replace p278:=eq_true p278
             replace q278:=eq_true q278
             have p279:0≤(0:Int):=(by omega)
             have q279:0<((rd_L5 x7_2 (ji24)).length:Int):=od
             obtain⟨ad279,e279,hx279_0⟩:=Kd.at_int (by repeat(first|(with_reducible exact HR278_0.out)|(with_reducible refine Kd.C_alloc ?_ _)|(with_reducible refine Kd.C_drewN ?_ _)|(with_reducible refine Kd.C_drew ?_)|exact HR278_0.out)) 0 p279 q279
             cases e279
             have qi279:(0<(rd_L5 x7_2 (ji24)).length)=True:=eq_true (by omega)
             (try rw[show((0:Int)).toNat=0 from rfl] at hx279_0)
             (try rw[Addr.add_zero'] at hx279_0)
             replace p279:=eq_true p279
             replace q279:=eq_true q279
             have p280:0≤((ji24):Int):=od
             have q280:(ji24)<(x7_2.length:Int):=od
             obtain⟨ad280,A280_0,c280_0,e280,hx280_0,hl280_0,hi280_0⟩:=at_L5 (Kd.S_reads' HO_7.out).2.2 (ji24) p280 q280
             obtain rfl:ad278=ad280:=(by injection e280)
             obtain⟨ce280,hce280,hMe280,hcc280⟩:=Kd.S_get HO_7.out [] (ji24) p280 (by first|exact q280|exact od|(have e_:=(Kd.S_reads' HO_7.out).1;omega))
             obtain⟨ve280_0,rfl,ge280_0⟩:=hMe280
             have hv280_0:=hcc280 0 _ rfl
             rw[Nat.add_zero,show((Kd.slice 3 (Kd.int .i64))).sz=1 from rfl,Nat.mul_one] at hv280_0
             replace hv280_0:=Option.some.inj (hv280_0.symm.trans hx280_0)
             rw[hv280_0] at ge280_0
             have HL280_0:=am (show Kd.R (Kd.int .i64) 3 _ _ _ _ (rd_L5 x7_2 (ji24)) from ge280_0)
             clear hv280_0 ge280_0
             have HX280_0:=am hx280_0
             clear hcc280 hce280
             have HR280_0:=am hi280_0
             have HC280_0:=am hl280_0
             clear hi280_0 hl280_0
             replace p280:=eq_true p280
             replace q280:=eq_true q280
             have ea_:=Option.some.inj (hx278_0.symm.trans hx280_0)
             injection ea_ with ea_ en_ ec_
             subst ea_
             subst ec_
             clear en_
             have p281:0≤(2:Int):=(by omega)
             have q281:2<((rd_L5 x7_2 (ji24)).length:Int):=od
             obtain⟨ad281,e281,hx281_0⟩:=Kd.at_int (by repeat(first|(with_reducible exact HR280_0.out)|(with_reducible refine Kd.C_alloc ?_ _)|(with_reducible refine Kd.C_drewN ?_ _)|(with_reducible refine Kd.C_drew ?_)|exact HR280_0.out)) 2 p281 q281
             cases e281
             (try simp only[show(2:Int).toNat=2 from rfl,Nat.reduceMul,Nat.reduceEqDiff,Go.Addr.add,↓reduceIte] at hx281_0)
             have qi281:(2<(rd_L5 x7_2 (ji24)).length)=True:=eq_true (by omega)
             (try rw[show((2:Int)).toNat=2 from rfl] at hx281_0)
             replace p281:=eq_true p281
             replace q281:=eq_true q281
             have p282:0≤((ji24):Int):=od
             have q282:(ji24)<(x7_2.length:Int):=od
             obtain⟨ad282,A282_0,c282_0,e282,hx282_0,hl282_0,hi282_0⟩:=at_L5 (Kd.S_reads' HO_7.out).2.2 (ji24) p282 q282
             obtain rfl:ad278=ad282:=(by injection e282)
             obtain⟨ce282,hce282,hMe282,hcc282⟩:=Kd.S_get HO_7.out [] (ji24) p282 (by first|exact q282|exact od|(have e_:=(Kd.S_reads' HO_7.out).1;omega))
             obtain⟨ve282_0,rfl,ge282_0⟩:=hMe282
             have hv282_0:=hcc282 0 _ rfl
             rw[Nat.add_zero,show((Kd.slice 3 (Kd.int .i64))).sz=1 from rfl,Nat.mul_one] at hv282_0
             replace hv282_0:=Option.some.inj (hv282_0.symm.trans hx282_0)
             rw[hv282_0] at ge282_0
             have HL282_0:=am (show Kd.R (Kd.int .i64) 3 _ _ _ _ (rd_L5 x7_2 (ji24)) from ge282_0)
             clear hv282_0 ge282_0
             have HX282_0:=am hx282_0
             clear hcc282 hce282
             have HR282_0:=am hi282_0
             have HC282_0:=am hl282_0
             clear hi282_0 hl282_0
             replace p282:=eq_true p282
             replace q282:=eq_true q282
             have ea_:=Option.some.inj (hx278_0.symm.trans hx282_0)
             injection ea_ with ea_ en_ ec_
             subst ea_
             subst ec_
             clear en_
             have p283:0≤(2:Int):=(by omega)
             have q283:2<((rd_L5 x7_2 (ji24)).length:Int):=od
             obtain⟨ad283,e283,hx283_0⟩:=Kd.at_int (by repeat(first|(with_reducible exact HR282_0.out)|(with_reducible refine Kd.C_alloc ?_ _)|(with_reducible refine Kd.C_drewN ?_ _)|(with_reducible refine Kd.C_drew ?_)|exact HR282_0.out)) 2 p283 q283
             cases e283
             (try simp only[show(2:Int).toNat=2 from rfl,Nat.reduceMul,Nat.reduceEqDiff,Go.Addr.add,↓reduceIte] at hx283_0)
             have qi283:(2<(rd_L5 x7_2 (ji24)).length)=True:=eq_true (by omega)
             (try rw[show((2:Int)).toNat=2 from rfl] at hx283_0)
             replace p283:=eq_true p283
             replace q283:=eq_true q283
             have p31:0≤(2:Int):=(by omega)
             have q31:(2:Int)<(((rd_L5 x7_2 (ji24)).length:Int):Int):=od
             have qi31:(2<(rd_L5 x7_2 (ji24)).length)=True:=eq_true (by omega)
             obtain⟨go31,co31,eo31,gb31,gl31,cl31,HG31⟩:=Kd.R_form HL282_0.out (by omega)
             (first|cases eo31|(injection eo31 with ea_ en_ ec_;(first|subst ea_|(injection ea_ with ea_;subst ea_));subst ec_;clear en_))
             have GB31:=am gb31
             have GG31:=am HG31
             clear gb31 gl31 HG31
             (first|simp only[add_plain] at hx283_0|skip)
             obtain⟨hx31_0,hf31_0⟩:=Kd.R_celln 0 HL282_0.out (2:Int) p31 q31
             (try rw[show((2:Int)).toNat=2 from rfl] at hx31_0)
             (try simp only[Nat.reduceMul,Nat.zero_mul,Nat.zero_add,Nat.reduceAdd] at hx31_0)
             (try rw[show((2:Int)).toNat=2 from rfl] at hf31_0)
             (try simp only[Nat.reduceMul,Nat.zero_mul,Nat.zero_add,Nat.reduceAdd] at hf31_0)
             replace p31:=eq_true p31
             replace q31:=eq_true q31
             have hq33:((ji24):Int)<(x7_2.length:Int):=(by have h_:((ji24):Int)<((x7_2.length:Int):Int):=od;first|exact h_|(have e_:=(Kd.S_reads' HO_7.out).1;omega)|simpa only [List.length_set,List.length_set] using h_)
             obtain⟨oki33,ce33,hcl33,hM33,hcc33,hok33,hbk33⟩:=Kd.S_borrow HO_7.out [] ((ji24):Int) (od) hq33
             obtain⟨ve33_0,rfl,ge33_0⟩:=hM33
             have hv33:=hcc33 0 _ rfl
             rw[Nat.add_zero,show((Kd.slice 3 (Kd.int .i64))).sz=1 from rfl,Nat.mul_one] at hv33
             replace hv33:=Option.some.inj (hv33.symm.trans HX282_0.out)
             subst hv33
             clear hcc33 hcl33
             replace ge33_0:=(show Kd.R (Kd.int .i64) 3 _ _ _ _ (rd_L5 x7_2 (ji24)) from ge33_0)
             have HP33:=Kd.R_putg ge33_0 (2:Int) (wrap64 ((rd (rd_L5 x7_2 (ji24)) 2)+1))
             go_wp2_with (first|((with_reducible refine gate_store (t:=3) (p:=79) rfl ?_);refine store_event (t:=3) (p:=79) (v:=?vo_w34) (w1:=(wc.setCell ⟨go31,2,none⟩ (.int .i64 (wrap64 ((rd (rd_L5 x7_2 (ji24)) 2)+1))))) ?hg ?ho ?hn ?hr ?_;(case ho=>rfl);(case hg=>rfl);(case hn=>rfl);(case hr=>first|(go_simp;done)|(go_simp;rfl));intro w34 hw;have hg:wc.grownBy w34 (some go31):=(by rw[hw];exact HP33.2);have hz_:Kd.R (Kd.int .i64) 3 w34 w.heap.size oki33 (.slice (some ⟨go31,0,none⟩) (rd_L5 x7_2 (ji24)).length c278_0) y284:=(by rw[hw,Ny284.out];exact HP33.1);have hp_:Kd.S (Kd.slice 3 (Kd.int .i64)) 22 w34 w.heap.size (fun _=>True) (.slice (some ad278) x7_2.length co32) y286:=(by rw[Ny286.out];exact hbk33 hg (fun k_ e_=>by injection e_ with e_;subst e_;exact ge33_0.1 _ rfl) (Kd.M_row hz_));have hm_:=Kd.R_mono hz_ hok33;clear HP33 hbk33;replace HO_5:=am (Kd.S_over' (v:=(.slice (some ⟨go31,0,none⟩) (rd_L5 x7_2 (ji24)).length c278_0)) (by(with_reducible repeat(first|apply Kd.S_alloc|apply Kd.S_drewN|apply Kd.S_drew));exact HO_5.out) (Kd.R_typed HL282_0.out) (by decide) hg);replace HO_6:=am (Kd.S_over' (v:=(.slice (some ⟨go31,0,none⟩) (rd_L5 x7_2 (ji24)).length c278_0)) (by(with_reducible repeat(first|apply Kd.S_alloc|apply Kd.S_drewN|apply Kd.S_drew));exact HO_6.out) (Kd.R_typed HL282_0.out) (by decide) hg);replace HO_7:=am (hp_);replace HB:=am ((by rw[hw];exact below_set (HB.out) GB31.out:Below w.heap.size w w34));have HL305:=am (hm_);have HC285:=am ((Kd.R_reads' hm_).2.1);clear HL278_0 HL280_0 HL282_0 hg hw hp_ hz_ hm_ hok33))
             go_roundg kj11
             case measure=>have:=HK1.out;have:=HK2.out;have:=HJ11.out;omega
             case rel=>exact⟨(y286),(wrap64 (x25_2+1)),fin2,H',⟨by have:=HK1.out;have:=HK2.out;have:=HJ11.out;omega⟩,⟨by(with_reducible repeat(first|apply Kd.S_alloc|apply Kd.S_drewN|apply Kd.S_drew));exact HO_5.out⟩,⟨by(with_reducible repeat(first|apply Kd.S_alloc|apply Kd.S_drewN|apply Kd.S_drew));exact HO_6.out⟩,⟨by(with_reducible repeat(first|apply Kd.S_alloc|apply Kd.S_drewN|apply Kd.S_drew));exact HO_7.out⟩,⟨bl⟩⟩
            ·have c30b0:((rd (rd_L5 x7_2 (ji24)) 2) == x25_2)=false:=beq_eq_false_iff_ne.mpr c30
             have c30b1:((rd (rd_L5 x7_2 (ji24)) 2) != x25_2)=true:=bne_iff_ne.mpr c30
             obtain⟨y287,hy287⟩:∃ y_:List Int,y_=(([x17_1,x25_2,wrap64 (x25_2+1)]:List Int)):=⟨_,rfl⟩
             replace H:(if x7_2.length<5864062014805 then(spec_rpRanges.l1 kj11 t267 t270 (x7_2 ++ [y287]) x17_1 (t267.length:Int) x17_1 ((rd_L7 t267 x17_1).length:Int) (wrap64 (x25_2+1))) else(none))=some r:=by subst hy287;exact H
             have Ny287:=am hy287
             clear hy287
             obtain⟨c35,H⟩:=ifp H
             have LMc35:=am c35
             clear c35
             obtain⟨y290,hy290⟩:∃ y_:List (List Int),y_=(x7_2 ++ [y287]):=⟨_,rfl⟩
             replace H:(spec_rpRanges.l1 kj11 t267 t270 y290 x17_1 (t267.length:Int) x17_1 ((rd_L7 t267 x17_1).length:Int) (wrap64 (x25_2+1)))=some r:=by subst hy290;exact H
             have Ny290:=am hy290
             clear hy290
             have H':=am H
             clear H
             obtain⟨Ao36,co36,eo36⟩:=Kd.S_slice HO_7.out
             subst eo36
             have p278:0≤((ji24):Int):=od
             have q278:(ji24)<(x7_2.length:Int):=od
             obtain⟨ad278,A278_0,c278_0,e278,hx278_0,hl278_0,hi278_0⟩:=at_L5 (Kd.S_reads' HO_7.out).2.2 (ji24) p278 q278
             cases e278
             obtain⟨ce278,hce278,hMe278,hcc278⟩:=Kd.S_get HO_7.out [] (ji24) p278 (by first|exact q278|exact od|(have e_:=(Kd.S_reads' HO_7.out).1;omega))
             obtain⟨ve278_0,rfl,ge278_0⟩:=hMe278
             have hv278_0:=hcc278 0 _ rfl
             rw[Nat.add_zero,show((Kd.slice 3 (Kd.int .i64))).sz=1 from rfl,Nat.mul_one] at hv278_0
             replace hv278_0:=Option.some.inj (hv278_0.symm.trans hx278_0)
             rw[hv278_0] at ge278_0
             have HL278_0:=am (show Kd.R (Kd.int .i64) 3 _ _ _ _ (rd_L5 x7_2 (ji24)) from ge278_0)
             clear hv278_0 ge278_0
             have HX278_0:=am hx278_0
             clear hcc278 hce278
             have HR278_0:=am hi278_0
             have HC278_0:=am hl278_0
             clear hi278_0 hl278_0
             replace p278:=eq_true p278
             replace q278:=eq_true q278
             have p279:0≤(0:Int):=(by omega)
             have q279:0<((rd_L5 x7_2 (ji24)).length:Int):=od
             obtain⟨ad279,e279,hx279_0⟩:=Kd.at_int (by repeat(first|(with_reducible exact HR278_0.out)|(with_reducible refine Kd.C_alloc ?_ _)|(with_reducible refine Kd.C_drewN ?_ _)|(with_reducible refine Kd.C_drew ?_)|exact HR278_0.out)) 0 p279 q279
             cases e279
             have qi279:(0<(rd_L5 x7_2 (ji24)).length)=True:=eq_true (by omega)
             (try rw[show((0:Int)).toNat=0 from rfl] at hx279_0)
             (try rw[Addr.add_zero'] at hx279_0)
             replace p279:=eq_true p279
             replace q279:=eq_true q279
             have p280:0≤((ji24):Int):=od
             have q280:(ji24)<(x7_2.length:Int):=od
             obtain⟨ad280,A280_0,c280_0,e280,hx280_0,hl280_0,hi280_0⟩:=at_L5 (Kd.S_reads' HO_7.out).2.2 (ji24) p280 q280
             obtain rfl:ad278=ad280:=(by injection e280)
             obtain⟨ce280,hce280,hMe280,hcc280⟩:=Kd.S_get HO_7.out [] (ji24) p280 (by first|exact q280|exact od|(have e_:=(Kd.S_reads' HO_7.out).1;omega))
             obtain⟨ve280_0,rfl,ge280_0⟩:=hMe280
             have hv280_0:=hcc280 0 _ rfl
             rw[Nat.add_zero,show((Kd.slice 3 (Kd.int .i64))).sz=1 from rfl,Nat.mul_one] at hv280_0
             replace hv280_0:=Option.some.inj (hv280_0.symm.trans hx280_0)
             rw[hv280_0] at ge280_0
             have HL280_0:=am (show Kd.R (Kd.int .i64) 3 _ _ _ _ (rd_L5 x7_2 (ji24)) from ge280_0)
             clear hv280_0 ge280_0
             have HX280_0:=am hx280_0
             clear hcc280 hce280
             have HR280_0:=am hi280_0
             have HC280_0:=am hl280_0
             clear hi280_0 hl280_0
             replace p280:=eq_true p280
             replace q280:=eq_true q280
             have ea_:=Option.some.inj (hx278_0.symm.trans hx280_0)
             injection ea_ with ea_ en_ ec_
             subst ea_
             subst ec_
             clear en_
             have p281:0≤(2:Int):=(by omega)
             have q281:2<((rd_L5 x7_2 (ji24)).length:Int):=od
             obtain⟨ad281,e281,hx281_0⟩:=Kd.at_int (by repeat(first|(with_reducible exact HR280_0.out)|(with_reducible refine Kd.C_alloc ?_ _)|(with_reducible refine Kd.C_drewN ?_ _)|(with_reducible refine Kd.C_drew ?_)|exact HR280_0.out)) 2 p281 q281
             cases e281
             (try simp only[show(2:Int).toNat=2 from rfl,Nat.reduceMul,Nat.reduceEqDiff,Go.Addr.add,↓reduceIte] at hx281_0)
             have qi281:(2<(rd_L5 x7_2 (ji24)).length)=True:=eq_true (by omega)
             (try rw[show((2:Int)).toNat=2 from rfl] at hx281_0)
             replace p281:=eq_true p281
             replace q281:=eq_true q281
             go_wp2_with (first|((with_reducible refine gate_dst (N:=85) rfl ?_);refine Kd.R_lit (Kd.int .i64) _ 3 ?hg (N:=85) ?hd (xs:=([x17_1,x25_2,wrap64 (x25_2+1)]:List Int)) (inner:=[.int .i64 x17_1,.int .i64 x25_2,.int .i64 (wrap64 (x25_2+1))]) (ok:=fun _=>True) (okp:=fun _=>True) ?hr ?hp (fun _ hk=>hk) trivial (Below.refl _ _) (Nat.le_refl _) (by simp) ?_;(case hd=>rfl);(case hg=>rfl);(case hr=>first|(go_simp;done)|(go_simp;rfl));(case hp=>exact(Reps.one (show Kd.M (Kd.int .i64) _ _ _ x17_1 [.int .i64 x17_1] from rfl) (Reps.one (show Kd.M (Kd.int .i64) _ _ _ x25_2 [.int .i64 x25_2] from rfl) (Reps.one (show Kd.M (Kd.int .i64) _ _ _ (wrap64 (x25_2+1)) [.int .i64 (wrap64 (x25_2+1))] from rfl) (Reps.none _ _)))));intro v288 w37 ho38 hb hg_ hnew_;clear hg_ hnew_;(first|rw[← Ny287.out] at ho38|(simp only[Int.reduceToNat] at ho38;rw[← Ny287.out] at ho38));replace HO_5:=am (Kd.S_below (by(with_reducible repeat(first|apply Kd.S_alloc|apply Kd.S_drewN|apply Kd.S_drew));exact HO_5.out) hb);replace HO_6:=am (Kd.S_below (by(with_reducible repeat(first|apply Kd.S_alloc|apply Kd.S_drewN|apply Kd.S_drew));exact HO_6.out) hb);replace HO_7:=am (Kd.S_elder' (by(with_reducible repeat(first|apply Kd.S_alloc|apply Kd.S_drewN|apply Kd.S_drew));exact HO_7.out) (Kd.R_base ho38) hb);have HO289:=am (Kd.R_lower (Kd.R_new' (Kd.R_new' ho38 (Kd.R_lt (rup (HL278_0.out)))) (Kd.R_lt (rup (HL280_0.out)))) (below_size bl));replace HL278_0:=am (Kd.R_elder' (rup (HL278_0.out)) (Kd.R_base ho38) hb);replace HL280_0:=am (Kd.R_elder' (rup (HL280_0.out)) (Kd.R_base ho38) hb);replace HR278_0:=am (Kd.C_below (by repeat(first|(with_reducible exact HR278_0.out)|(with_reducible refine Kd.C_alloc ?_ _)|(with_reducible refine Kd.C_drewN ?_ _)|(with_reducible refine Kd.C_drew ?_)|exact HR278_0.out)) hb);replace HX278_0:=am (pw_cell_below hb HX278_0.out);replace HR280_0:=am (Kd.C_below (by repeat(first|(with_reducible exact HR280_0.out)|(with_reducible refine Kd.C_alloc ?_ _)|(with_reducible refine Kd.C_drewN ?_ _)|(with_reducible refine Kd.C_drew ?_)|exact HR280_0.out)) hb);replace HX280_0:=am (pw_cell_below hb HX280_0.out);replace HB:=am (below_step bl hb);clear hb ho38;obtain⟨Ao40,co40,eo40⟩:=Kd.R_slice HO289.out;subst eo40)|((with_reducible refine gate_builtin (b := .append) (xs := #[.tmp 80,.tmp 86]) rfl ?_);at_builtin;refine Kd.S_append (Kd.slice 3 (Kd.int .i64)) (w0:=w) w.heap.size rfl (.tmp 80) (.tmp 86) 71 22 (.slice none 0 0) 24 rfl Try.underlying71 info22 rfl (by decide) (by omega) (.slice (some ad278) x7_2.length co36) x7_2 y287 [.slice Ao40 y287.length co40] (fun _=>True) (fun k_=>some k_=(.slice Ao40 y287.length co40:Value).ownBlock) rfl rfl ?aP (fun k_ hk_=>((Kd.R_mono (ok':=fun k_=>((fun _=>True)) k_∧some k_≠(.slice (some ad278) x7_2.length co36:Value).ownBlock) (Kd.R_apart' (HO289.out) (Kd.S_typed HO_7.out) (by decide)) (fun k_ hk=>⟨trivial,hk.2⟩))).1 k_ hk_.symm) ?aF ?aO ?aB ?aS ?aL ?_;(case aP=>exact Kd.M_row (Kd.R_mono (Kd.R_tight rfl (Kd.R_mono (ok':=fun k_=>((fun _=>True)) k_∧some k_≠(.slice (some ad278) x7_2.length co36:Value).ownBlock) (Kd.R_apart' (HO289.out) (Kd.S_typed HO_7.out) (by decide)) (fun k_ hk=>⟨trivial,hk.2⟩))) (fun _ h_=>h_)));(case aB=>exact bl);(case aF=>exact(fun _ _=>trivial));(case aO=>exact(by(with_reducible repeat(first|apply Kd.S_alloc|apply Kd.S_drewN|apply Kd.S_drew));exact Kd.S_mono HO_7.out (fun k_ hk=>⟨trivial,fun e_=>hk.2 e_⟩)));(case aS=>exact(below_size bl));(case aL=>have:=LMc35.out;omega);intro v291 w39 ho hb hg hat;rw[← Ny290.out] at ho;replace HO_5:=am (Kd.S_over' (by(with_reducible repeat(first|apply Kd.S_alloc|apply Kd.S_drewN|apply Kd.S_drew));exact HO_5.out) (Kd.S_typed (by(with_reducible repeat(first|apply Kd.S_alloc|apply Kd.S_drewN|apply Kd.S_drew));exact HO_7.out)) (by decide) hg);replace HO_6:=am (Kd.S_over' (by(with_reducible repeat(first|apply Kd.S_alloc|apply Kd.S_drewN|apply Kd.S_drew));exact HO_6.out) (Kd.S_typed (by(with_reducible repeat(first|apply Kd.S_alloc|apply Kd.S_drewN|apply Kd.S_drew));exact HO_7.out)) (by decide) hg);replace HL278_0:=am (Kd.R_after (ok:=(fun k_=>some k_≠(.slice Ao40 y287.length co40:Value).ownBlock)) (rup (Kd.R_mono HL278_0.out (fun _ hk=>⟨hk.2,hk.1.2⟩))) hg hat);replace HL280_0:=am (Kd.R_after (ok:=(fun k_=>some k_≠(.slice Ao40 y287.length co40:Value).ownBlock)) (rup (Kd.R_mono HL280_0.out (fun _ hk=>⟨hk.2,hk.1.2⟩))) hg hat);replace HB:=am (hb);have HO292:=am (ho);clear HO_7 HO289 ho hb hg hat))
             go_roundg kj11
             case measure=>have:=HK1.out;have:=HK2.out;have:=HJ11.out;omega
             case rel=>exact⟨(y290),(wrap64 (x25_2+1)),fin2,H',⟨by have:=HK1.out;have:=HK2.out;have:=HJ11.out;omega⟩,⟨by(with_reducible repeat(first|apply Kd.S_alloc|apply Kd.S_drewN|apply Kd.S_drew));exact HO_5.out⟩,⟨by(with_reducible repeat(first|apply Kd.S_alloc|apply Kd.S_drewN|apply Kd.S_drew));exact HO_6.out⟩,⟨by(with_reducible repeat(first|apply Kd.S_alloc|apply Kd.S_drewN|apply Kd.S_drew));exact HO292.out⟩,⟨bl⟩⟩
           ·have c28b0:((rd (rd_L5 x7_2 (ji24)) 0) == x17_1)=false:=beq_eq_false_iff_ne.mpr c28
            have c28b1:((rd (rd_L5 x7_2 (ji24)) 0) != x17_1)=true:=bne_iff_ne.mpr c28
            obtain⟨y293,hy293⟩:∃ y_:List Int,y_=(([x17_1,x25_2,wrap64 (x25_2+1)]:List Int)):=⟨_,rfl⟩
            replace H:(if x7_2.length<5864062014805 then(spec_rpRanges.l1 kj11 t267 t270 (x7_2 ++ [y293]) x17_1 (t267.length:Int) x17_1 ((rd_L7 t267 x17_1).length:Int) (wrap64 (x25_2+1))) else(none))=some r:=by subst hy293;exact H
            have Ny293:=am hy293
            clear hy293
            obtain⟨c41,H⟩:=ifp H
            have LMc41:=am c41
            clear c41
            obtain⟨y296,hy296⟩:∃ y_:List (List Int),y_=(x7_2 ++ [y293]):=⟨_,rfl⟩
            replace H:(spec_rpRanges.l1 kj11 t267 t270 y296 x17_1 (t267.length:Int) x17_1 ((rd_L7 t267 x17_1).length:Int) (wrap64 (x25_2+1)))=some r:=by subst hy296;exact H
            have Ny296:=am hy296
            clear hy296
            have H':=am H
            clear H
            obtain⟨Ao42,co42,eo42⟩:=Kd.S_slice HO_7.out
            subst eo42
            have p278:0≤((ji24):Int):=od
            have q278:(ji24)<(x7_2.length:Int):=od
            obtain⟨ad278,A278_0,c278_0,e278,hx278_0,hl278_0,hi278_0⟩:=at_L5 (Kd.S_reads' HO_7.out).2.2 (ji24) p278 q278
            cases e278
            obtain⟨ce278,hce278,hMe278,hcc278⟩:=Kd.S_get HO_7.out [] (ji24) p278 (by first|exact q278|exact od|(have e_:=(Kd.S_reads' HO_7.out).1;omega))
            obtain⟨ve278_0,rfl,ge278_0⟩:=hMe278
            have hv278_0:=hcc278 0 _ rfl
            rw[Nat.add_zero,show((Kd.slice 3 (Kd.int .i64))).sz=1 from rfl,Nat.mul_one] at hv278_0
            replace hv278_0:=Option.some.inj (hv278_0.symm.trans hx278_0)
            rw[hv278_0] at ge278_0
            have HL278_0:=am (show Kd.R (Kd.int .i64) 3 _ _ _ _ (rd_L5 x7_2 (ji24)) from ge278_0)
            clear hv278_0 ge278_0
            have HX278_0:=am hx278_0
            clear hcc278 hce278
            have HR278_0:=am hi278_0
            have HC278_0:=am hl278_0
            clear hi278_0 hl278_0
            replace p278:=eq_true p278
            replace q278:=eq_true q278
            have p279:0≤(0:Int):=(by omega)
            have q279:0<((rd_L5 x7_2 (ji24)).length:Int):=od
            obtain⟨ad279,e279,hx279_0⟩:=Kd.at_int (by repeat(first|(with_reducible exact HR278_0.out)|(with_reducible refine Kd.C_alloc ?_ _)|(with_reducible refine Kd.C_drewN ?_ _)|(with_reducible refine Kd.C_drew ?_)|exact HR278_0.out)) 0 p279 q279
            cases e279
            have qi279:(0<(rd_L5 x7_2 (ji24)).length)=True:=eq_true (by omega)
            (try rw[show((0:Int)).toNat=0 from rfl] at hx279_0)
            (try rw[Addr.add_zero'] at hx279_0)
            replace p279:=eq_true p279
            replace q279:=eq_true q279
            go_wp2_with (first|((with_reducible refine gate_dst (N:=85) rfl ?_);refine Kd.R_lit (Kd.int .i64) _ 3 ?hg (N:=85) ?hd (xs:=([x17_1,x25_2,wrap64 (x25_2+1)]:List Int)) (inner:=[.int .i64 x17_1,.int .i64 x25_2,.int .i64 (wrap64 (x25_2+1))]) (ok:=fun _=>True) (okp:=fun _=>True) ?hr ?hp (fun _ hk=>hk) trivial (Below.refl _ _) (Nat.le_refl _) (by simp) ?_;(case hd=>rfl);(case hg=>rfl);(case hr=>first|(go_simp;done)|(go_simp;rfl));(case hp=>exact(Reps.one (show Kd.M (Kd.int .i64) _ _ _ x17_1 [.int .i64 x17_1] from rfl) (Reps.one (show Kd.M (Kd.int .i64) _ _ _ x25_2 [.int .i64 x25_2] from rfl) (Reps.one (show Kd.M (Kd.int .i64) _ _ _ (wrap64 (x25_2+1)) [.int .i64 (wrap64 (x25_2+1))] from rfl) (Reps.none _ _)))));intro v294 w43 ho44 hb hg_ hnew_;clear hg_ hnew_;(first|rw[← Ny293.out] at ho44|(simp only[Int.reduceToNat] at ho44;rw[← Ny293.out] at ho44));replace HO_5:=am (Kd.S_below (by(with_reducible repeat(first|apply Kd.S_alloc|apply Kd.S_drewN|apply Kd.S_drew));exact HO_5.out) hb);replace HO_6:=am (Kd.S_below (by(with_reducible repeat(first|apply Kd.S_alloc|apply Kd.S_drewN|apply Kd.S_drew));exact HO_6.out) hb);replace HO_7:=am (Kd.S_elder' (by(with_reducible repeat(first|apply Kd.S_alloc|apply Kd.S_drewN|apply Kd.S_drew));exact HO_7.out) (Kd.R_base ho44) hb);have HO295:=am (Kd.R_lower (Kd.R_new' ho44 (Kd.R_lt (rup (HL278_0.out)))) (below_size bl));replace HL278_0:=am (Kd.R_elder' (rup (HL278_0.out)) (Kd.R_base ho44) hb);replace HR278_0:=am (Kd.C_below (by repeat(first|(with_reducible exact HR278_0.out)|(with_reducible refine Kd.C_alloc ?_ _)|(with_reducible refine Kd.C_drewN ?_ _)|(with_reducible refine Kd.C_drew ?_)|exact HR278_0.out)) hb);replace HX278_0:=am (pw_cell_below hb HX278_0.out);replace HB:=am (below_step bl hb);clear hb ho44;obtain⟨Ao46,co46,eo46⟩:=Kd.R_slice HO295.out;subst eo46)|((with_reducible refine gate_builtin (b := .append) (xs := #[.tmp 80,.tmp 86]) rfl ?_);at_builtin;refine Kd.S_append (Kd.slice 3 (Kd.int .i64)) (w0:=w) w.heap.size rfl (.tmp 80) (.tmp 86) 71 22 (.slice none 0 0) 24 rfl Try.underlying71 info22 rfl (by decide) (by omega) (.slice (some ad278) x7_2.length co42) x7_2 y293 [.slice Ao46 y293.length co46] (fun _=>True) (fun k_=>some k_=(.slice Ao46 y293.length co46:Value).ownBlock) rfl rfl ?aP (fun k_ hk_=>((Kd.R_mono (ok':=fun k_=>((fun _=>True)) k_∧some k_≠(.slice (some ad278) x7_2.length co42:Value).ownBlock) (Kd.R_apart' (HO295.out) (Kd.S_typed HO_7.out) (by decide)) (fun k_ hk=>⟨trivial,hk.2⟩))).1 k_ hk_.symm) ?aF ?aO ?aB ?aS ?aL ?_;(case aP=>exact Kd.M_row (Kd.R_mono (Kd.R_tight rfl (Kd.R_mono (ok':=fun k_=>((fun _=>True)) k_∧some k_≠(.slice (some ad278) x7_2.length co42:Value).ownBlock) (Kd.R_apart' (HO295.out) (Kd.S_typed HO_7.out) (by decide)) (fun k_ hk=>⟨trivial,hk.2⟩))) (fun _ h_=>h_)));(case aB=>exact bl);(case aF=>exact(fun _ _=>trivial));(case aO=>exact(by(with_reducible repeat(first|apply Kd.S_alloc|apply Kd.S_drewN|apply Kd.S_drew));exact Kd.S_mono HO_7.out (fun k_ hk=>⟨trivial,fun e_=>hk.2 e_⟩)));(case aS=>exact(below_size bl));(case aL=>have:=LMc41.out;omega);intro v297 w45 ho hb hg hat;rw[← Ny296.out] at ho;replace HO_5:=am (Kd.S_over' (by(with_reducible repeat(first|apply Kd.S_alloc|apply Kd.S_drewN|apply Kd.S_drew));exact HO_5.out) (Kd.S_typed (by(with_reducible repeat(first|apply Kd.S_alloc|apply Kd.S_drewN|apply Kd.S_drew));exact HO_7.out)) (by decide) hg);replace HO_6:=am (Kd.S_over' (by(with_reducible repeat(first|apply Kd.S_alloc|apply Kd.S_drewN|apply Kd.S_drew));exact HO_6.out) (Kd.S_typed (by(with_reducible repeat(first|apply Kd.S_alloc|apply Kd.S_drewN|apply Kd.S_drew));exact HO_7.out)) (by decide) hg);replace HL278_0:=am (Kd.R_after (ok:=(fun k_=>some k_≠(.slice Ao46 y293.length co46:Value).ownBlock)) (rup (Kd.R_mono HL278_0.out (fun _ hk=>⟨hk.2,hk.1.2⟩))) hg hat);replace HB:=am (hb);have HO298:=am (ho);clear HO_7 HO295 ho hb hg hat))
            go_roundg kj11
            case measure=>have:=HK1.out;have:=HK2.out;have:=HJ11.out;omega
            case rel=>exact⟨(y296),(wrap64 (x25_2+1)),fin2,H',⟨by have:=HK1.out;have:=HK2.out;have:=HJ11.out;omega⟩,⟨by(with_reducible repeat(first|apply Kd.S_alloc|apply Kd.S_drewN|apply Kd.S_drew));exact HO_5.out⟩,⟨by(with_reducible repeat(first|apply Kd.S_alloc|apply Kd.S_drewN|apply Kd.S_drew));exact HO_6.out⟩,⟨by(with_reducible repeat(first|apply Kd.S_alloc|apply Kd.S_drewN|apply Kd.S_drew));exact HO298.out⟩,⟨bl⟩⟩
          ·have c23b0:decide (0<(x7_2.length:Int))=false:=decide_eq_false c23
           have c23b1:decide (0<x7_2.length)=false:=decide_eq_false (by omega)
           clear c23
           obtain⟨y299,hy299⟩:∃ y_:List Int,y_=(([x17_1,x25_2,wrap64 (x25_2+1)]:List Int)):=⟨_,rfl⟩
           replace H:(if x7_2.length<5864062014805 then(spec_rpRanges.l1 kj11 t267 t270 (x7_2 ++ [y299]) x17_1 (t267.length:Int) x17_1 ((rd_L7 t267 x17_1).length:Int) (wrap64 (x25_2+1))) else(none))=some r:=by subst hy299;exact H
           have Ny299:=am hy299
           clear hy299
           obtain⟨c47,H⟩:=ifp H
           have LMc47:=am c47
           clear c47
           obtain⟨y302,hy302⟩:∃ y_:List (List Int),y_=(x7_2 ++ [y299]):=⟨_,rfl⟩
           replace H:(spec_rpRanges.l1 kj11 t267 t270 y302 x17_1 (t267.length:Int) x17_1 ((rd_L7 t267 x17_1).length:Int) (wrap64 (x25_2+1)))=some r:=by subst hy302;exact H
           have Ny302:=am hy302
           clear hy302
           have H':=am H
           clear H
           obtain⟨Ao48,co48,eo48⟩:=Kd.S_slice HO_7.out
           subst eo48
           go_wp2_with (first|((with_reducible refine gate_dst (N:=85) rfl ?_);refine Kd.R_lit (Kd.int .i64) _ 3 ?hg (N:=85) ?hd (xs:=([x17_1,x25_2,wrap64 (x25_2+1)]:List Int)) (inner:=[.int .i64 x17_1,.int .i64 x25_2,.int .i64 (wrap64 (x25_2+1))]) (ok:=fun _=>True) (okp:=fun _=>True) ?hr ?hp (fun _ hk=>hk) trivial (Below.refl _ _) (Nat.le_refl _) (by simp) ?_;(case hd=>rfl);(case hg=>rfl);(case hr=>first|(go_simp;done)|(go_simp;rfl));(case hp=>exact(Reps.one (show Kd.M (Kd.int .i64) _ _ _ x17_1 [.int .i64 x17_1] from rfl) (Reps.one (show Kd.M (Kd.int .i64) _ _ _ x25_2 [.int .i64 x25_2] from rfl) (Reps.one (show Kd.M (Kd.int .i64) _ _ _ (wrap64 (x25_2+1)) [.int .i64 (wrap64 (x25_2+1))] from rfl) (Reps.none _ _)))));intro v300 w49 ho50 hb hg_ hnew_;clear hg_ hnew_;(first|rw[← Ny299.out] at ho50|(simp only[Int.reduceToNat] at ho50;rw[← Ny299.out] at ho50));replace HO_5:=am (Kd.S_below (by(with_reducible repeat(first|apply Kd.S_alloc|apply Kd.S_drewN|apply Kd.S_drew));exact HO_5.out) hb);replace HO_6:=am (Kd.S_below (by(with_reducible repeat(first|apply Kd.S_alloc|apply Kd.S_drewN|apply Kd.S_drew));exact HO_6.out) hb);replace HO_7:=am (Kd.S_elder' (by(with_reducible repeat(first|apply Kd.S_alloc|apply Kd.S_drewN|apply Kd.S_drew));exact HO_7.out) (Kd.R_base ho50) hb);have HO301:=am (Kd.R_lower ho50 (below_size bl));replace HB:=am (below_step bl hb);clear hb ho50;obtain⟨Ao52,co52,eo52⟩:=Kd.R_slice HO301.out;subst eo52)|((with_reducible refine gate_builtin (b := .append) (xs := #[.tmp 80,.tmp 86]) rfl ?_);at_builtin;refine Kd.S_append (Kd.slice 3 (Kd.int .i64)) (w0:=w) w.heap.size rfl (.tmp 80) (.tmp 86) 71 22 (.slice none 0 0) 24 rfl Try.underlying71 info22 rfl (by decide) (by omega) (.slice Ao48 x7_2.length co48) x7_2 y299 [.slice Ao52 y299.length co52] (fun _=>True) (fun k_=>some k_=(.slice Ao52 y299.length co52:Value).ownBlock) rfl rfl ?aP (fun k_ hk_=>((Kd.R_mono (ok':=fun k_=>((fun _=>True)) k_∧some k_≠(.slice Ao48 x7_2.length co48:Value).ownBlock) (Kd.R_apart' (HO301.out) (Kd.S_typed HO_7.out) (by decide)) (fun k_ hk=>⟨trivial,hk.2⟩))).1 k_ hk_.symm) ?aF ?aO ?aB ?aS ?aL ?_;(case aP=>exact Kd.M_row (Kd.R_mono (Kd.R_tight rfl (Kd.R_mono (ok':=fun k_=>((fun _=>True)) k_∧some k_≠(.slice Ao48 x7_2.length co48:Value).ownBlock) (Kd.R_apart' (HO301.out) (Kd.S_typed HO_7.out) (by decide)) (fun k_ hk=>⟨trivial,hk.2⟩))) (fun _ h_=>h_)));(case aB=>exact bl);(case aF=>exact(fun _ _=>trivial));(case aO=>exact(by(with_reducible repeat(first|apply Kd.S_alloc|apply Kd.S_drewN|apply Kd.S_drew));exact Kd.S_mono HO_7.out (fun k_ hk=>⟨trivial,fun e_=>hk.2 e_⟩)));(case aS=>exact(below_size bl));(case aL=>have:=LMc47.out;omega);intro v303 w51 ho hb hg hat;rw[← Ny302.out] at ho;replace HO_5:=am (Kd.S_over' (by(with_reducible repeat(first|apply Kd.S_alloc|apply Kd.S_drewN|apply Kd.S_drew));exact HO_5.out) (Kd.S_typed (by(with_reducible repeat(first|apply Kd.S_alloc|apply Kd.S_drewN|apply Kd.S_drew));exact HO_7.out)) (by decide) hg);replace HO_6:=am (Kd.S_over' (by(with_reducible repeat(first|apply Kd.S_alloc|apply Kd.S_drewN|apply Kd.S_drew));exact HO_6.out) (Kd.S_typed (by(with_reducible repeat(first|apply Kd.S_alloc|apply Kd.S_drewN|apply Kd.S_drew));exact HO_7.out)) (by decide) hg);replace HB:=am (hb);have HO304:=am (ho);clear HO_7 HO301 ho hb hg hat))
           go_roundg kj11
           case measure=>have:=HK1.out;have:=HK2.out;have:=HJ11.out;omega
           case rel=>exact⟨(y302),(wrap64 (x25_2+1)),fin2,H',⟨by have:=HK1.out;have:=HK2.out;have:=HJ11.out;omega⟩,⟨by(with_reducible repeat(first|apply Kd.S_alloc|apply Kd.S_drewN|apply Kd.S_drew));exact HO_5.out⟩,⟨by(with_reducible repeat(first|apply Kd.S_alloc|apply Kd.S_drewN|apply Kd.S_drew));exact HO_6.out⟩,⟨by(with_reducible repeat(first|apply Kd.S_alloc|apply Kd.S_drewN|apply Kd.S_drew));exact HO304.out⟩,⟨bl⟩⟩
      ·have c11b0:=decide_eq_false c11
       clear c11
       have H':=am H
       clear H
       go_wp2
       go_roundg k2
       case measure=>have:=HK1.out;have:=HK2.out;omega
       case rel=>exact⟨(x7_2),(wrap64 (x17_1+1)),fin2,H',⟨by have:=HK1.out;have:=HK2.out;omega⟩,⟨by(with_reducible repeat(first|apply Kd.S_alloc|apply Kd.S_drewN|apply Kd.S_drew));exact HO_5.out⟩,⟨by(with_reducible repeat(first|apply Kd.S_alloc|apply Kd.S_drewN|apply Kd.S_drew));exact HO_6.out⟩,⟨by(with_reducible repeat(first|apply Kd.S_alloc|apply Kd.S_drewN|apply Kd.S_drew));exact HO_7.out⟩,⟨bl⟩⟩
   ·have c8b0:=decide_eq_false c8
    clear c8
    obtain rfl:=Option.some.inj H
    go_wp2
    go_ret
    exact⟨_,fin1,by(with_reducible repeat(first|apply Kd.S_alloc|apply Kd.S_drewN|apply Kd.S_drew));exact HO_7.out,bl⟩

def spec_rpCost.f (k:Nat) (l0:List (S51)) (l1:List (S51)) (a2:Int) (a3:Int):Option (Int):=(spec_rpRanges.f k l0 l1).bind fun t306=>((spec_rpJoin.f k t306 l1 false a2 a3).bind fun bt309=>((spec_rpRanges.f k l1 l0).bind fun t313=>((spec_rpJoin.f k t313 l1 true a2 a3).bind fun bt316=>(some (wrap64 (bt309.2+bt316.2))))))
set_option maxHeartbeats 8000000 in
set_option maxRecDepth 100000 in
theorem spec_rpCost.calls (k:Nat) (A0:Option Addr) (c0:Nat) (l0:List (S51)) (A1:Option Addr) (c1:Nat) (l1:List (S51)) (a2:Int) (a3:Int) (r:Int) (w:World) (hr0:Kd.C k51 w A0 l0.length l0) (hc0:l0.length≤c0) (hr1:Kd.C k51 w A1 l1.length l1) (hc1:l1.length≤c1) (h:spec_rpCost.f k l0 l1 a2 a3=some r) :
  Calls Try.prog 20 #[.slice A0 l0.length c0,.slice A1 l1.length c1,.int .i64 a2,.int .i64 a3] w fun e w'=>e = .returned (.int .i64 r)∧Below w.heap.size w w':=by
 have HR0:=am hr0
 have HC0:=am hc0
 clear hr0 hc0
 have HR1:=am hr1
 have HC1:=am hc1
 clear hr1 hc1
 have HB:=am (Below.refl w.heap.size w)
 have H:((spec_rpRanges.f k l0 l1).bind fun t306=>((spec_rpJoin.f k t306 l1 false a2 a3).bind fun bt309=>((spec_rpRanges.f k l1 l0).bind fun t313=>((spec_rpJoin.f k t313 l1 true a2 a3).bind fun bt316=>(some (wrap64 (bt309.2+bt316.2)))))))=some r:=h
 clear h
 obtain⟨t306,A5,H⟩:=bnd H
 obtain⟨⟨t309,t310⟩,A6,H⟩:=bnd H;dsimp only at H
 obtain⟨t313,A7,H⟩:=bnd H
 obtain⟨⟨t316,t317⟩,A8,H⟩:=bnd H;dsimp only at H
 obtain rfl:=Option.some.inj H
 go_enter Try.func20,Try.ntmps20
 go_wp2_with (first|((with_reducible refine gate_callee (f:=42) rfl ?_);refine goesL_ (some 16) rfl rfl Try.func42 (by kernel_rfl) rfl #[.slice A0 l0.length c0,.slice A1 l1.length c1] rfl tl ?_;(with_reducible refine(spec_rpRanges.calls k _ _ l0 _ _ l1 t306 _ ?side1 ?side2 ?side3 ?side4 A5.out).mono ?_);(case side1=>repeat(first|exact HR0.out|(with_reducible refine Kd.C_alloc ?_ _)|(with_reducible refine Kd.C_drewN ?_ _)|(with_reducible refine Kd.C_drew ?_)));(case side2=>exact HC0.out);(case side3=>repeat(first|exact HR1.out|(with_reducible refine Kd.C_alloc ?_ _)|(with_reducible refine Kd.C_drewN ?_ _)|(with_reducible refine Kd.C_drew ?_)));(case side4=>exact HC1.out);rintro e w9 ⟨v307,rfl,ho0,hb⟩;refine⟨_,rfl,?_⟩;have HO308:=am (Kd.S_lower ho0 (below_size bl));replace HB:=am (below_step bl hb);(try clear hb);(try clear ho0);obtain⟨Ao10,co10,eo10⟩:=Kd.S_slice HO308.out;subst eo10)|((with_reducible refine gate_callee (f:=41) rfl ?_);refine goesL_ (some 20) rfl rfl Try.func41 (by kernel_rfl) rfl #[.slice Ao10 t306.length co10,.slice A1 l1.length c1,.bool false,.int .i64 a2,.int .i64 a3] rfl tl ?_;(with_reducible refine(spec_rpJoin.calls k _ _ t306 _ _ l1 false a2 a3 t309 t310 _ ?side1 ?side2 ?side3 ?side4 A6.out).mono ?_);(case side1=>repeat(first|exact(Kd.S_reads' HO308.out).2.2|(with_reducible refine Kd.C_alloc ?_ _)|(with_reducible refine Kd.C_drewN ?_ _)|(with_reducible refine Kd.C_drew ?_)));(case side2=>exact(Kd.S_reads' HO308.out).2.1);(case side3=>exact cup (Kd.C_below HR1.out HB.out));(case side4=>exact HC1.out);rintro e w11 ⟨v311,rfl,ho0,hb⟩;refine⟨_,rfl,?_⟩;have HO312:=am (Kd.S_lower (Kd.S_new' ho0 (Kd.S_lt (by(with_reducible repeat(first|apply Kd.S_alloc|apply Kd.S_drewN|apply Kd.S_drew));exact HO308.out))) (below_size bl));replace HO308:=am (Kd.S_elder' (by(with_reducible repeat(first|apply Kd.S_alloc|apply Kd.S_drewN|apply Kd.S_drew));exact HO308.out) (Kd.S_base ho0) hb);replace HB:=am (below_step bl hb);(try clear hb);(try clear ho0))|((with_reducible refine gate_callee (f:=42) rfl ?_);refine goesL_ (some 26) rfl rfl Try.func42 (by kernel_rfl) rfl #[.slice A1 l1.length c1,.slice A0 l0.length c0] rfl tl ?_;(with_reducible refine(spec_rpRanges.calls k _ _ l1 _ _ l0 t313 _ ?side1 ?side2 ?side3 ?side4 A7.out).mono ?_);(case side1=>exact cup (Kd.C_below HR1.out HB.out));(case side2=>exact HC1.out);(case side3=>exact cup (Kd.C_below HR0.out HB.out));(case side4=>exact HC0.out);rintro e w12 ⟨v314,rfl,ho0,hb⟩;refine⟨_,rfl,?_⟩;have HO315:=am (Kd.S_lower (Kd.S_new' (Kd.S_new' ho0 (Kd.S_lt (by(with_reducible repeat(first|apply Kd.S_alloc|apply Kd.S_drewN|apply Kd.S_drew));exact HO308.out))) (Kd.S_lt (by(with_reducible repeat(first|apply Kd.S_alloc|apply Kd.S_drewN|apply Kd.S_drew));exact HO312.out))) (below_size bl));replace HO308:=am (Kd.S_elder' (by(with_reducible repeat(first|apply Kd.S_alloc|apply Kd.S_drewN|apply Kd.S_drew));exact HO308.out) (Kd.S_base ho0) hb);replace HO312:=am (Kd.S_elder' (by(with_reducible repeat(first|apply Kd.S_alloc|apply Kd.S_drewN|apply Kd.S_drew));exact HO312.out) (Kd.S_base ho0) hb);replace HB:=am (below_step bl hb);(try clear hb);(try clear ho0);obtain⟨Ao13,co13,eo13⟩:=Kd.S_slice HO315.out;subst eo13)|((with_reducible refine gate_callee (f:=41) rfl ?_);refine goesL_ (some 30) rfl rfl Try.func41 (by kernel_rfl) rfl #[.slice Ao13 t313.length co13,.slice A1 l1.length c1,.bool true,.int .i64 a2,.int .i64 a3] rfl tl ?_;(with_reducible refine(spec_rpJoin.calls k _ _ t313 _ _ l1 true a2 a3 t316 t317 _ ?side1 ?side2 ?side3 ?side4 A8.out).mono ?_);(case side1=>repeat(first|exact(Kd.S_reads' HO315.out).2.2|(with_reducible refine Kd.C_alloc ?_ _)|(with_reducible refine Kd.C_drewN ?_ _)|(with_reducible refine Kd.C_drew ?_)));(case side2=>exact(Kd.S_reads' HO315.out).2.1);(case side3=>exact cup (Kd.C_below HR1.out HB.out));(case side4=>exact HC1.out);rintro e w14 ⟨v318,rfl,ho0,hb⟩;refine⟨_,rfl,?_⟩;have HO319:=am (Kd.S_lower (Kd.S_new' (Kd.S_new' (Kd.S_new' ho0 (Kd.S_lt (by(with_reducible repeat(first|apply Kd.S_alloc|apply Kd.S_drewN|apply Kd.S_drew));exact HO308.out))) (Kd.S_lt (by(with_reducible repeat(first|apply Kd.S_alloc|apply Kd.S_drewN|apply Kd.S_drew));exact HO312.out))) (Kd.S_lt (by(with_reducible repeat(first|apply Kd.S_alloc|apply Kd.S_drewN|apply Kd.S_drew));exact HO315.out))) (below_size bl));replace HO308:=am (Kd.S_elder' (by(with_reducible repeat(first|apply Kd.S_alloc|apply Kd.S_drewN|apply Kd.S_drew));exact HO308.out) (Kd.S_base ho0) hb);replace HO312:=am (Kd.S_elder' (by(with_reducible repeat(first|apply Kd.S_alloc|apply Kd.S_drewN|apply Kd.S_drew));exact HO312.out) (Kd.S_base ho0) hb);replace HO315:=am (Kd.S_elder' (by(with_reducible repeat(first|apply Kd.S_alloc|apply Kd.S_drewN|apply Kd.S_drew));exact HO315.out) (Kd.S_base ho0) hb);replace HB:=am (below_step bl hb);(try clear hb);(try clear ho0)))
 go_ret
 exact⟨fin1,bl⟩

end Go.Proofs.Ythmpginbaafbhaa.PFnExactRepairToPlay
