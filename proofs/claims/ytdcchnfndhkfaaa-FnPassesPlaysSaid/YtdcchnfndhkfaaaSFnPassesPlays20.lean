/- Walks of functions that FnPassesPlays reaches. No conditions beyond the arguments' being read. -/
import Derived.Test.YtdcchnfndhkfaaaSFnPassesPlays0
import Derived.Test.YtdcchnfndhkfaaaSFnPassesPlays9
import Derived.Test.YtdcchnfndhkfaaaSFnPassesPlays17
import Derived.Test.YtdcchnfndhkfaaaSFnPassesPlays18
import Derived.Test.YtdcchnfndhkfaaaSFnPassesPlays19
namespace Go.Proofs.Ytdcchnfndhkfaaa.PFnPassesPlays
open Go.RowKit Go.Proofs.YtdcchnfndhkfaaaW.PrintWords Go.Proofs.YtdcchnfndhkfaaaW.PrintLast Go.Proofs.YtdcchnfndhkfaaaW.PrintMore
attribute [local go_sem] max2_int min2_int max_two min_two max_three min_three max_four min_four
set_option linter.unusedVariables false
set_option linter.unusedSimpArgs false

mutual
def laws_FnPassesPlays.j0:Nat→List (S35)→List (S60)→Int→Bool→List Int→Int→Int→Int→Int→Option (Bool)
 | 0,_,_,_,_,_,_,_,_,_=>none
 | k+1,x1,x2,x4,x35,x453000,x453001,x454000,x454001,x454002=>if x35=true then(some true) else((impl_PassesVerifier.f k x453000 x453001 x1 x2 x454000 x454001 x454002 x4).bind fun bt454=>((spec_PassesVerifier.f k x453000 x453001 x1 x2 x454000 x454001 x454002 x4).bind fun bt456=>((impl_PlaysAsPromised.f k x453000 x453001 x1 x2 x454000 x454001 x454002 x4).bind fun bt458=>(if(bt454.2 != bt456.2)=true then(laws_FnPassesPlays.j1 k x1 x2 x4 bt454.1 true x453000 x453001 x454000 x454001 x454002) else(if(bt454.1 != bt456.1)=true then(laws_FnPassesPlays.j1 k x1 x2 x4 bt454.1 true x453000 x453001 x454000 x454001 x454002) else(if(bt454.2 != bt458.2)=true then(laws_FnPassesPlays.j1 k x1 x2 x4 bt454.1 true x453000 x453001 x454000 x454001 x454002) else(if bt454.1=true then(laws_FnPassesPlays.j1 k x1 x2 x4 bt454.1 (!bt458.1) x453000 x453001 x454000 x454001 x454002) else(laws_FnPassesPlays.j1 k x1 x2 x4 bt454.1 false x453000 x453001 x454000 x454001 x454002))))))))
def laws_FnPassesPlays.j1:Nat→List (S35)→List (S60)→Int→Bool→Bool→List Int→Int→Int→Int→Int→Option (Bool)
 | 0,_,_,_,_,_,_,_,_,_,_=>none
 | k+1,x1,x2,x4,x11,x82,x453000,x453001,x454000,x454001,x454002=>if x82=true then(some false) else(if x11=true then((impl_PlayedBy.f k x453000 x453001 x2 x454000 x454001 x454002).bind fun bt460=>(if bt460.2=true then(laws_FnPassesPlays.j2 k x1 x4 bt460.1 ((bt460.1.length:Int) != (x1.length:Int)) x454000 x454001 x454002) else(laws_FnPassesPlays.j2 k x1 x4 bt460.1 true x454000 x454001 x454002))) else(some true))
def laws_FnPassesPlays.j2:Nat→List (S35)→Int→List (S37)→Bool→Int→Int→Int→Option (Bool)
 | 0,_,_,_,_,_,_,_=>none
 | k+1,x1,x4,x17,x100,x454000,x454001,x454002=>if x100=true then(some false) else(laws_FnPassesPlays.l0 k x1 x4 x17 x1 (x1.length:Int) 0 x454000 x454001 x454002)
def laws_FnPassesPlays.l0:Nat→List (S35)→Int→List (S37)→List (S35)→Int→Int→Int→Int→Int→Option (Bool)
 | 0,_,_,_,_,_,_,_,_,_=>none
 | k+1,x1,x4,x17,x101,x102,x103,x454000,x454001,x454002=>if x103<x102 then(if 0≤x103 then(if x103<(x101.length:Int) then(if x103≤(x1.length:Int) then((some (x1.take (x103:Int).toNat:List (S35))).bind fun y466=>(laws_FnPassesPlays.l1 k x1 x4 x17 0 false x101 x102 x103 y466 (y466.length:Int) 0 x454000 x454001 x454002 ((rd_T35 x101 x103).f0) ((rd_T35 x101 x103).f1) ((rd_T35 x101 x103).f2))) else(none)) else(none)) else(none)) else(some true)
def laws_FnPassesPlays.l1:Nat→List (S35)→Int→List (S37)→Int→Bool→List (S35)→Int→Int→List (S35)→Int→Int→Int→Int→Int→Int→Int→Int→Option (Bool)
 | 0,_,_,_,_,_,_,_,_,_,_,_,_,_,_,_,_,_=>none
 | k+1,x1,x4,x17,x21,x22,x101,x102,x103,x110,x111,x112,x454000,x454001,x454002,x466000,x466001,x466002=>if x112<x111 then(if 0≤x112 then(if x112<(x110.length:Int) then(if((rd_T35 x110 x112).f0)=x466000 then(laws_FnPassesPlays.l1 k x1 x4 x17 (wrap64 (x21+1)) x22 x101 x102 x103 x110 x111 (wrap64 (x112+1)) x454000 x454001 x454002 x466000 x466001 x466002) else(laws_FnPassesPlays.l1 k x1 x4 x17 x21 x22 x101 x102 x103 x110 x111 (wrap64 (x112+1)) x454000 x454001 x454002 x466000 x466001 x466002)) else(none)) else(none)) else(laws_FnPassesPlays.l2 k x1 x4 x17 x21 x22 x101 x102 x103 x17 (x17.length:Int) 0 x454000 x454001 x454002 x466000 x466001 x466002)
def laws_FnPassesPlays.l2:Nat→List (S35)→Int→List (S37)→Int→Bool→List (S35)→Int→Int→List (S37)→Int→Int→Int→Int→Int→Int→Int→Int→Option (Bool)
 | 0,_,_,_,_,_,_,_,_,_,_,_,_,_,_,_,_,_=>none
 | k+1,x1,x4,x17,x21,x22,x101,x102,x103,x124,x125,x126,x454000,x454001,x454002,x466000,x466001,x466002=>if x126<x125 then(if 0≤x126 then(if x126<(x124.length:Int) then(if((rd_T37 x124 x126).f0)=x466000 then(if x21=0 then(if(wrap64 ((wrap64 (((rd_T37 x124 x126).f1) - (wrap64 (2*x466001)))) - x454000))≥(wrap64 (-x4)) then(if((wrap64 ((wrap64 (((rd_T37 x124 x126).f1) - (wrap64 (2*x466001)))) - x454000))≤x4) then(laws_FnPassesPlays.l0 k x1 x4 x17 x101 x102 (wrap64 (x103+1)) x454000 x454001 x454002) else(some false)) else(some false)) else(laws_FnPassesPlays.l2 k x1 x4 x17 (wrap64 (x21 - 1)) x22 x101 x102 x103 x124 x125 (wrap64 (x126+1)) x454000 x454001 x454002 x466000 x466001 x466002)) else(laws_FnPassesPlays.l2 k x1 x4 x17 x21 x22 x101 x102 x103 x124 x125 (wrap64 (x126+1)) x454000 x454001 x454002 x466000 x466001 x466002)) else(none)) else(none)) else(if x22=true then(laws_FnPassesPlays.l0 k x1 x4 x17 x101 x102 (wrap64 (x103+1)) x454000 x454001 x454002) else(some false))
end
def laws_FnPassesPlays.f (k:Nat) (l0_0:List Int) (a0_1:Int) (l1:List (S35)) (l2:List (S60)) (a3_0:Int) (a3_1:Int) (a3_2:Int) (a4:Int):Option (Bool):=if(l1.length:Int)>65536 then(laws_FnPassesPlays.j0 k l1 l2 a4 true l0_0 a0_1 a3_0 a3_1 a3_2) else(laws_FnPassesPlays.j0 k l1 l2 a4 (decide ((l2.length:Int)>65536)) l0_0 a0_1 a3_0 a3_1 a3_2)
set_option maxHeartbeats 8000000 in
set_option maxRecDepth 100000 in
theorem laws_FnPassesPlays.calls (k:Nat) (A0_0:Option Addr) (c0_0:Nat) (l0_0:List Int) (a0_1:Int) (A1:Option Addr) (c1:Nat) (l1:List (S35)) (A2:Option Addr) (c2:Nat) (l2:List (S60)) (a3_0:Int) (a3_1:Int) (a3_2:Int) (a4:Int) (r:Bool) (w:World) (hr0_0:Kd.C (Kd.int .i64) w A0_0 l0_0.length l0_0) (hc0_0:l0_0.length≤c0_0) (hr1:Kd.C k35 w A1 l1.length l1) (hc1:l1.length≤c1) (hr2:Kd.C k60 w A2 l2.length l2) (hc2:l2.length≤c2) (h:laws_FnPassesPlays.f k l0_0 a0_1 l1 l2 a3_0 a3_1 a3_2 a4=some r) :
  Calls Try.prog 3 #[.agg #[.slice A0_0 l0_0.length c0_0,.int .i64 a0_1],.slice A1 l1.length c1,.slice A2 l2.length c2,.agg #[.int .i64 a3_0,.int .i64 a3_1,.int .i64 a3_2],.int .i64 a4] w fun e w'=>e = .returned (.bool r)∧Below w.heap.size w w':=by
 have hu24:=Try.underlying24
 have hu28:=Try.underlying28
 have hu35:=Try.underlying35
 have hu37:=Try.underlying37
 have HR0_0:=am hr0_0
 have HC0_0:=am hc0_0
 clear hr0_0 hc0_0
 have HR1:=am hr1
 have HC1:=am hc1
 clear hr1 hc1
 have HR2:=am hr2
 have HC2:=am hc2
 clear hr2 hc2
 have HB:=am (Below.refl w.heap.size w)
 have H:(if(l1.length:Int)>65536 then(laws_FnPassesPlays.j0 k l1 l2 a4 true l0_0 a0_1 a3_0 a3_1 a3_2) else(laws_FnPassesPlays.j0 k l1 l2 a4 (decide ((l2.length:Int)>65536)) l0_0 a0_1 a3_0 a3_1 a3_2))=some r:=h
 clear h
 have HC6:=am H
 clear H
 go_enter Try.func3,Try.ntmps3
 go_upto_region 1 with(first|((with_reducible refine gate_dst (N:=5) rfl ?_);(try(refine gate_guard (by rfl) ?_;dsimp only));refine box_event ?hg (N:=5) ?hd (cs := #[.slice A0_0 l0_0.length c0_0,.int .i64 a0_1]) (t:=24) ?hr ?_;(case hd=>rfl);(case hg=>rfl);(case hr=>first|(go_simp;done)|(go_simp;rfl));intro gb452 hg w7 hbox hb;have BK452:=am (hbox);have GW452:=am (ge_ bl hg);have GE452:=am (ge_ bl hg);replace HB:=am (below_step bl hb);clear hb hbox hg)|((with_reducible refine gate_dst (N:=8) rfl ?_);(try(refine gate_guard (by rfl) ?_;dsimp only));refine box_event ?hg (N:=8) ?hd (cs := #[.int .i64 a3_0,.int .i64 a3_1,.int .i64 a3_2]) (t:=28) ?hr ?_;(case hd=>rfl);(case hg=>rfl);(case hr=>first|(go_simp;done)|(go_simp;rfl));intro gb453 hg w8 hbox hb;have BK453:=am (hbox);have GW453:=am (ge_ bl hg);have GE453:=am (ge_ bl hg);replace HB:=am (below_step bl hb);have NB452_453:=am (nl (bup BK452.out) hg);have NB453_452:=am (ng (bup BK452.out) hg);replace BK452:=am (blk_below (bup BK452.out) hb);clear hb hbox hg))
 (try simp only[Act.put,List.setIfInBounds_toArray,List.set_cons_zero,List.set_cons_succ])
 go_cut [35] (fun v35 wc=>∃(kq:Nat) (x35_5:Bool),v35 = .bool x35_5∧Aside0 (laws_FnPassesPlays.j0 kq l1 l2 a4 x35_5 l0_0 a0_1 a3_0 a3_1 a3_2=some r)∧Aside0 (kq≤k)∧Aside0 (wc.heap[gb452]?=some (.cells #[(.slice A0_0 l0_0.length c0_0),.int .i64 a0_1] 24 (0,0)))∧Aside0 (wc.heap[gb453]?=some (.cells #[.int .i64 a3_0,.int .i64 a3_1,.int .i64 a3_2] 28 (0,0)))∧Aside0 (Below w.heap.size w wc))
 case first =>
  have H:=HC6.out
  clear HC6
  rcases itc H with⟨c9,H⟩|⟨c9,H⟩
  ·have c9b0:decide (65536<(l1.length:Int))=true:=decide_eq_true c9
   have c9b1:decide (65536<l1.length)=true:=decide_eq_true (by omega)
   clear c9
   (first|rw[c9b0]|(simp only[i64_w,i32_w];rw[c9b0])|skip)
   have H':=am H
   clear H
   go_wp2
   go_meet
   case rel=>exact⟨_,(true),fin2,H',⟨by first|omega|exact Nat.le_refl _⟩,⟨bup BK452.out⟩,⟨bup BK453.out⟩,⟨bl⟩⟩
  ·have c9b0:decide (65536<(l1.length:Int))=false:=decide_eq_false c9
   have c9b1:decide (65536<l1.length)=false:=decide_eq_false (by omega)
   clear c9
   (first|rw[c9b0]|(simp only[i64_w,i32_w];rw[c9b0])|skip)
   have H':=am H
   clear H
   go_wp2
   go_meet
   case rel=>exact⟨_,(decide ((l2.length:Int)>65536)),fin2,H',⟨by first|omega|exact Nat.le_refl _⟩,⟨bup BK452.out⟩,⟨bup BK453.out⟩,⟨bl⟩⟩
 case rest =>
  clear HC6
  obtain⟨kq,x35_5,rfl,HA,HJ5,BK452,BK453,HB⟩:=hcut
  cases kq with
  | zero=>exact absurd HA.out (by simp [laws_FnPassesPlays.j0])
  | succ kj5 =>
   have H:=HA.out
   clear HA
   simp only[laws_FnPassesPlays.j0] at H
   by_cases c10:x35_5=true
   ·subst c10
    replace H:=(if_pos rfl).symm.trans H
    obtain rfl:=Option.some.inj H
    go_wp2
    go_ret
    exact⟨fin1,bl⟩
   ·replace c10:=Bool.eq_false_iff.mpr c10
    subst c10
    replace H:=(if_neg Bool.false_ne_true).symm.trans H
    obtain⟨⟨t454,t455⟩,A11,H⟩:=bnd H;dsimp only at H
    obtain⟨⟨t456,t457⟩,A12,H⟩:=bnd H;dsimp only at H
    obtain⟨⟨t458,t459⟩,A13,H⟩:=bnd H;dsimp only at H
    have HC14:=am H
    clear H
    have hnb15:=NB452_453.out
    have hnc15:=NB453_452.out
    have hcz16_0:=bc BK452.out 0
    have hcz16_1:=bc BK452.out 1
    have hfz16_0:=blk_frozen BK452.out 0
    have hfz16_1:=blk_frozen BK452.out 1
    have hcz17_0:=bc BK453.out 0
    have hcz17_1:=bc BK453.out 1
    have hcz17_2:=bc BK453.out 2
    have hfz17_0:=blk_frozen BK453.out 0
    have hfz17_1:=blk_frozen BK453.out 1
    have hfz17_2:=blk_frozen BK453.out 2
    go_upto_region 6 with(first|((with_reducible refine gate_callee (f:=4) rfl ?_);refine goesL_ (some 42) rfl rfl Try.func4 (by kernel_rfl) rfl #[.agg #[.slice A0_0 l0_0.length c0_0,.int .i64 a0_1],.slice A1 l1.length c1,.slice A2 l2.length c2,.agg #[.int .i64 a3_0,.int .i64 a3_1,.int .i64 a3_2],.int .i64 a4] rfl tl ?_;(with_reducible refine(impl_PassesVerifier.calls kj5 _ _ l0_0 a0_1 _ _ l1 _ _ l2 a3_0 a3_1 a3_2 a4 t454 t455 _ ?side1 ?side2 ?side3 ?side4 ?side5 ?side6 A11.out).mono ?_);(case side1=>exact cup (Kd.C_below HR0_0.out HB.out));(case side2=>exact HC0_0.out);(case side3=>exact cup (Kd.C_below HR1.out HB.out));(case side4=>exact HC1.out);(case side5=>exact cup (Kd.C_below HR2.out HB.out));(case side6=>exact HC2.out);rintro e w18 ⟨rfl,hb⟩;refine⟨_,rfl,?_⟩;replace BK452:=am (blk_below (bup BK452.out) hb);replace BK453:=am (blk_below (bup BK453.out) hb);replace HB:=am (below_step bl hb);(try clear hb);have hcz19_0:=bc BK452.out 0;have hcz19_1:=bc BK452.out 1;have hfz19_0:=blk_frozen BK452.out 0;have hfz19_1:=blk_frozen BK452.out 1;have hcz20_0:=bc BK453.out 0;have hcz20_1:=bc BK453.out 1;have hcz20_2:=bc BK453.out 2;have hfz20_0:=blk_frozen BK453.out 0;have hfz20_1:=blk_frozen BK453.out 1;have hfz20_2:=blk_frozen BK453.out 2)|((with_reducible refine gate_callee (f:=5) rfl ?_);refine goesL_ (some 51) rfl rfl Try.func5 (by kernel_rfl) rfl #[.agg #[.slice A0_0 l0_0.length c0_0,.int .i64 a0_1],.slice A1 l1.length c1,.slice A2 l2.length c2,.agg #[.int .i64 a3_0,.int .i64 a3_1,.int .i64 a3_2],.int .i64 a4] rfl tl ?_;(with_reducible refine(spec_PassesVerifier.calls kj5 _ _ l0_0 a0_1 _ _ l1 _ _ l2 a3_0 a3_1 a3_2 a4 t456 t457 _ ?side1 ?side2 ?side3 ?side4 ?side5 ?side6 A12.out).mono ?_);(case side1=>exact cup (Kd.C_below HR0_0.out HB.out));(case side2=>exact HC0_0.out);(case side3=>exact cup (Kd.C_below HR1.out HB.out));(case side4=>exact HC1.out);(case side5=>exact cup (Kd.C_below HR2.out HB.out));(case side6=>exact HC2.out);rintro e w21 ⟨rfl,hb⟩;refine⟨_,rfl,?_⟩;replace BK452:=am (blk_below (bup BK452.out) hb);replace BK453:=am (blk_below (bup BK453.out) hb);replace HB:=am (below_step bl hb);(try clear hb);have hcz22_0:=bc BK452.out 0;have hcz22_1:=bc BK452.out 1;have hfz22_0:=blk_frozen BK452.out 0;have hfz22_1:=blk_frozen BK452.out 1;have hcz23_0:=bc BK453.out 0;have hcz23_1:=bc BK453.out 1;have hcz23_2:=bc BK453.out 2;have hfz23_0:=blk_frozen BK453.out 0;have hfz23_1:=blk_frozen BK453.out 1;have hfz23_2:=blk_frozen BK453.out 2)|((with_reducible refine gate_callee (f:=6) rfl ?_);refine goesL_ (some 60) rfl rfl Try.func6 (by kernel_rfl) rfl #[.agg #[.slice A0_0 l0_0.length c0_0,.int .i64 a0_1],.slice A1 l1.length c1,.slice A2 l2.length c2,.agg #[.int .i64 a3_0,.int .i64 a3_1,.int .i64 a3_2],.int .i64 a4] rfl tl ?_;(with_reducible refine(impl_PlaysAsPromised.calls kj5 _ _ l0_0 a0_1 _ _ l1 _ _ l2 a3_0 a3_1 a3_2 a4 t458 t459 _ ?side1 ?side2 ?side3 ?side4 ?side5 ?side6 A13.out).mono ?_);(case side1=>exact cup (Kd.C_below HR0_0.out HB.out));(case side2=>exact HC0_0.out);(case side3=>exact cup (Kd.C_below HR1.out HB.out));(case side4=>exact HC1.out);(case side5=>exact cup (Kd.C_below HR2.out HB.out));(case side6=>exact HC2.out);rintro e w24 ⟨rfl,hb⟩;refine⟨_,rfl,?_⟩;replace BK452:=am (blk_below (bup BK452.out) hb);replace BK453:=am (blk_below (bup BK453.out) hb);replace HB:=am (below_step bl hb);(try clear hb)))
    (try simp only[Act.put,List.setIfInBounds_toArray,List.set_cons_zero,List.set_cons_succ])
    go_cut [82] (fun v82 wc=>∃(kq:Nat) (x82_13:Bool),v82 = .bool x82_13∧Aside0 (laws_FnPassesPlays.j1 kq l1 l2 a4 t454 x82_13 l0_0 a0_1 a3_0 a3_1 a3_2=some r)∧Aside0 (kq≤kj5)∧Aside0 (wc.heap[gb452]?=some (.cells #[(.slice A0_0 l0_0.length c0_0),.int .i64 a0_1] 24 (0,0)))∧Aside0 (wc.heap[gb453]?=some (.cells #[.int .i64 a3_0,.int .i64 a3_1,.int .i64 a3_2] 28 (0,0)))∧Aside0 (Below w.heap.size w wc))
    case first =>
     have H:=HC14.out
     clear HC14
     rcases itc H with⟨c25,H⟩|⟨c25,H⟩
     ·have c25b0:(t455 != t457)=true:=c25
      (try(have c25b1:decide (t455=t457)=false:=by simpa using c25))
      (try(have c25b2:(t455 == t457)=false:=by simpa using c25))
      (try(have c25b3:¬ (t455=t457):=by simpa using c25))
      clear c25
      (first|rw[c25b0]|(simp only[i64_w,i32_w];rw[c25b0])|skip)
      have H':=am H
      clear H
      go_wp2
      go_meet
      case rel=>exact⟨_,(true),fin2,H',⟨by have:=HJ5.out;first|omega|exact Nat.le_refl _⟩,⟨bup BK452.out⟩,⟨bup BK453.out⟩,⟨bl⟩⟩
     ·have c25b0:(t455 != t457)=false:=by simpa using c25
      (try(have c25b1:decide (t455=t457)=true:=by simpa using c25))
      (try(have c25b2:(t455 == t457)=true:=by simpa using c25))
      clear c25
      (first|rw[c25b0]|(simp only[i64_w,i32_w];rw[c25b0])|skip)
      rcases itc H with⟨c26,H⟩|⟨c26,H⟩
      ·have c26b0:(t454 != t456)=true:=c26
       (try(have c26b1:decide (t454=t456)=false:=by simpa using c26))
       (try(have c26b2:(t454 == t456)=false:=by simpa using c26))
       (try(have c26b3:¬ (t454=t456):=by simpa using c26))
       clear c26
       have H':=am H
       clear H
       go_wp2
       go_meet
       case rel=>exact⟨_,(true),fin2,H',⟨by have:=HJ5.out;first|omega|exact Nat.le_refl _⟩,⟨bup BK452.out⟩,⟨bup BK453.out⟩,⟨bl⟩⟩
      ·have c26b0:(t454 != t456)=false:=by simpa using c26
       (try(have c26b1:decide (t454=t456)=true:=by simpa using c26))
       (try(have c26b2:(t454 == t456)=true:=by simpa using c26))
       clear c26
       rcases itc H with⟨c27,H⟩|⟨c27,H⟩
       ·have c27b0:(t455 != t459)=true:=c27
        (try(have c27b1:decide (t455=t459)=false:=by simpa using c27))
        (try(have c27b2:(t455 == t459)=false:=by simpa using c27))
        (try(have c27b3:¬ (t455=t459):=by simpa using c27))
        clear c27
        have H':=am H
        clear H
        go_wp2
        go_meet
        case rel=>exact⟨_,(true),fin2,H',⟨by have:=HJ5.out;first|omega|exact Nat.le_refl _⟩,⟨bup BK452.out⟩,⟨bup BK453.out⟩,⟨bl⟩⟩
       ·have c27b0:(t455 != t459)=false:=by simpa using c27
        (try(have c27b1:decide (t455=t459)=true:=by simpa using c27))
        (try(have c27b2:(t455 == t459)=true:=by simpa using c27))
        clear c27
        by_cases c28:t454=true
        ·subst c28
         replace H:=(if_pos rfl).symm.trans H
         have H':=am H
         clear H
         go_wp2
         go_meet
         case rel=>exact⟨_,(!t458),fin2,H',⟨by have:=HJ5.out;first|omega|exact Nat.le_refl _⟩,⟨bup BK452.out⟩,⟨bup BK453.out⟩,⟨bl⟩⟩
        ·replace c28:=Bool.eq_false_iff.mpr c28
         subst c28
         replace H:=(if_neg Bool.false_ne_true).symm.trans H
         have H':=am H
         clear H
         go_wp2
         go_meet
         case rel=>exact⟨_,(false),fin2,H',⟨by have:=HJ5.out;first|omega|exact Nat.le_refl _⟩,⟨bup BK452.out⟩,⟨bup BK453.out⟩,⟨bl⟩⟩
    case rest =>
     clear HC14
     try clear c10
     try clear hcz16_0
     try clear hcz16_1
     try clear hcz17_0
     try clear hcz17_1
     try clear hcz17_2
     try clear hcz19_0
     try clear hcz19_1
     try clear hcz20_0
     try clear hcz20_1
     try clear hcz20_2
     try clear hcz22_0
     try clear hcz22_1
     try clear hcz23_0
     try clear hcz23_1
     try clear hcz23_2
     try clear hfz16_0
     try clear hfz16_1
     try clear hfz17_0
     try clear hfz17_1
     try clear hfz17_2
     try clear hfz19_0
     try clear hfz19_1
     try clear hfz20_0
     try clear hfz20_1
     try clear hfz20_2
     try clear hfz22_0
     try clear hfz22_1
     try clear hfz23_0
     try clear hfz23_1
     try clear hfz23_2
     obtain⟨kq,x82_13,rfl,HA,HJ13,BK452,BK453,HB⟩:=hcut
     cases kq with
     | zero=>exact absurd HA.out (by simp [laws_FnPassesPlays.j1])
     | succ kj13 =>
      have H:=HA.out
      clear HA
      simp only[laws_FnPassesPlays.j1] at H
      by_cases c29:x82_13=true
      ·subst c29
       replace H:=(if_pos rfl).symm.trans H
       obtain rfl:=Option.some.inj H
       go_wp2
       go_ret
       exact⟨fin1,bl⟩
      ·replace c29:=Bool.eq_false_iff.mpr c29
       subst c29
       replace H:=(if_neg Bool.false_ne_true).symm.trans H
       by_cases c30:t454=true
       ·subst c30
        replace H:=(if_pos rfl).symm.trans H
        obtain⟨⟨t460,t463⟩,A31,H⟩:=bnd H;dsimp only at H
        have HC32:=am H
        clear H
        have hnb33:=NB452_453.out
        have hnc33:=NB453_452.out
        have hcz34_0:=bc BK452.out 0
        have hcz34_1:=bc BK452.out 1
        have hfz34_0:=blk_frozen BK452.out 0
        have hfz34_1:=blk_frozen BK452.out 1
        have hcz35_0:=bc BK453.out 0
        have hcz35_1:=bc BK453.out 1
        have hcz35_2:=bc BK453.out 2
        have hfz35_0:=blk_frozen BK453.out 0
        have hfz35_1:=blk_frozen BK453.out 1
        have hfz35_2:=blk_frozen BK453.out 2
        go_upto_region 11 with(first|((with_reducible refine gate_callee (f:=7) rfl ?_);refine goesL_ (some 89) rfl rfl Try.func7 (by kernel_rfl) rfl #[.agg #[.slice A0_0 l0_0.length c0_0,.int .i64 a0_1],.slice A2 l2.length c2,.agg #[.int .i64 a3_0,.int .i64 a3_1,.int .i64 a3_2]] rfl tl ?_;(with_reducible refine(impl_PlayedBy.calls kj13 _ _ l0_0 a0_1 _ _ l2 a3_0 a3_1 a3_2 t460 t463 _ ?side1 ?side2 ?side3 ?side4 A31.out).mono ?_);(case side1=>exact cup (Kd.C_below HR0_0.out HB.out));(case side2=>exact HC0_0.out);(case side3=>exact cup (Kd.C_below HR2.out HB.out));(case side4=>exact HC2.out);rintro e w36 ⟨v461,rfl,ho0,hb⟩;refine⟨_,rfl,?_⟩;have HO462:=am (Kd.R_lower ho0 (below_size bl));replace BK452:=am (blk_below (bup BK452.out) hb);replace BK453:=am (blk_below (bup BK453.out) hb);replace HB:=am (below_step bl hb);(try clear hb);(try clear ho0)))
        (try simp only[Act.put,List.setIfInBounds_toArray,List.set_cons_zero,List.set_cons_succ])
        go_cut [100] (fun v100 wc=>∃(kq:Nat) (x100_31:Bool),v100 = .bool x100_31∧Aside0 (laws_FnPassesPlays.j2 kq l1 a4 t460 x100_31 a3_0 a3_1 a3_2=some r)∧Aside0 (kq≤kj13)∧Aside0 (Kd.R k37 37 wc w.heap.size (fun _=>True) v461 t460)∧Aside0 (wc.heap[gb453]?=some (.cells #[.int .i64 a3_0,.int .i64 a3_1,.int .i64 a3_2] 28 (0,0)))∧Aside0 (Below w.heap.size w wc))
        case first =>
         have H:=HC32.out
         clear HC32
         by_cases c37:t463=true
         ·subst c37
          replace H:=(if_pos rfl).symm.trans H
          have H':=am H
          clear H
          obtain⟨Ao38,co38,eo38⟩:=Kd.R_slice HO462.out
          subst eo38
          go_wp2
          go_meet
          case rel=>exact⟨_,(((t460.length:Int) != (l1.length:Int))),fin2,H',⟨by have:=HJ5.out;have:=HJ13.out;first|omega|exact Nat.le_refl _⟩,⟨rup HO462.out⟩,⟨bup BK453.out⟩,⟨bl⟩⟩
         ·replace c37:=Bool.eq_false_iff.mpr c37
          subst c37
          replace H:=(if_neg Bool.false_ne_true).symm.trans H
          have H':=am H
          clear H
          go_wp2
          go_meet
          case rel=>exact⟨_,(true),fin2,H',⟨by have:=HJ5.out;have:=HJ13.out;first|omega|exact Nat.le_refl _⟩,⟨rup HO462.out⟩,⟨bup BK453.out⟩,⟨bl⟩⟩
        case rest =>
         clear HC32
         try clear c29
         try clear c30
         try clear hcz34_0
         try clear hcz34_1
         try clear hcz35_0
         try clear hcz35_1
         try clear hcz35_2
         try clear hfz34_0
         try clear hfz34_1
         try clear hfz35_0
         try clear hfz35_1
         try clear hfz35_2
         obtain⟨kq,x100_31,rfl,HA,HJ31,HO_17,BK453,HB⟩:=hcut
         cases kq with
         | zero=>exact absurd HA.out (by simp [laws_FnPassesPlays.j2])
         | succ kj31 =>
          have H:=HA.out
          clear HA
          simp only[laws_FnPassesPlays.j2] at H
          by_cases c39:x100_31=true
          ·subst c39
           replace H:=(if_pos rfl).symm.trans H
           obtain rfl:=Option.some.inj H
           go_wp2
           go_ret
           exact⟨fin1,bl⟩
          ·replace c39:=Bool.eq_false_iff.mpr c39
           subst c39
           replace H:=(if_neg Bool.false_ne_true).symm.trans H
           have H':=am H
           clear H
           go_wp2
           go_loopg [103] kj31 (fun kq v103 w'=>∃(x103_4:Int),v103 = .int .i64 x103_4∧Aside0 (laws_FnPassesPlays.l0 kq l1 a4 t460 l1 (l1.length:Int) x103_4 a3_0 a3_1 a3_2=some r)∧Aside0 (kq≤kj31)∧Aside0 (Kd.R k37 37 w' w.heap.size (fun _=>True) v461 t460)∧Aside0 (w'.heap[gb453]?=some (.cells #[.int .i64 a3_0,.int .i64 a3_1,.int .i64 a3_2] 28 (0,0)))∧Aside0 (Below w.heap.size w w'))
           case atStart=>exact⟨(0),fin2,H',⟨Nat.le_refl _⟩,⟨rup HO_17.out⟩,⟨bup BK453.out⟩,⟨bl⟩⟩
           case round =>
            clear H'
            try clear c39
            obtain⟨x103_4,rfl,HA,HK4,HO_17,BK453,HB⟩:=hrel
            cases gk with
            | zero=>exact absurd HA.out (by simp [laws_FnPassesPlays.l0])
            | succ k4 =>
             have H:=HA.out
             clear HA
             simp only[laws_FnPassesPlays.l0] at H
             rcases itc H with⟨c40,H⟩|⟨c40,H⟩
             ·have c40b0:=decide_eq_true c40
              clear c40
              obtain⟨c41b0,H⟩:=ifb H
              obtain⟨c42b0,H⟩:=ifb H
              have c43b0:=eq_true (od:0≤x103_4)
              obtain⟨c44,H⟩:=ifp H
              have c44b0:=eq_true c44
              have c44b1:decide (x103_4≤(l1.length:Int))=true:=decide_eq_true c44
              clear c44
              obtain⟨y466,hy466⟩:∃ y_:List (S35),y_=(l1.take (x103_4:Int).toNat):=⟨_,rfl⟩
              replace H:(laws_FnPassesPlays.l1 k4 l1 a4 t460 0 false l1 (l1.length:Int) x103_4 y466 (y466.length:Int) 0 a3_0 a3_1 a3_2 ((rd_T35 l1 x103_4).f0) ((rd_T35 l1 x103_4).f1) ((rd_T35 l1 x103_4).f2))=some r:=by subst hy466;exact H
              have Ny466:=am hy466
              clear hy466
              have H':=am H
              clear H
              have p464:0≤(x103_4:Int):=od
              have q464:x103_4<(l1.length:Int):=od
              obtain⟨ad464,e464,hx464_0,hx464_1,hx464_2⟩:=at_T35 HR1.out x103_4 p464 q464
              cases e464
              replace hx464_0:=(HB.out.cell (World.block_lt_of_cell? w _ hx464_0)).trans hx464_0
              replace hx464_1:=(HB.out.cell (World.block_lt_of_cell? w _ hx464_1)).trans hx464_1
              replace hx464_2:=(HB.out.cell (World.block_lt_of_cell? w _ hx464_2)).trans hx464_2
              replace p464:=eq_true p464
              replace q464:=eq_true q464
              go_wp2_with (first|((with_reducible refine gate_dst (N:=20) rfl ?_);(try(refine gate_guard (by rfl) ?_;dsimp only));refine box_event ?hg (N:=20) ?hd (cs := #[.int .i64 0,.int .i64 0,.int .i64 0]) (t:=35) ?hr ?_;(case hd=>rfl);(case hg=>rfl);(case hr=>first|(go_simp;done)|(go_simp;rfl));intro gb465 hg w45 hbox hb;replace HO_17:=am (Kd.R_below (rup HO_17.out) hb);have BK465:=am (hbox);have GW465:=am (ge_ bl hg);have GE465:=am (ge_ bl hg);replace HB:=am (below_step bl hb);have NB453_465:=am (nl (bup BK453.out) hg);have NB465_453:=am (ng (bup BK453.out) hg);replace BK453:=am (blk_below (bup BK453.out) hb);clear hb hbox hg;have hnb46:=NB465_453.out;have hnc46:=NB453_465.out;have hcz47_0:=bc BK465.out 0;have hcz47_1:=bc BK465.out 1;have hcz47_2:=bc BK465.out 2;have hfz47_0:=blk_frozen BK465.out 0;have hfz47_1:=blk_frozen BK465.out 1;have hfz47_2:=blk_frozen BK465.out 2)|((with_reducible refine gate_store (t:=35) (p:=20) rfl ?_);refine store_event (t:=35) (p:=20) (v:=?vo_w48) (w1:=(((w45.setCell ⟨gb465,0,none⟩ (.int .i64 ((rd_T35 l1 x103_4).f0))).setCell ⟨gb465,1,none⟩ (.int .i64 ((rd_T35 l1 x103_4).f1))).setCell ⟨gb465,2,none⟩ (.int .i64 ((rd_T35 l1 x103_4).f2)))) ?hg ?ho ?hn ?hr ?_;(case ho=>rfl);(case hg=>rfl);(case hn=>rfl);(case hr=>first|(go_simp;done)|(go_simp;rfl));intro w48 hw;have n0_:Aside0 (Kd.R k37 37 w48 w.heap.size (fun _=>True) v461 t460):=⟨(by rw[hw];exact(rup (Kd.R_mono (Kd.R_far (p:=⟨gb465,2,none⟩) (Kd.R_far (p:=⟨gb465,1,none⟩) (Kd.R_far (p:=⟨gb465,0,none⟩) (Kd.R_types HO_17.out BK465.out (by decide)) (fun _ hk=>hk.2) (.int .i64 ((rd_T35 l1 x103_4).f0))) (fun _ hk=>hk.2) (.int .i64 ((rd_T35 l1 x103_4).f1))) (fun _ hk=>hk.2) (.int .i64 ((rd_T35 l1 x103_4).f2))) (fun _ hk=>trivial))))⟩;have n1_:Aside0 (w48.heap[gb453]?=some (.cells #[.int .i64 a3_0,.int .i64 a3_1,.int .i64 a3_2] 28 (0,0))):=⟨(by rw[hw];exact(by(with_reducible repeat(first|refine bN_ ?_ _|refine bD_ ?_|refine bA_ ?_ _));refine blk_far ?_ NB453_465.out _;(with_reducible repeat(first|refine bN_ ?_ _|refine bD_ ?_|refine bA_ ?_ _));refine blk_far ?_ NB453_465.out _;(with_reducible repeat(first|refine bN_ ?_ _|refine bD_ ?_|refine bA_ ?_ _));refine blk_far ?_ NB453_465.out _;exact bup BK453.out))⟩;have n2_:Aside0 (w48.heap[gb465]?=some (.cells #[.int .i64 ((rd_T35 l1 x103_4).f0),.int .i64 ((rd_T35 l1 x103_4).f1),.int .i64 ((rd_T35 l1 x103_4).f2)] 35 (0,0))):=⟨(by rw[hw];exact(by(with_reducible repeat(first|refine bN_ ?_ _|refine bD_ ?_|refine bA_ ?_ _));refine blk_put (cs := #[.int .i64 ((rd_T35 l1 x103_4).f0),.int .i64 ((rd_T35 l1 x103_4).f1),.int .i64 0]) ?_ 2 _ rfl;(with_reducible repeat(first|refine bN_ ?_ _|refine bD_ ?_|refine bA_ ?_ _));refine blk_put (cs := #[.int .i64 ((rd_T35 l1 x103_4).f0),.int .i64 0,.int .i64 0]) ?_ 1 _ rfl;(with_reducible repeat(first|refine bN_ ?_ _|refine bD_ ?_|refine bA_ ?_ _));refine blk_put (cs := #[.int .i64 0,.int .i64 0,.int .i64 0]) ?_ 0 _ rfl;exact bup BK465.out))⟩;have n3_:Aside0 (Below w.heap.size w w48):=⟨(by rw[hw];exact bl)⟩;clear hw HO_17 BK453 BK465 HB;have HO_17:=n0_;have BK453:=n1_;have BK465:=n2_;have HB:=n3_;clear n0_ n1_ n2_ n3_;have q49:(x103_4:Int)≤((l1.length:Int):Int):=od;obtain⟨i049,hi049,_,hsz49,_⟩:=info_parts info35;have hroom49:l1.length≤c1:=HC1.out;have hC49:Kd.C k35 _ (some ad464) l1.length l1:=HR1.out;have hcut49:=cut_to (P:=Try.prog) 25 35 .i64 Try.underlying25 hi049 (some ad464) l1.length c1 x103_4 (od) q49 hroom49;have hr49:=Kd.C_take (m:=(x103_4:Int).toNat) hC49 (by omega);have hy49:y466.length=(x103_4:Int).toNat:=(by rw[Ny466.out,List.length_take];omega);rw[← Ny466.out] at hr49;rw[← hy49] at hcut49;have HR469:=am hr49;have HC469:=am (show y466.length≤c1 from by omega);clear hr49 hC49 hroom49 hi049 hsz49;have KY49:=am hy49;clear hy49;replace q49:=eq_true q49))
              go_loopg [21,112] k4 (fun kq v21 v112 w'=>∃(x21_5:Int) (x112_5:Int),v21 = .int .i64 x21_5∧v112 = .int .i64 x112_5∧Aside0 (laws_FnPassesPlays.l1 kq l1 a4 t460 x21_5 false l1 (l1.length:Int) x103_4 y466 (y466.length:Int) x112_5 a3_0 a3_1 a3_2 ((rd_T35 l1 x103_4).f0) ((rd_T35 l1 x103_4).f1) ((rd_T35 l1 x103_4).f2)=some r)∧Aside0 (kq≤k4)∧Aside0 (Kd.R k37 37 w' w.heap.size (fun _=>True) v461 t460)∧Aside0 (w'.heap[gb453]?=some (.cells #[.int .i64 a3_0,.int .i64 a3_1,.int .i64 a3_2] 28 (0,0)))∧Aside0 (w'.heap[gb465]?=some (.cells #[.int .i64 ((rd_T35 l1 x103_4).f0),.int .i64 ((rd_T35 l1 x103_4).f1),.int .i64 ((rd_T35 l1 x103_4).f2)] 35 (0,0)))∧Aside0 (Below w.heap.size w w'))
              case atStart=>exact⟨(0),(0),fin2,fin2,H',⟨Nat.le_refl _⟩,⟨rup HO_17.out⟩,⟨bup BK453.out⟩,⟨bup BK465.out⟩,⟨bl⟩⟩
              case round =>
               clear H'
               try clear c40b0
               try clear c41b0
               try clear c42b0
               try clear c43b0
               try clear c44b0
               try clear c44b1
               try clear q49
               try clear hcz47_0
               try clear hcz47_1
               try clear hcz47_2
               try clear hfz47_0
               try clear hfz47_1
               try clear hfz47_2
               try clear hx464_0
               try clear hx464_1
               try clear hx464_2
               try clear p464
               try clear q464
               obtain⟨x21_5,x112_5,rfl,rfl,HA,HK5,HO_17,BK453,BK465,HB⟩:=hrel
               cases gk with
               | zero=>exact absurd HA.out (by simp [laws_FnPassesPlays.l1])
               | succ k5 =>
                have H:=HA.out
                clear HA
                simp only[laws_FnPassesPlays.l1] at H
                rcases itc H with⟨c50,H⟩|⟨c50,H⟩
                ·have c50b0:=decide_eq_true c50
                 clear c50
                 obtain⟨c51b0,H⟩:=ifb H
                 obtain⟨c52b0,H⟩:=ifb H
                 rcases itc H with⟨c53,H⟩|⟨c53,H⟩
                 ·have c53b0:(((rd_T35 y466 x112_5).f0) == ((rd_T35 l1 x103_4).f0))=true:=beq_iff_eq.mpr c53
                  have c53b1:(((rd_T35 y466 x112_5).f0) != ((rd_T35 l1 x103_4).f0))=false:=bne_eq_false_iff_eq.mpr c53
                  clear c53
                  have H':=am H
                  clear H
                  have p470:0≤(x112_5:Int):=od
                  have q470:x112_5<(y466.length:Int):=od
                  obtain⟨ad470,e470,hx470_0,hx470_1,hx470_2⟩:=at_T35 HR469.out x112_5 p470 q470
                  obtain rfl:ad464=ad470:=(by injection e470)
                  replace hx470_0:=(HB.out.cell (World.block_lt_of_cell? w _ hx470_0)).trans hx470_0
                  replace hx470_1:=(HB.out.cell (World.block_lt_of_cell? w _ hx470_1)).trans hx470_1
                  replace hx470_2:=(HB.out.cell (World.block_lt_of_cell? w _ hx470_2)).trans hx470_2
                  replace p470:=eq_true p470
                  replace q470:=eq_true q470
                  go_wp2_with (first|((with_reducible refine gate_dst (N:=24) rfl ?_);(try(refine gate_guard (by rfl) ?_;dsimp only));refine box_event ?hg (N:=24) ?hd (cs := #[.int .i64 0,.int .i64 0,.int .i64 0]) (t:=35) ?hr ?_;(case hd=>rfl);(case hg=>rfl);(case hr=>first|(go_simp;done)|(go_simp;rfl));intro gb471 hg w54 hbox hb;replace HO_17:=am (Kd.R_below (rup HO_17.out) hb);have BK471:=am (hbox);have GW471:=am (ge_ bl hg);have GE471:=am (ge_ bl hg);replace HB:=am (below_step bl hb);have NB453_471:=am (nl (bup BK453.out) hg);have NB471_453:=am (ng (bup BK453.out) hg);replace BK453:=am (blk_below (bup BK453.out) hb);have NB465_471:=am (nl (bup BK465.out) hg);have NB471_465:=am (ng (bup BK465.out) hg);replace BK465:=am (blk_below (bup BK465.out) hb);clear hb hbox hg;have hnb55:=NB471_453.out;have hnc55:=NB453_471.out;have hnb56:=NB471_465.out;have hnc56:=NB465_471.out;have hcz57_0:=bc BK471.out 0;have hcz57_1:=bc BK471.out 1;have hcz57_2:=bc BK471.out 2;have hfz57_0:=blk_frozen BK471.out 0;have hfz57_1:=blk_frozen BK471.out 1;have hfz57_2:=blk_frozen BK471.out 2;have hnb58:=NB465_453.out;have hnc58:=NB453_465.out;have hcz59_0:=bc BK465.out 0;have hcz59_1:=bc BK465.out 1;have hcz59_2:=bc BK465.out 2;have hfz59_0:=blk_frozen BK465.out 0;have hfz59_1:=blk_frozen BK465.out 1;have hfz59_2:=blk_frozen BK465.out 2))
                  go_roundg k5
                  case measure=>have:=HJ5.out;have:=HJ13.out;have:=HJ31.out;have:=HK4.out;have:=HK5.out;omega
                  case rel=>exact⟨(wrap64 (x21_5+1)),(wrap64 (x112_5+1)),fin2,fin2,H',⟨by have:=HJ5.out;have:=HJ13.out;have:=HJ31.out;have:=HK4.out;have:=HK5.out;omega⟩,⟨rup (Kd.R_mono (Kd.R_far (p:=⟨gb471,2,none⟩) (Kd.R_far (p:=⟨gb471,1,none⟩) (Kd.R_far (p:=⟨gb471,0,none⟩) (Kd.R_types HO_17.out BK471.out (by decide)) (fun _ hk=>hk.2) (.int .i64 ((rd_T35 y466 x112_5).f0))) (fun _ hk=>hk.2) (.int .i64 ((rd_T35 y466 x112_5).f1))) (fun _ hk=>hk.2) (.int .i64 ((rd_T35 y466 x112_5).f2))) (fun _ hk=>trivial))⟩,⟨by(with_reducible repeat(first|refine bN_ ?_ _|refine bD_ ?_|refine bA_ ?_ _));refine blk_far ?_ NB453_471.out _;(with_reducible repeat(first|refine bN_ ?_ _|refine bD_ ?_|refine bA_ ?_ _));refine blk_far ?_ NB453_471.out _;(with_reducible repeat(first|refine bN_ ?_ _|refine bD_ ?_|refine bA_ ?_ _));refine blk_far ?_ NB453_471.out _;exact bup BK453.out⟩,⟨by(with_reducible repeat(first|refine bN_ ?_ _|refine bD_ ?_|refine bA_ ?_ _));refine blk_far ?_ NB465_471.out _;(with_reducible repeat(first|refine bN_ ?_ _|refine bD_ ?_|refine bA_ ?_ _));refine blk_far ?_ NB465_471.out _;(with_reducible repeat(first|refine bN_ ?_ _|refine bD_ ?_|refine bA_ ?_ _));refine blk_far ?_ NB465_471.out _;exact bup BK465.out⟩,⟨bl⟩⟩
                 ·have c53b0:(((rd_T35 y466 x112_5).f0) == ((rd_T35 l1 x103_4).f0))=false:=beq_eq_false_iff_ne.mpr c53
                  have c53b1:(((rd_T35 y466 x112_5).f0) != ((rd_T35 l1 x103_4).f0))=true:=bne_iff_ne.mpr c53
                  have H':=am H
                  clear H
                  have p470:0≤(x112_5:Int):=od
                  have q470:x112_5<(y466.length:Int):=od
                  obtain⟨ad470,e470,hx470_0,hx470_1,hx470_2⟩:=at_T35 HR469.out x112_5 p470 q470
                  obtain rfl:ad464=ad470:=(by injection e470)
                  replace hx470_0:=(HB.out.cell (World.block_lt_of_cell? w _ hx470_0)).trans hx470_0
                  replace hx470_1:=(HB.out.cell (World.block_lt_of_cell? w _ hx470_1)).trans hx470_1
                  replace hx470_2:=(HB.out.cell (World.block_lt_of_cell? w _ hx470_2)).trans hx470_2
                  replace p470:=eq_true p470
                  replace q470:=eq_true q470
                  go_wp2_with (first|((with_reducible refine gate_dst (N:=24) rfl ?_);(try(refine gate_guard (by rfl) ?_;dsimp only));refine box_event ?hg (N:=24) ?hd (cs := #[.int .i64 0,.int .i64 0,.int .i64 0]) (t:=35) ?hr ?_;(case hd=>rfl);(case hg=>rfl);(case hr=>first|(go_simp;done)|(go_simp;rfl));intro gb471 hg w60 hbox hb;replace HO_17:=am (Kd.R_below (rup HO_17.out) hb);have BK471:=am (hbox);have GW471:=am (ge_ bl hg);have GE471:=am (ge_ bl hg);replace HB:=am (below_step bl hb);have NB453_471:=am (nl (bup BK453.out) hg);have NB471_453:=am (ng (bup BK453.out) hg);replace BK453:=am (blk_below (bup BK453.out) hb);have NB465_471:=am (nl (bup BK465.out) hg);have NB471_465:=am (ng (bup BK465.out) hg);replace BK465:=am (blk_below (bup BK465.out) hb);clear hb hbox hg;have hnb61:=NB471_453.out;have hnc61:=NB453_471.out;have hnb62:=NB471_465.out;have hnc62:=NB465_471.out;have hcz63_0:=bc BK471.out 0;have hcz63_1:=bc BK471.out 1;have hcz63_2:=bc BK471.out 2;have hfz63_0:=blk_frozen BK471.out 0;have hfz63_1:=blk_frozen BK471.out 1;have hfz63_2:=blk_frozen BK471.out 2;have hnb64:=NB465_453.out;have hnc64:=NB453_465.out;have hcz65_0:=bc BK465.out 0;have hcz65_1:=bc BK465.out 1;have hcz65_2:=bc BK465.out 2;have hfz65_0:=blk_frozen BK465.out 0;have hfz65_1:=blk_frozen BK465.out 1;have hfz65_2:=blk_frozen BK465.out 2))
                  go_roundg k5
                  case measure=>have:=HJ5.out;have:=HJ13.out;have:=HJ31.out;have:=HK4.out;have:=HK5.out;omega
                  case rel=>exact⟨(x21_5),(wrap64 (x112_5+1)),fin2,fin2,H',⟨by have:=HJ5.out;have:=HJ13.out;have:=HJ31.out;have:=HK4.out;have:=HK5.out;omega⟩,⟨rup (Kd.R_mono (Kd.R_far (p:=⟨gb471,2,none⟩) (Kd.R_far (p:=⟨gb471,1,none⟩) (Kd.R_far (p:=⟨gb471,0,none⟩) (Kd.R_types HO_17.out BK471.out (by decide)) (fun _ hk=>hk.2) (.int .i64 ((rd_T35 y466 x112_5).f0))) (fun _ hk=>hk.2) (.int .i64 ((rd_T35 y466 x112_5).f1))) (fun _ hk=>hk.2) (.int .i64 ((rd_T35 y466 x112_5).f2))) (fun _ hk=>trivial))⟩,⟨by(with_reducible repeat(first|refine bN_ ?_ _|refine bD_ ?_|refine bA_ ?_ _));refine blk_far ?_ NB453_471.out _;(with_reducible repeat(first|refine bN_ ?_ _|refine bD_ ?_|refine bA_ ?_ _));refine blk_far ?_ NB453_471.out _;(with_reducible repeat(first|refine bN_ ?_ _|refine bD_ ?_|refine bA_ ?_ _));refine blk_far ?_ NB453_471.out _;exact bup BK453.out⟩,⟨by(with_reducible repeat(first|refine bN_ ?_ _|refine bD_ ?_|refine bA_ ?_ _));refine blk_far ?_ NB465_471.out _;(with_reducible repeat(first|refine bN_ ?_ _|refine bD_ ?_|refine bA_ ?_ _));refine blk_far ?_ NB465_471.out _;(with_reducible repeat(first|refine bN_ ?_ _|refine bD_ ?_|refine bA_ ?_ _));refine blk_far ?_ NB465_471.out _;exact bup BK465.out⟩,⟨bl⟩⟩
                ·have c50b0:=decide_eq_false c50
                 clear c50
                 have H':=am H
                 clear H
                 obtain⟨Ao66,co66,eo66⟩:=Kd.R_slice HO_17.out
                 subst eo66
                 go_wp2
                 go_loopg [21,22,126] k5 (fun kq v21 v22 v126 w'=>∃(x21_6:Int) (x22_6:Bool) (x126_6:Int),v21 = .int .i64 x21_6∧v22 = .bool x22_6∧v126 = .int .i64 x126_6∧Aside0 (laws_FnPassesPlays.l2 kq l1 a4 t460 x21_6 x22_6 l1 (l1.length:Int) x103_4 t460 (t460.length:Int) x126_6 a3_0 a3_1 a3_2 ((rd_T35 l1 x103_4).f0) ((rd_T35 l1 x103_4).f1) ((rd_T35 l1 x103_4).f2)=some r)∧Aside0 (kq≤k5)∧Aside0 (Kd.R k37 37 w' w.heap.size (fun _=>True) (.slice Ao66 t460.length co66) t460)∧Aside0 (Kd.R k37 37 w' w.heap.size (fun _=>True) (.slice Ao66 t460.length co66) t460)∧Aside0 (w'.heap[gb453]?=some (.cells #[.int .i64 a3_0,.int .i64 a3_1,.int .i64 a3_2] 28 (0,0)))∧Aside0 (w'.heap[gb465]?=some (.cells #[.int .i64 ((rd_T35 l1 x103_4).f0),.int .i64 ((rd_T35 l1 x103_4).f1),.int .i64 ((rd_T35 l1 x103_4).f2)] 35 (0,0)))∧Aside0 (Below w.heap.size w w'))
                 case atStart=>exact⟨(x21_5),(false),(0),fin2,fin2,fin2,H',⟨Nat.le_refl _⟩,⟨rup HO_17.out⟩,⟨rup HO_17.out⟩,⟨bup BK453.out⟩,⟨bup BK465.out⟩,⟨bl⟩⟩
                 case round =>
                  clear H'
                  try clear c50b0
                  obtain⟨x21_6,x22_6,x126_6,rfl,rfl,rfl,HA,HK6,HO_17,HO_124,BK453,BK465,HB⟩:=hrel
                  cases gk with
                  | zero=>exact absurd HA.out (by simp [laws_FnPassesPlays.l2])
                  | succ k6 =>
                   have H:=HA.out
                   clear HA
                   simp only[laws_FnPassesPlays.l2] at H
                   rcases itc H with⟨c67,H⟩|⟨c67,H⟩
                   ·have c67b0:=decide_eq_true c67
                    clear c67
                    obtain⟨c68b0,H⟩:=ifb H
                    obtain⟨c69b0,H⟩:=ifb H
                    rcases itc H with⟨c70,H⟩|⟨c70,H⟩
                    ·have c70b0:(((rd_T37 t460 x126_6).f0) == ((rd_T35 l1 x103_4).f0))=true:=beq_iff_eq.mpr c70
                     have c70b1:(((rd_T37 t460 x126_6).f0) != ((rd_T35 l1 x103_4).f0))=false:=bne_eq_false_iff_eq.mpr c70
                     clear c70
                     rcases itc H with⟨c71,H⟩|⟨c71,H⟩
                     ·have c71b0:(x21_6 == 0)=true:=beq_iff_eq.mpr c71
                      have c71b1:(x21_6 != 0)=false:=bne_eq_false_iff_eq.mpr c71
                      clear c71
                      rcases itc H with⟨c72,H⟩|⟨c72,H⟩
                      ·have c72b0:decide ((wrap64 (-a4))≤(wrap64 ((wrap64 (((rd_T37 t460 x126_6).f1) - (wrap64 (2*((rd_T35 l1 x103_4).f1))))) - a3_0)))=true:=decide_eq_true c72
                       clear c72
                       rcases itc H with⟨c73,H⟩|⟨c73,H⟩
                       ·have c73b0:decide ((wrap64 ((wrap64 (((rd_T37 t460 x126_6).f1) - (wrap64 (2*((rd_T35 l1 x103_4).f1))))) - a3_0))≤a4)=true:=decide_eq_true c73
                        clear c73
                        have H':=am H
                        clear H
                        have p472:0≤(x126_6:Int):=od
                        have q472:x126_6<(t460.length:Int):=od
                        obtain⟨ad472,e472,hx472_0,hx472_1,hx472_2⟩:=at_T37 (Kd.R_reads' HO_124.out).2.2 x126_6 p472 q472
                        cases e472
                        replace p472:=eq_true p472
                        replace q472:=eq_true q472
                        go_wp2_with (first|((with_reducible refine gate_dst (N:=26) rfl ?_);(try(refine gate_guard (by rfl) ?_;dsimp only));refine box_event ?hg (N:=26) ?hd (cs := #[.int .i64 0,.int .i64 0,.int .i64 0]) (t:=37) ?hr ?_;(case hd=>rfl);(case hg=>rfl);(case hr=>first|(go_simp;done)|(go_simp;rfl));intro gb473 hg w74 hbox hb;replace HO_17:=am (Kd.R_below (Kd.R_elderB (rup HO_17.out) gb473 (Nat.le_of_eq hg.symm)) hb);replace HO_124:=am (Kd.R_below (Kd.R_elderB (rup HO_124.out) gb473 (Nat.le_of_eq hg.symm)) hb);have BK473:=am (hbox);have GW473:=am (ge_ bl hg);have GE473:=am (ge_ bl hg);replace HB:=am (below_step bl hb);have NB453_473:=am (nl (bup BK453.out) hg);have NB473_453:=am (ng (bup BK453.out) hg);replace BK453:=am (blk_below (bup BK453.out) hb);have NB465_473:=am (nl (bup BK465.out) hg);have NB473_465:=am (ng (bup BK465.out) hg);replace BK465:=am (blk_below (bup BK465.out) hb);clear hb hbox hg;have hnb75:=NB473_453.out;have hnc75:=NB453_473.out;have hnb76:=NB473_465.out;have hnc76:=NB465_473.out;have hcz77_0:=bc BK473.out 0;have hcz77_1:=bc BK473.out 1;have hcz77_2:=bc BK473.out 2;have hfz77_0:=blk_frozen BK473.out 0;have hfz77_1:=blk_frozen BK473.out 1;have hfz77_2:=blk_frozen BK473.out 2;have hnb78:=NB465_453.out;have hnc78:=NB453_465.out;have hcz79_0:=bc BK465.out 0;have hcz79_1:=bc BK465.out 1;have hcz79_2:=bc BK465.out 2;have hfz79_0:=blk_frozen BK465.out 0;have hfz79_1:=blk_frozen BK465.out 1;have hfz79_2:=blk_frozen BK465.out 2;have hcz80_0:=bc BK453.out 0;have hcz80_1:=bc BK453.out 1;have hcz80_2:=bc BK453.out 2;have hfz80_0:=blk_frozen BK453.out 0;have hfz80_1:=blk_frozen BK453.out 1;have hfz80_2:=blk_frozen BK453.out 2))
                        go_roundg k6
                        case measure=>have:=HJ5.out;have:=HJ13.out;have:=HJ31.out;have:=HK4.out;have:=HK5.out;have:=HK6.out;omega
                        case rel=>exact⟨(wrap64 (x103_4+1)),fin2,H',⟨by have:=HJ5.out;have:=HJ13.out;have:=HJ31.out;have:=HK4.out;have:=HK5.out;have:=HK6.out;omega⟩,⟨rup (Kd.R_mono (Kd.R_far (p:=⟨gb473,2,none⟩) (Kd.R_far (p:=⟨gb473,1,none⟩) (Kd.R_far (p:=⟨gb473,0,none⟩) (Kd.R_mono HO_17.out (fun k_ hk=>(⟨hk,hk.2⟩:_∧k_≠gb473))) (fun _ hk=>hk.2) (.int .i64 ((rd_T37 t460 x126_6).f0))) (fun _ hk=>hk.2) (.int .i64 ((rd_T37 t460 x126_6).f1))) (fun _ hk=>hk.2) (.int .i64 ((rd_T37 t460 x126_6).f2))) (fun _ hk=>trivial))⟩,⟨by(with_reducible repeat(first|refine bN_ ?_ _|refine bD_ ?_|refine bA_ ?_ _));refine blk_far ?_ NB453_473.out _;(with_reducible repeat(first|refine bN_ ?_ _|refine bD_ ?_|refine bA_ ?_ _));refine blk_far ?_ NB453_473.out _;(with_reducible repeat(first|refine bN_ ?_ _|refine bD_ ?_|refine bA_ ?_ _));refine blk_far ?_ NB453_473.out _;exact bup BK453.out⟩,⟨bl⟩⟩
                       ·have c73b0:decide ((wrap64 ((wrap64 (((rd_T37 t460 x126_6).f1) - (wrap64 (2*((rd_T35 l1 x103_4).f1))))) - a3_0))≤a4)=false:=decide_eq_false c73
                        clear c73
                        obtain rfl:=Option.some.inj H
                        have p472:0≤(x126_6:Int):=od
                        have q472:x126_6<(t460.length:Int):=od
                        obtain⟨ad472,e472,hx472_0,hx472_1,hx472_2⟩:=at_T37 (Kd.R_reads' HO_124.out).2.2 x126_6 p472 q472
                        cases e472
                        replace p472:=eq_true p472
                        replace q472:=eq_true q472
                        go_wp2_with (first|((with_reducible refine gate_dst (N:=26) rfl ?_);(try(refine gate_guard (by rfl) ?_;dsimp only));refine box_event ?hg (N:=26) ?hd (cs := #[.int .i64 0,.int .i64 0,.int .i64 0]) (t:=37) ?hr ?_;(case hd=>rfl);(case hg=>rfl);(case hr=>first|(go_simp;done)|(go_simp;rfl));intro gb473 hg w81 hbox hb;replace HO_17:=am (Kd.R_below (Kd.R_elderB (rup HO_17.out) gb473 (Nat.le_of_eq hg.symm)) hb);replace HO_124:=am (Kd.R_below (Kd.R_elderB (rup HO_124.out) gb473 (Nat.le_of_eq hg.symm)) hb);have BK473:=am (hbox);have GW473:=am (ge_ bl hg);have GE473:=am (ge_ bl hg);replace HB:=am (below_step bl hb);have NB453_473:=am (nl (bup BK453.out) hg);have NB473_453:=am (ng (bup BK453.out) hg);replace BK453:=am (blk_below (bup BK453.out) hb);have NB465_473:=am (nl (bup BK465.out) hg);have NB473_465:=am (ng (bup BK465.out) hg);replace BK465:=am (blk_below (bup BK465.out) hb);clear hb hbox hg;have hnb82:=NB473_453.out;have hnc82:=NB453_473.out;have hnb83:=NB473_465.out;have hnc83:=NB465_473.out;have hcz84_0:=bc BK473.out 0;have hcz84_1:=bc BK473.out 1;have hcz84_2:=bc BK473.out 2;have hfz84_0:=blk_frozen BK473.out 0;have hfz84_1:=blk_frozen BK473.out 1;have hfz84_2:=blk_frozen BK473.out 2;have hnb85:=NB465_453.out;have hnc85:=NB453_465.out;have hcz86_0:=bc BK465.out 0;have hcz86_1:=bc BK465.out 1;have hcz86_2:=bc BK465.out 2;have hfz86_0:=blk_frozen BK465.out 0;have hfz86_1:=blk_frozen BK465.out 1;have hfz86_2:=blk_frozen BK465.out 2;have hcz87_0:=bc BK453.out 0;have hcz87_1:=bc BK453.out 1;have hcz87_2:=bc BK453.out 2;have hfz87_0:=blk_frozen BK453.out 0;have hfz87_1:=blk_frozen BK453.out 1;have hfz87_2:=blk_frozen BK453.out 2))
                        go_ret
                        exact⟨fin1,bl⟩
                      ·have c72b0:decide ((wrap64 (-a4))≤(wrap64 ((wrap64 (((rd_T37 t460 x126_6).f1) - (wrap64 (2*((rd_T35 l1 x103_4).f1))))) - a3_0)))=false:=decide_eq_false c72
                       clear c72
                       obtain rfl:=Option.some.inj H
                       have p472:0≤(x126_6:Int):=od
                       have q472:x126_6<(t460.length:Int):=od
                       obtain⟨ad472,e472,hx472_0,hx472_1,hx472_2⟩:=at_T37 (Kd.R_reads' HO_124.out).2.2 x126_6 p472 q472
                       cases e472
                       replace p472:=eq_true p472
                       replace q472:=eq_true q472
                       go_wp2_with (first|((with_reducible refine gate_dst (N:=26) rfl ?_);(try(refine gate_guard (by rfl) ?_;dsimp only));refine box_event ?hg (N:=26) ?hd (cs := #[.int .i64 0,.int .i64 0,.int .i64 0]) (t:=37) ?hr ?_;(case hd=>rfl);(case hg=>rfl);(case hr=>first|(go_simp;done)|(go_simp;rfl));intro gb473 hg w88 hbox hb;replace HO_17:=am (Kd.R_below (Kd.R_elderB (rup HO_17.out) gb473 (Nat.le_of_eq hg.symm)) hb);replace HO_124:=am (Kd.R_below (Kd.R_elderB (rup HO_124.out) gb473 (Nat.le_of_eq hg.symm)) hb);have BK473:=am (hbox);have GW473:=am (ge_ bl hg);have GE473:=am (ge_ bl hg);replace HB:=am (below_step bl hb);have NB453_473:=am (nl (bup BK453.out) hg);have NB473_453:=am (ng (bup BK453.out) hg);replace BK453:=am (blk_below (bup BK453.out) hb);have NB465_473:=am (nl (bup BK465.out) hg);have NB473_465:=am (ng (bup BK465.out) hg);replace BK465:=am (blk_below (bup BK465.out) hb);clear hb hbox hg;have hnb89:=NB473_453.out;have hnc89:=NB453_473.out;have hnb90:=NB473_465.out;have hnc90:=NB465_473.out;have hcz91_0:=bc BK473.out 0;have hcz91_1:=bc BK473.out 1;have hcz91_2:=bc BK473.out 2;have hfz91_0:=blk_frozen BK473.out 0;have hfz91_1:=blk_frozen BK473.out 1;have hfz91_2:=blk_frozen BK473.out 2;have hnb92:=NB465_453.out;have hnc92:=NB453_465.out;have hcz93_0:=bc BK465.out 0;have hcz93_1:=bc BK465.out 1;have hcz93_2:=bc BK465.out 2;have hfz93_0:=blk_frozen BK465.out 0;have hfz93_1:=blk_frozen BK465.out 1;have hfz93_2:=blk_frozen BK465.out 2;have hcz94_0:=bc BK453.out 0;have hcz94_1:=bc BK453.out 1;have hcz94_2:=bc BK453.out 2;have hfz94_0:=blk_frozen BK453.out 0;have hfz94_1:=blk_frozen BK453.out 1;have hfz94_2:=blk_frozen BK453.out 2))
                       go_ret
                       exact⟨fin1,bl⟩
                     ·have c71b0:(x21_6 == 0)=false:=beq_eq_false_iff_ne.mpr c71
                      have c71b1:(x21_6 != 0)=true:=bne_iff_ne.mpr c71
                      have H':=am H
                      clear H
                      have p472:0≤(x126_6:Int):=od
                      have q472:x126_6<(t460.length:Int):=od
                      obtain⟨ad472,e472,hx472_0,hx472_1,hx472_2⟩:=at_T37 (Kd.R_reads' HO_124.out).2.2 x126_6 p472 q472
                      cases e472
                      replace p472:=eq_true p472
                      replace q472:=eq_true q472
                      go_wp2_with (first|((with_reducible refine gate_dst (N:=26) rfl ?_);(try(refine gate_guard (by rfl) ?_;dsimp only));refine box_event ?hg (N:=26) ?hd (cs := #[.int .i64 0,.int .i64 0,.int .i64 0]) (t:=37) ?hr ?_;(case hd=>rfl);(case hg=>rfl);(case hr=>first|(go_simp;done)|(go_simp;rfl));intro gb473 hg w95 hbox hb;replace HO_17:=am (Kd.R_below (Kd.R_elderB (rup HO_17.out) gb473 (Nat.le_of_eq hg.symm)) hb);replace HO_124:=am (Kd.R_below (Kd.R_elderB (rup HO_124.out) gb473 (Nat.le_of_eq hg.symm)) hb);have BK473:=am (hbox);have GW473:=am (ge_ bl hg);have GE473:=am (ge_ bl hg);replace HB:=am (below_step bl hb);have NB453_473:=am (nl (bup BK453.out) hg);have NB473_453:=am (ng (bup BK453.out) hg);replace BK453:=am (blk_below (bup BK453.out) hb);have NB465_473:=am (nl (bup BK465.out) hg);have NB473_465:=am (ng (bup BK465.out) hg);replace BK465:=am (blk_below (bup BK465.out) hb);clear hb hbox hg;have hnb96:=NB473_453.out;have hnc96:=NB453_473.out;have hnb97:=NB473_465.out;have hnc97:=NB465_473.out;have hcz98_0:=bc BK473.out 0;have hcz98_1:=bc BK473.out 1;have hcz98_2:=bc BK473.out 2;have hfz98_0:=blk_frozen BK473.out 0;have hfz98_1:=blk_frozen BK473.out 1;have hfz98_2:=blk_frozen BK473.out 2;have hnb99:=NB465_453.out;have hnc99:=NB453_465.out;have hcz100_0:=bc BK465.out 0;have hcz100_1:=bc BK465.out 1;have hcz100_2:=bc BK465.out 2;have hfz100_0:=blk_frozen BK465.out 0;have hfz100_1:=blk_frozen BK465.out 1;have hfz100_2:=blk_frozen BK465.out 2))
                      go_roundg k6
                      case measure=>have:=HJ5.out;have:=HJ13.out;have:=HJ31.out;have:=HK4.out;have:=HK5.out;have:=HK6.out;omega
                      case rel=>exact⟨(wrap64 (x21_6 - 1)),(x22_6),(wrap64 (x126_6+1)),fin2,fin2,fin2,H',⟨by have:=HJ5.out;have:=HJ13.out;have:=HJ31.out;have:=HK4.out;have:=HK5.out;have:=HK6.out;omega⟩,⟨rup (Kd.R_mono (Kd.R_far (p:=⟨gb473,2,none⟩) (Kd.R_far (p:=⟨gb473,1,none⟩) (Kd.R_far (p:=⟨gb473,0,none⟩) (Kd.R_mono HO_17.out (fun k_ hk=>(⟨hk,hk.2⟩:_∧k_≠gb473))) (fun _ hk=>hk.2) (.int .i64 ((rd_T37 t460 x126_6).f0))) (fun _ hk=>hk.2) (.int .i64 ((rd_T37 t460 x126_6).f1))) (fun _ hk=>hk.2) (.int .i64 ((rd_T37 t460 x126_6).f2))) (fun _ hk=>trivial))⟩,⟨rup (Kd.R_mono (Kd.R_far (p:=⟨gb473,2,none⟩) (Kd.R_far (p:=⟨gb473,1,none⟩) (Kd.R_far (p:=⟨gb473,0,none⟩) (Kd.R_mono HO_124.out (fun k_ hk=>(⟨hk,hk.2⟩:_∧k_≠gb473))) (fun _ hk=>hk.2) (.int .i64 ((rd_T37 t460 x126_6).f0))) (fun _ hk=>hk.2) (.int .i64 ((rd_T37 t460 x126_6).f1))) (fun _ hk=>hk.2) (.int .i64 ((rd_T37 t460 x126_6).f2))) (fun _ hk=>trivial))⟩,⟨by(with_reducible repeat(first|refine bN_ ?_ _|refine bD_ ?_|refine bA_ ?_ _));refine blk_far ?_ NB453_473.out _;(with_reducible repeat(first|refine bN_ ?_ _|refine bD_ ?_|refine bA_ ?_ _));refine blk_far ?_ NB453_473.out _;(with_reducible repeat(first|refine bN_ ?_ _|refine bD_ ?_|refine bA_ ?_ _));refine blk_far ?_ NB453_473.out _;exact bup BK453.out⟩,⟨by(with_reducible repeat(first|refine bN_ ?_ _|refine bD_ ?_|refine bA_ ?_ _));refine blk_far ?_ NB465_473.out _;(with_reducible repeat(first|refine bN_ ?_ _|refine bD_ ?_|refine bA_ ?_ _));refine blk_far ?_ NB465_473.out _;(with_reducible repeat(first|refine bN_ ?_ _|refine bD_ ?_|refine bA_ ?_ _));refine blk_far ?_ NB465_473.out _;exact bup BK465.out⟩,⟨bl⟩⟩
                    ·have c70b0:(((rd_T37 t460 x126_6).f0) == ((rd_T35 l1 x103_4).f0))=false:=beq_eq_false_iff_ne.mpr c70
                     have c70b1:(((rd_T37 t460 x126_6).f0) != ((rd_T35 l1 x103_4).f0))=true:=bne_iff_ne.mpr c70
                     have H':=am H
                     clear H
                     have p472:0≤(x126_6:Int):=od
                     have q472:x126_6<(t460.length:Int):=od
                     obtain⟨ad472,e472,hx472_0,hx472_1,hx472_2⟩:=at_T37 (Kd.R_reads' HO_124.out).2.2 x126_6 p472 q472
                     cases e472
                     replace p472:=eq_true p472
                     replace q472:=eq_true q472
                     go_wp2_with (first|((with_reducible refine gate_dst (N:=26) rfl ?_);(try(refine gate_guard (by rfl) ?_;dsimp only));refine box_event ?hg (N:=26) ?hd (cs := #[.int .i64 0,.int .i64 0,.int .i64 0]) (t:=37) ?hr ?_;(case hd=>rfl);(case hg=>rfl);(case hr=>first|(go_simp;done)|(go_simp;rfl));intro gb473 hg w101 hbox hb;replace HO_17:=am (Kd.R_below (Kd.R_elderB (rup HO_17.out) gb473 (Nat.le_of_eq hg.symm)) hb);replace HO_124:=am (Kd.R_below (Kd.R_elderB (rup HO_124.out) gb473 (Nat.le_of_eq hg.symm)) hb);have BK473:=am (hbox);have GW473:=am (ge_ bl hg);have GE473:=am (ge_ bl hg);replace HB:=am (below_step bl hb);have NB453_473:=am (nl (bup BK453.out) hg);have NB473_453:=am (ng (bup BK453.out) hg);replace BK453:=am (blk_below (bup BK453.out) hb);have NB465_473:=am (nl (bup BK465.out) hg);have NB473_465:=am (ng (bup BK465.out) hg);replace BK465:=am (blk_below (bup BK465.out) hb);clear hb hbox hg;have hnb102:=NB473_453.out;have hnc102:=NB453_473.out;have hnb103:=NB473_465.out;have hnc103:=NB465_473.out;have hcz104_0:=bc BK473.out 0;have hcz104_1:=bc BK473.out 1;have hcz104_2:=bc BK473.out 2;have hfz104_0:=blk_frozen BK473.out 0;have hfz104_1:=blk_frozen BK473.out 1;have hfz104_2:=blk_frozen BK473.out 2;have hnb105:=NB465_453.out;have hnc105:=NB453_465.out;have hcz106_0:=bc BK465.out 0;have hcz106_1:=bc BK465.out 1;have hcz106_2:=bc BK465.out 2;have hfz106_0:=blk_frozen BK465.out 0;have hfz106_1:=blk_frozen BK465.out 1;have hfz106_2:=blk_frozen BK465.out 2))
                     go_roundg k6
                     case measure=>have:=HJ5.out;have:=HJ13.out;have:=HJ31.out;have:=HK4.out;have:=HK5.out;have:=HK6.out;omega
                     case rel=>exact⟨(x21_6),(x22_6),(wrap64 (x126_6+1)),fin2,fin2,fin2,H',⟨by have:=HJ5.out;have:=HJ13.out;have:=HJ31.out;have:=HK4.out;have:=HK5.out;have:=HK6.out;omega⟩,⟨rup (Kd.R_mono (Kd.R_far (p:=⟨gb473,2,none⟩) (Kd.R_far (p:=⟨gb473,1,none⟩) (Kd.R_far (p:=⟨gb473,0,none⟩) (Kd.R_mono HO_17.out (fun k_ hk=>(⟨hk,hk.2⟩:_∧k_≠gb473))) (fun _ hk=>hk.2) (.int .i64 ((rd_T37 t460 x126_6).f0))) (fun _ hk=>hk.2) (.int .i64 ((rd_T37 t460 x126_6).f1))) (fun _ hk=>hk.2) (.int .i64 ((rd_T37 t460 x126_6).f2))) (fun _ hk=>trivial))⟩,⟨rup (Kd.R_mono (Kd.R_far (p:=⟨gb473,2,none⟩) (Kd.R_far (p:=⟨gb473,1,none⟩) (Kd.R_far (p:=⟨gb473,0,none⟩) (Kd.R_mono HO_124.out (fun k_ hk=>(⟨hk,hk.2⟩:_∧k_≠gb473))) (fun _ hk=>hk.2) (.int .i64 ((rd_T37 t460 x126_6).f0))) (fun _ hk=>hk.2) (.int .i64 ((rd_T37 t460 x126_6).f1))) (fun _ hk=>hk.2) (.int .i64 ((rd_T37 t460 x126_6).f2))) (fun _ hk=>trivial))⟩,⟨by(with_reducible repeat(first|refine bN_ ?_ _|refine bD_ ?_|refine bA_ ?_ _));refine blk_far ?_ NB453_473.out _;(with_reducible repeat(first|refine bN_ ?_ _|refine bD_ ?_|refine bA_ ?_ _));refine blk_far ?_ NB453_473.out _;(with_reducible repeat(first|refine bN_ ?_ _|refine bD_ ?_|refine bA_ ?_ _));refine blk_far ?_ NB453_473.out _;exact bup BK453.out⟩,⟨by(with_reducible repeat(first|refine bN_ ?_ _|refine bD_ ?_|refine bA_ ?_ _));refine blk_far ?_ NB465_473.out _;(with_reducible repeat(first|refine bN_ ?_ _|refine bD_ ?_|refine bA_ ?_ _));refine blk_far ?_ NB465_473.out _;(with_reducible repeat(first|refine bN_ ?_ _|refine bD_ ?_|refine bA_ ?_ _));refine blk_far ?_ NB465_473.out _;exact bup BK465.out⟩,⟨bl⟩⟩
                   ·have c67b0:=decide_eq_false c67
                    clear c67
                    by_cases c107:x22_6=true
                    ·subst c107
                     replace H:=(if_pos rfl).symm.trans H
                     have H':=am H
                     clear H
                     go_wp2
                     go_roundg k6
                     case measure=>have:=HJ5.out;have:=HJ13.out;have:=HJ31.out;have:=HK4.out;have:=HK5.out;have:=HK6.out;omega
                     case rel=>exact⟨(wrap64 (x103_4+1)),fin2,H',⟨by have:=HJ5.out;have:=HJ13.out;have:=HJ31.out;have:=HK4.out;have:=HK5.out;have:=HK6.out;omega⟩,⟨rup HO_17.out⟩,⟨bup BK453.out⟩,⟨bl⟩⟩
                    ·replace c107:=Bool.eq_false_iff.mpr c107
                     subst c107
                     replace H:=(if_neg Bool.false_ne_true).symm.trans H
                     obtain rfl:=Option.some.inj H
                     go_wp2
                     go_ret
                     exact⟨fin1,bl⟩
             ·have c40b0:=decide_eq_false c40
              clear c40
              obtain rfl:=Option.some.inj H
              go_wp2
              go_ret
              exact⟨fin1,bl⟩
       ·replace c30:=Bool.eq_false_iff.mpr c30
        subst c30
        replace H:=(if_neg Bool.false_ne_true).symm.trans H
        obtain rfl:=Option.some.inj H
        go_wp2
        go_ret
        exact⟨fin1,bl⟩

end Go.Proofs.Ytdcchnfndhkfaaa.PFnPassesPlays
