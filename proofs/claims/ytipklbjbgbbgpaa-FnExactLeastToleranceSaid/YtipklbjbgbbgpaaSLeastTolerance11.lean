/- The walks of functions that FnExactLeastTolerance reaches: what they return is what the plain functions of the same names say. Laid by a program of this session after the kit's print. No conditions beyond the arguments' being read. -/
import Derived.Test.YtipklbjbgbbgpaaSLeastTolerance0
import Derived.Test.YtipklbjbgbbgpaaSLeastTolerance7
import Derived.Test.YtipklbjbgbbgpaaSLeastTolerance10
namespace Go.Proofs.Ytipklbjbgbbgpaa.PFnExactLeastTolerance
open Go.RowKit Go.Proofs.YtipklbjbgbbgpaaW.PrintWords Go.Proofs.YtipklbjbgbbgpaaW.PrintLast Go.Proofs.YtipklbjbgbbgpaaW.PrintMore
attribute [local go_sem] max2_int min2_int max_two min_two max_three min_three max_four min_four   -- for this text's walks alone
set_option linter.unusedVariables false
set_option linter.unusedSimpArgs false

def spec_LeastTolerance.l0:Nat→List (S62)→List (S66)→Int→List Int→Int→Int→Int→Int→Option (Int×Bool)
 | 0,_,_,_,_,_,_,_,_=>none
 | k+1,x1,x2,x10,x287000,x287001,x288000,x288001,x288002=>if x10≤50 then((spec_vfFaults.f k x287000 x287001 x1 x2 x288000 x288001 x288002 x10).bind fun t289=>(if(t289.length:Int)=0 then(some (x10,true)) else(spec_LeastTolerance.l0 k x1 x2 (wrap64 (x10+1)) x287000 x287001 x288000 x288001 x288002))) else(some (0,false))
def spec_LeastTolerance.f (k:Nat) (l0_0:List Int) (a0_1:Int) (l1:List (S62)) (l2:List (S66)) (a3_0:Int) (a3_1:Int) (a3_2:Int):Option (Int×Bool):=(spec_vfAll.f k l0_0 a0_1 l1 l2 a3_0 a3_1 a3_2 0).bind fun t288=>(if t288=true then(spec_LeastTolerance.l0 k l1 l2 0 l0_0 a0_1 a3_0 a3_1 a3_2) else(some (0,false)))
set_option maxHeartbeats 8000000 in
set_option maxRecDepth 100000 in
theorem spec_LeastTolerance.calls (k:Nat) (A0_0:Option Addr) (c0_0:Nat) (l0_0:List Int) (a0_1:Int) (A1:Option Addr) (c1:Nat) (l1:List (S62)) (A2:Option Addr) (c2:Nat) (l2:List (S66)) (a3_0:Int) (a3_1:Int) (a3_2:Int) (r1:Int) (r2:Bool) (w:World) (hr0_0:Kd.C (Kd.int .i64) w A0_0 l0_0.length l0_0) (hc0_0:l0_0.length≤c0_0) (hr1:Kd.C k62 w A1 l1.length l1) (hc1:l1.length≤c1) (hr2:Kd.C k66 w A2 l2.length l2) (hc2:l2.length≤c2) (h:spec_LeastTolerance.f k l0_0 a0_1 l1 l2 a3_0 a3_1 a3_2=some (r1,r2)) :
  Calls Try.prog 18 #[.agg #[.slice A0_0 l0_0.length c0_0,.int .i64 a0_1],.slice A1 l1.length c1,.slice A2 l2.length c2,.agg #[.int .i64 a3_0,.int .i64 a3_1,.int .i64 a3_2]] w fun e w'=>e = .returned (.tuple #[.int .i64 r1,.bool r2])∧Below w.heap.size w w':=by
 have hu34:=Try.underlying34
 have hu40:=Try.underlying40
 have HR0_0:=am hr0_0
 have HC0_0:=am hc0_0
 clear hr0_0 hc0_0
 have HR1:=am hr1
 have HC1:=am hc1
 clear hr1 hc1
 have HR2:=am hr2
 have HC2:=am hc2
 clear hr2 hc2
 have HB:=am (Below.refl w.heap.size w)
 have H:((spec_vfAll.f k l0_0 a0_1 l1 l2 a3_0 a3_1 a3_2 0).bind fun t288=>(if t288=true then(spec_LeastTolerance.l0 k l1 l2 0 l0_0 a0_1 a3_0 a3_1 a3_2) else(some (0,false))))=some (r1,r2):=h
 clear h
 replace H:=Option.bind_eq_some_iff.mp H
 obtain⟨t288,A50,H⟩:=H
 replace H:(if t288=true then(spec_LeastTolerance.l0 k l1 l2 0 l0_0 a0_1 a3_0 a3_1 a3_2) else(some (0,false)))=some (r1,r2):=H
 have A5:=am A50
 clear A50
 by_cases c6:t288=true
 ·subst c6
  replace H:=(if_pos rfl).symm.trans H
  have H':=am H
  clear H
  go_enter Try.func18,Try.ntmps18
  go_wp2_with (first|((with_reducible refine gate_dst (N:=4) rfl ?_);refine box_event ?hg (N:=4) ?hd (cs := #[.slice A0_0 l0_0.length c0_0,.int .i64 a0_1]) (t:=34) ?hr ?_;(case hd=>rfl);(case hg=>rfl);(case hr=>first|(go_simp;done)|(go_simp;rfl));intro gb286 hg w7 hbox hb;have BK286:=am (hbox);have GW286:=am (ge_ bl hg);have GE286:=am (ge_ bl hg);replace HB:=am (below_step bl hb);clear hb hbox hg)|((with_reducible refine gate_dst (N:=7) rfl ?_);refine box_event ?hg (N:=7) ?hd (cs := #[.int .i64 a3_0,.int .i64 a3_1,.int .i64 a3_2]) (t:=40) ?hr ?_;(case hd=>rfl);(case hg=>rfl);(case hr=>first|(go_simp;done)|(go_simp;rfl));intro gb287 hg w8 hbox hb;have BK287:=am (hbox);have GW287:=am (ge_ bl hg);have GE287:=am (ge_ bl hg);replace HB:=am (below_step bl hb);have NB286_287:=am (nl (bup BK286.out) hg);have NB287_286:=am (ng (bup BK286.out) hg);replace BK286:=am (blk_below (bup BK286.out) hb);clear hb hbox hg;have hnb9:=NB286_287.out;have hnc9:=NB287_286.out;have hcz10_0:=bc BK286.out 0;have hcz10_1:=bc BK286.out 1;have hfz10_0:=blk_frozen BK286.out 0;have hfz10_1:=blk_frozen BK286.out 1;have hcz11_0:=bc BK287.out 0;have hcz11_1:=bc BK287.out 1;have hcz11_2:=bc BK287.out 2;have hfz11_0:=blk_frozen BK287.out 0;have hfz11_1:=blk_frozen BK287.out 1;have hfz11_2:=blk_frozen BK287.out 2)|((with_reducible refine gate_callee (f:=29) rfl ?_);refine goesL_ (some 15) rfl rfl Try.func29 (by kernel_rfl) rfl #[.agg #[.slice A0_0 l0_0.length c0_0,.int .i64 a0_1],.slice A1 l1.length c1,.slice A2 l2.length c2,.agg #[.int .i64 a3_0,.int .i64 a3_1,.int .i64 a3_2],.int .i64 0] rfl tl ?_;(with_reducible refine(spec_vfAll.calls k _ _ l0_0 a0_1 _ _ l1 _ _ l2 a3_0 a3_1 a3_2 0 true _ ?side1 ?side2 ?side3 ?side4 ?side5 ?side6 A5.out).mono ?_);(case side1=>exact cup (Kd.C_below HR0_0.out HB.out));(case side2=>exact HC0_0.out);(case side3=>exact cup (Kd.C_below HR1.out HB.out));(case side4=>exact HC1.out);(case side5=>exact cup (Kd.C_below HR2.out HB.out));(case side6=>exact HC2.out);rintro e w12 ⟨rfl,hb⟩;refine⟨_,rfl,?_⟩;replace BK286:=am (blk_below (bup BK286.out) hb);replace BK287:=am (blk_below (bup BK287.out) hb);replace HB:=am (below_step bl hb);(try clear hb)))
  go_loopg [10] k (fun kq v10 w'=>∃(x10_1:Int),v10 = .int .i64 x10_1∧Aside0 (spec_LeastTolerance.l0 kq l1 l2 x10_1 l0_0 a0_1 a3_0 a3_1 a3_2=some (r1,r2))∧Aside0 (kq≤k)∧Aside0 (w'.heap[gb286]?=some (.cells #[(.slice A0_0 l0_0.length c0_0),.int .i64 a0_1] 34 (0,0)))∧Aside0 (w'.heap[gb287]?=some (.cells #[.int .i64 a3_0,.int .i64 a3_1,.int .i64 a3_2] 40 (0,0)))∧Aside0 (Below w.heap.size w w'))
  case atStart=>exact⟨(0),fin2,H',⟨Nat.le_refl _⟩,⟨bup BK286.out⟩,⟨bup BK287.out⟩,⟨bl⟩⟩
  case round =>
   clear H'
   try clear c1
   try clear c2
   try clear p2
   try clear c6
   try clear c9
   try clear hcz10_0
   try clear hcz10_1
   try clear hcz11_0
   try clear hcz11_1
   try clear hcz11_2
   try clear hfz10_0
   try clear hfz10_1
   try clear hfz11_0
   try clear hfz11_1
   try clear hfz11_2
   obtain⟨x10_1,rfl,HA,HK1,BK286,BK287,HB⟩:=hrel
   cases gk with
   | zero=>exact absurd HA.out (by simp [spec_LeastTolerance.l0])
   | succ k1 =>
    have H:=HA.out
    clear HA
    simp only[spec_LeastTolerance.l0] at H
    rcases itc H with⟨c13,H⟩|⟨c13,H⟩
    ·have c13b0:=decide_eq_true c13
     clear c13
     replace H:=Option.bind_eq_some_iff.mp H
     obtain⟨t289,A140,H⟩:=H
     replace H:(if(t289.length:Int)=0 then(some (x10_1,true)) else(spec_LeastTolerance.l0 k1 l1 l2 (wrap64 (x10_1+1)) l0_0 a0_1 a3_0 a3_1 a3_2))=some (r1,r2):=H
     have A14:=am A140
     clear A140
     rcases itc H with⟨c15,H⟩|⟨c15,H⟩
     ·have c15b0:((t289.length:Int) == 0)=true:=beq_iff_eq.mpr c15
      have c15b1:((t289.length:Int) != 0)=false:=bne_eq_false_iff_eq.mpr c15
      clear c15
      simp only[Option.some.injEq,Prod.mk.injEq] at H
      obtain⟨rfl,rfl⟩:=H
      have hnb16:=NB286_287.out
      have hnc16:=NB287_286.out
      have hcz17_0:=bc BK286.out 0
      have hcz17_1:=bc BK286.out 1
      have hfz17_0:=blk_frozen BK286.out 0
      have hfz17_1:=blk_frozen BK286.out 1
      have hcz18_0:=bc BK287.out 0
      have hcz18_1:=bc BK287.out 1
      have hcz18_2:=bc BK287.out 2
      have hfz18_0:=blk_frozen BK287.out 0
      have hfz18_1:=blk_frozen BK287.out 1
      have hfz18_2:=blk_frozen BK287.out 2
      go_wp2_with (first|((with_reducible refine gate_callee (f:=30) rfl ?_);refine goesL_ (some 26) rfl rfl Try.func30 (by kernel_rfl) rfl #[.agg #[.slice A0_0 l0_0.length c0_0,.int .i64 a0_1],.slice A1 l1.length c1,.slice A2 l2.length c2,.agg #[.int .i64 a3_0,.int .i64 a3_1,.int .i64 a3_2],.int .i64 x10_1] rfl tl ?_;(with_reducible refine(spec_vfFaults.calls k1 _ _ l0_0 a0_1 _ _ l1 _ _ l2 a3_0 a3_1 a3_2 x10_1 t289 _ ?side1 ?side2 ?side3 ?side4 ?side5 ?side6 A14.out).mono ?_);(case side1=>exact cup (Kd.C_below HR0_0.out HB.out));(case side2=>exact HC0_0.out);(case side3=>exact cup (Kd.C_below HR1.out HB.out));(case side4=>exact HC1.out);(case side5=>exact cup (Kd.C_below HR2.out HB.out));(case side6=>exact HC2.out);rintro e w19 ⟨v290,rfl,ho0,hb⟩;refine⟨_,rfl,?_⟩;have HO291:=am (Kd.S_lower ho0 (below_size bl));replace BK286:=am (blk_below (bup BK286.out) hb);replace BK287:=am (blk_below (bup BK287.out) hb);replace HB:=am (below_step bl hb);(try clear hb);(try clear ho0);obtain⟨Ao20,co20,eo20⟩:=Kd.S_slice HO291.out;subst eo20))
      go_ret2
      exact⟨fin1,bl⟩
     ·have c15b0:((t289.length:Int) == 0)=false:=beq_eq_false_iff_ne.mpr c15
      have c15b1:((t289.length:Int) != 0)=true:=bne_iff_ne.mpr c15
      have c15b2:¬ (t289=[]):=fun h_=>c15 (by rw[h_];rfl)
      have H':=am H
      clear H
      have hnb21:=NB286_287.out
      have hnc21:=NB287_286.out
      have hcz22_0:=bc BK286.out 0
      have hcz22_1:=bc BK286.out 1
      have hfz22_0:=blk_frozen BK286.out 0
      have hfz22_1:=blk_frozen BK286.out 1
      have hcz23_0:=bc BK287.out 0
      have hcz23_1:=bc BK287.out 1
      have hcz23_2:=bc BK287.out 2
      have hfz23_0:=blk_frozen BK287.out 0
      have hfz23_1:=blk_frozen BK287.out 1
      have hfz23_2:=blk_frozen BK287.out 2
      go_wp2_with (first|((with_reducible refine gate_callee (f:=30) rfl ?_);refine goesL_ (some 26) rfl rfl Try.func30 (by kernel_rfl) rfl #[.agg #[.slice A0_0 l0_0.length c0_0,.int .i64 a0_1],.slice A1 l1.length c1,.slice A2 l2.length c2,.agg #[.int .i64 a3_0,.int .i64 a3_1,.int .i64 a3_2],.int .i64 x10_1] rfl tl ?_;(with_reducible refine(spec_vfFaults.calls k1 _ _ l0_0 a0_1 _ _ l1 _ _ l2 a3_0 a3_1 a3_2 x10_1 t289 _ ?side1 ?side2 ?side3 ?side4 ?side5 ?side6 A14.out).mono ?_);(case side1=>exact cup (Kd.C_below HR0_0.out HB.out));(case side2=>exact HC0_0.out);(case side3=>exact cup (Kd.C_below HR1.out HB.out));(case side4=>exact HC1.out);(case side5=>exact cup (Kd.C_below HR2.out HB.out));(case side6=>exact HC2.out);rintro e w24 ⟨v290,rfl,ho0,hb⟩;refine⟨_,rfl,?_⟩;have HO291:=am (Kd.S_lower ho0 (below_size bl));replace BK286:=am (blk_below (bup BK286.out) hb);replace BK287:=am (blk_below (bup BK287.out) hb);replace HB:=am (below_step bl hb);(try clear hb);(try clear ho0);obtain⟨Ao25,co25,eo25⟩:=Kd.S_slice HO291.out;subst eo25))
      go_roundg k1
      case measure=>have:=HK1.out;omega
      case rel=>exact⟨(wrap64 (x10_1+1)),fin2,H',⟨by have:=HK1.out;omega⟩,⟨bup BK286.out⟩,⟨bup BK287.out⟩,⟨bl⟩⟩
    ·have c13b0:=decide_eq_false c13
     clear c13
     simp only[Option.some.injEq,Prod.mk.injEq] at H
     obtain⟨rfl,rfl⟩:=H
     go_wp2
     go_ret2
     exact⟨fin1,bl⟩
 ·replace c6:=Bool.eq_false_iff.mpr c6
  subst c6
  replace H:=(if_neg Bool.false_ne_true).symm.trans H
  simp only[Option.some.injEq,Prod.mk.injEq] at H
  obtain⟨rfl,rfl⟩:=H
  go_enter Try.func18,Try.ntmps18
  go_wp2_with (first|((with_reducible refine gate_dst (N:=4) rfl ?_);refine box_event ?hg (N:=4) ?hd (cs := #[.slice A0_0 l0_0.length c0_0,.int .i64 a0_1]) (t:=34) ?hr ?_;(case hd=>rfl);(case hg=>rfl);(case hr=>first|(go_simp;done)|(go_simp;rfl));intro gb286 hg w26 hbox hb;have BK286:=am (hbox);have GW286:=am (ge_ bl hg);have GE286:=am (ge_ bl hg);replace HB:=am (below_step bl hb);clear hb hbox hg)|((with_reducible refine gate_dst (N:=7) rfl ?_);refine box_event ?hg (N:=7) ?hd (cs := #[.int .i64 a3_0,.int .i64 a3_1,.int .i64 a3_2]) (t:=40) ?hr ?_;(case hd=>rfl);(case hg=>rfl);(case hr=>first|(go_simp;done)|(go_simp;rfl));intro gb287 hg w27 hbox hb;have BK287:=am (hbox);have GW287:=am (ge_ bl hg);have GE287:=am (ge_ bl hg);replace HB:=am (below_step bl hb);have NB286_287:=am (nl (bup BK286.out) hg);have NB287_286:=am (ng (bup BK286.out) hg);replace BK286:=am (blk_below (bup BK286.out) hb);clear hb hbox hg;have hnb28:=NB286_287.out;have hnc28:=NB287_286.out;have hcz29_0:=bc BK286.out 0;have hcz29_1:=bc BK286.out 1;have hfz29_0:=blk_frozen BK286.out 0;have hfz29_1:=blk_frozen BK286.out 1;have hcz30_0:=bc BK287.out 0;have hcz30_1:=bc BK287.out 1;have hcz30_2:=bc BK287.out 2;have hfz30_0:=blk_frozen BK287.out 0;have hfz30_1:=blk_frozen BK287.out 1;have hfz30_2:=blk_frozen BK287.out 2)|((with_reducible refine gate_callee (f:=29) rfl ?_);refine goesL_ (some 15) rfl rfl Try.func29 (by kernel_rfl) rfl #[.agg #[.slice A0_0 l0_0.length c0_0,.int .i64 a0_1],.slice A1 l1.length c1,.slice A2 l2.length c2,.agg #[.int .i64 a3_0,.int .i64 a3_1,.int .i64 a3_2],.int .i64 0] rfl tl ?_;(with_reducible refine(spec_vfAll.calls k _ _ l0_0 a0_1 _ _ l1 _ _ l2 a3_0 a3_1 a3_2 0 false _ ?side1 ?side2 ?side3 ?side4 ?side5 ?side6 A5.out).mono ?_);(case side1=>exact cup (Kd.C_below HR0_0.out HB.out));(case side2=>exact HC0_0.out);(case side3=>exact cup (Kd.C_below HR1.out HB.out));(case side4=>exact HC1.out);(case side5=>exact cup (Kd.C_below HR2.out HB.out));(case side6=>exact HC2.out);rintro e w31 ⟨rfl,hb⟩;refine⟨_,rfl,?_⟩;replace BK286:=am (blk_below (bup BK286.out) hb);replace BK287:=am (blk_below (bup BK287.out) hb);replace HB:=am (below_step bl hb);(try clear hb)))
  go_ret2
  exact⟨fin1,bl⟩

def impl_isPitch.f (a0:Int):Option (Bool):=if a0≥24 then(some (decide (a0≤96))) else(some false)
set_option maxHeartbeats 8000000 in
set_option maxRecDepth 100000 in
theorem impl_isPitch.calls (a0:Int) (r:Bool) (w:World) (h:impl_isPitch.f a0=some r) :
  Calls Try.prog 64 #[.int .i64 a0] w fun e w'=>e = .returned (.bool r)∧Drawn0 w w':=by
 have H:(if a0≥24 then(some (decide (a0≤96))) else(some false))=some r:=h
 clear h
 rcases itc H with⟨c2,H⟩|⟨c2,H⟩
 ·have c2b0:decide (24≤a0)=true:=decide_eq_true c2
  clear c2
  obtain rfl:=Option.some.inj H
  go_enter Try.func64,Try.ntmps64
  go_wp2
  go_ret
  exact⟨by first|rfl|(simp;done)|(simp [*];done),by repeat(first|exact Drawn0.refl _|apply Drawn0.step)⟩
 ·have c2b0:decide (24≤a0)=false:=decide_eq_false c2
  clear c2
  obtain rfl:=Option.some.inj H
  go_enter Try.func64,Try.ntmps64
  go_wp2
  go_ret
  exact⟨by first|rfl|(simp;done)|(simp [*];done),by repeat(first|exact Drawn0.refl _|apply Drawn0.step)⟩

mutual
def impl_IsInstrument.j0:Nat→Bool→List Int→Int→Option (Bool)
 | 0,_,_,_=>none
 | k+1,x24,x293000,x293001=>if x24=true then(some false) else(impl_IsInstrument.l0 k x293000 (x293000.length:Int) 0 x293000 x293001)
def impl_IsInstrument.l0:Nat→List Int→Int→Int→List Int→Int→Option (Bool)
 | 0,_,_,_,_,_=>none
 | k+1,x26,x27,x28,x293000,x293001=>if x28<x27 then(if 0≤x28 then(if x28<(x26.length:Int) then((impl_isPitch.f (rd x26 x28)).bind fun t294=>(if t294=true then(if x28>0 then(if 0≤(wrap64 (x28 - 1)) then(if(wrap64 (x28 - 1))<(x293000.length:Int) then(if(rd x26 x28)≤(rd x293000 (wrap64 (x28 - 1))) then(some false) else(impl_IsInstrument.l0 k x26 x27 (wrap64 (x28+1)) x293000 x293001)) else(none)) else(none)) else(impl_IsInstrument.l0 k x26 x27 (wrap64 (x28+1)) x293000 x293001)) else(some false))) else(none)) else(none)) else(some true)
end
def impl_IsInstrument.f (k:Nat) (l0_0:List Int) (a0_1:Int):Option (Bool):=if(l0_0.length:Int)<1 then(impl_IsInstrument.j0 k true l0_0 a0_1) else(if(l0_0.length:Int)>20 then(impl_IsInstrument.j0 k true l0_0 a0_1) else(if a0_1<1 then(impl_IsInstrument.j0 k true l0_0 a0_1) else(impl_IsInstrument.j0 k (decide (a0_1>20)) l0_0 a0_1)))
set_option maxHeartbeats 8000000 in
set_option maxRecDepth 100000 in
theorem impl_IsInstrument.calls (k:Nat) (A0_0:Option Addr) (c0_0:Nat) (l0_0:List Int) (a0_1:Int) (r:Bool) (w:World) (hr0_0:Kd.C (Kd.int .i64) w A0_0 l0_0.length l0_0) (hc0_0:l0_0.length≤c0_0) (h:impl_IsInstrument.f k l0_0 a0_1=some r) :
  Calls Try.prog 50 #[.agg #[.slice A0_0 l0_0.length c0_0,.int .i64 a0_1]] w fun e w'=>e = .returned (.bool r)∧Below w.heap.size w w':=by
 have hu34:=Try.underlying34
 have HR0_0:=am hr0_0
 have HC0_0:=am hc0_0
 clear hr0_0 hc0_0
 have HB:=am (Below.refl w.heap.size w)
 have H:(if(l0_0.length:Int)<1 then(impl_IsInstrument.j0 k true l0_0 a0_1) else(if(l0_0.length:Int)>20 then(impl_IsInstrument.j0 k true l0_0 a0_1) else(if a0_1<1 then(impl_IsInstrument.j0 k true l0_0 a0_1) else(impl_IsInstrument.j0 k (decide (a0_1>20)) l0_0 a0_1))))=some r:=h
 clear h
 have HC2:=am H
 clear H
 go_enter Try.func50,Try.ntmps50
 go_upto_region 1 with(first|((with_reducible refine gate_dst (N:=1) rfl ?_);(try(refine gate_guard (by rfl) ?_;dsimp only));refine box_event ?hg (N:=1) ?hd (cs := #[.slice A0_0 l0_0.length c0_0,.int .i64 a0_1]) (t:=34) ?hr ?_;(case hd=>rfl);(case hg=>rfl);(case hr=>first|(go_simp;done)|(go_simp;rfl));intro gb292 hg w3 hbox hb;have BK292:=am (hbox);have GW292:=am (ge_ bl hg);have GE292:=am (ge_ bl hg);replace HB:=am (below_step bl hb);clear hb hbox hg))
 (try simp only[Act.put,List.setIfInBounds_toArray,List.set_cons_zero,List.set_cons_succ])
 go_cut [24] (fun v24 wc=>∃(kq:Nat) (x24_1:Bool),v24 = .bool x24_1∧Aside0 (impl_IsInstrument.j0 kq x24_1 l0_0 a0_1=some r)∧Aside0 (kq≤k)∧Aside0 (wc.heap[gb292]?=some (.cells #[(.slice A0_0 l0_0.length c0_0),.int .i64 a0_1] 34 (0,0)))∧Aside0 (Below w.heap.size w wc))
 case first =>
  have H:=HC2.out
  clear HC2
  rcases itc H with⟨c4,H⟩|⟨c4,H⟩
  ·have c4b0:=decide_eq_true c4
   have c4b1:decide (l0_0.length<1)=true:=decide_eq_true (by omega)
   clear c4
   (first|rw[c4b0]|(simp only[i64_w,i32_w];rw[c4b0])|skip)
   have H':=am H
   clear H
   have hcz5_0:=bc BK292.out 0
   have hcz5_1:=bc BK292.out 1
   have hfz5_0:=blk_frozen BK292.out 0
   have hfz5_1:=blk_frozen BK292.out 1
   go_wp2
   go_meet
   case rel=>exact⟨_,(true),fin2,H',⟨by first|omega|exact Nat.le_refl _⟩,⟨bup BK292.out⟩,⟨bl⟩⟩
  ·have c4b0:=decide_eq_false c4
   have c4b1:decide (l0_0.length<1)=false:=decide_eq_false (by omega)
   clear c4
   (first|rw[c4b0]|(simp only[i64_w,i32_w];rw[c4b0])|skip)
   rcases itc H with⟨c6,H⟩|⟨c6,H⟩
   ·have c6b0:decide (20<(l0_0.length:Int))=true:=decide_eq_true c6
    have c6b1:decide (20<l0_0.length)=true:=decide_eq_true (by omega)
    clear c6
    have H':=am H
    clear H
    have hcz7_0:=bc BK292.out 0
    have hcz7_1:=bc BK292.out 1
    have hfz7_0:=blk_frozen BK292.out 0
    have hfz7_1:=blk_frozen BK292.out 1
    go_wp2
    go_meet
    case rel=>exact⟨_,(true),fin2,H',⟨by first|omega|exact Nat.le_refl _⟩,⟨bup BK292.out⟩,⟨bl⟩⟩
   ·have c6b0:decide (20<(l0_0.length:Int))=false:=decide_eq_false c6
    have c6b1:decide (20<l0_0.length)=false:=decide_eq_false (by omega)
    clear c6
    rcases itc H with⟨c8,H⟩|⟨c8,H⟩
    ·have c8b0:=decide_eq_true c8
     clear c8
     have H':=am H
     clear H
     have hcz9_0:=bc BK292.out 0
     have hcz9_1:=bc BK292.out 1
     have hfz9_0:=blk_frozen BK292.out 0
     have hfz9_1:=blk_frozen BK292.out 1
     go_wp2
     go_meet
     case rel=>exact⟨_,(true),fin2,H',⟨by first|omega|exact Nat.le_refl _⟩,⟨bup BK292.out⟩,⟨bl⟩⟩
    ·have c8b0:=decide_eq_false c8
     clear c8
     have H':=am H
     clear H
     have hcz10_0:=bc BK292.out 0
     have hcz10_1:=bc BK292.out 1
     have hfz10_0:=blk_frozen BK292.out 0
     have hfz10_1:=blk_frozen BK292.out 1
     go_wp2
     go_meet
     case rel=>exact⟨_,(decide (a0_1>20)),fin2,H',⟨by first|omega|exact Nat.le_refl _⟩,⟨bup BK292.out⟩,⟨bl⟩⟩
 case rest =>
  clear HC2
  try clear p2
  try clear c4
  try clear c4b0
  try clear c4b1
  try clear c5
  try clear c6
  try clear c6b0
  try clear c6b1
  try clear c8
  try clear c8b0
  try clear hcz10_0
  try clear hcz10_1
  try clear hcz5_0
  try clear hcz5_1
  try clear hcz7_0
  try clear hcz7_1
  try clear hcz9_0
  try clear hcz9_1
  try clear hfz10_0
  try clear hfz10_1
  try clear hfz5_0
  try clear hfz5_1
  try clear hfz7_0
  try clear hfz7_1
  try clear hfz9_0
  try clear hfz9_1
  obtain⟨kq,x24_1,rfl,HA,HJ1,BK292,HB⟩:=hcut
  cases kq with
  | zero=>exact absurd HA.out (by simp [impl_IsInstrument.j0])
  | succ kj1 =>
   have H:=HA.out
   clear HA
   simp only[impl_IsInstrument.j0] at H
   by_cases c11:x24_1=true
   ·subst c11
    replace H:=(if_pos rfl).symm.trans H
    obtain rfl:=Option.some.inj H
    go_wp2
    go_ret
    exact⟨fin1,bl⟩
   ·replace c11:=Bool.eq_false_iff.mpr c11
    subst c11
    replace H:=(if_neg Bool.false_ne_true).symm.trans H
    have H':=am H
    clear H
    have hcz12_0:=bc BK292.out 0
    have hcz12_1:=bc BK292.out 1
    have hfz12_0:=blk_frozen BK292.out 0
    have hfz12_1:=blk_frozen BK292.out 1
    go_wp2
    go_loopg [28] kj1 (fun kq v28 w'=>∃(x28_2:Int),v28 = .int .i64 x28_2∧Aside0 (impl_IsInstrument.l0 kq l0_0 (l0_0.length:Int) x28_2 l0_0 a0_1=some r)∧Aside0 (kq≤kj1)∧Aside0 (w'.heap[gb292]?=some (.cells #[(.slice A0_0 l0_0.length c0_0),.int .i64 a0_1] 34 (0,0)))∧Aside0 (Below w.heap.size w w'))
    case atStart=>exact⟨(0),fin2,H',⟨Nat.le_refl _⟩,⟨bup BK292.out⟩,⟨bl⟩⟩
    case round =>
     clear H'
     try clear c1
     try clear p2
     try clear c4
     try clear c4b0
     try clear c4b1
     try clear c5
     try clear c6
     try clear c6b0
     try clear c6b1
     try clear c8
     try clear c8b0
     try clear c11
     try clear hcz10_0
     try clear hcz10_1
     try clear hcz12_0
     try clear hcz12_1
     try clear hcz5_0
     try clear hcz5_1
     try clear hcz7_0
     try clear hcz7_1
     try clear hcz9_0
     try clear hcz9_1
     try clear hfz10_0
     try clear hfz10_1
     try clear hfz12_0
     try clear hfz12_1
     try clear hfz5_0
     try clear hfz5_1
     try clear hfz7_0
     try clear hfz7_1
     try clear hfz9_0
     try clear hfz9_1
     try clear p2
     obtain⟨x28_2,rfl,HA,HK2,BK292,HB⟩:=hrel
     cases gk with
     | zero=>exact absurd HA.out (by simp [impl_IsInstrument.l0])
     | succ k2 =>
      have H:=HA.out
      clear HA
      simp only[impl_IsInstrument.l0] at H
      rcases itc H with⟨c13,H⟩|⟨c13,H⟩
      ·have c13b0:=decide_eq_true c13
       clear c13
       obtain⟨c14b0,H⟩:=ifb H
       obtain⟨c15b0,H⟩:=ifb H
       obtain⟨t294,A16,H⟩:=bnd H
       by_cases c17:t294=true
       ·subst c17
        replace H:=(if_pos rfl).symm.trans H
        rcases itc H with⟨c18,H⟩|⟨c18,H⟩
        ·have c18b0:decide (0<x28_2)=true:=decide_eq_true c18
         clear c18
         obtain⟨ji19,hji19⟩:∃ j_:Int,(wrap64 (x28_2 - 1))=j_:=⟨_,rfl⟩
         replace H:(if 0≤(ji19) then(if(ji19)<(l0_0.length:Int) then(if(rd l0_0 x28_2)≤(rd l0_0 (ji19)) then(some false) else(impl_IsInstrument.l0 k2 l0_0 (l0_0.length:Int) (wrap64 (x28_2+1)) l0_0 a0_1)) else(none)) else(none))=some r:=by first|(rw[hji19] at H;exact H)|(simp only[hji19] at H ⊢;exact H)
         (try rw[hji19] at A16)
         have hji19w:(IntKind.i64.wrap (x28_2 - 1))=ji19:=(i64_w _).trans hji19
         obtain⟨c20b0,H⟩:=ifb H
         obtain⟨c21b0,H⟩:=ifb H
         rcases itc H with⟨c22,H⟩|⟨c22,H⟩
         ·have c22b0:=decide_eq_true c22
          clear c22
          obtain rfl:=Option.some.inj H
          have p293:0≤(x28_2:Int):=od
          have q293:x28_2<(l0_0.length:Int):=od
          obtain⟨ad293,e293,hx293_0⟩:=Kd.at_int HR0_0.out x28_2 p293 q293
          cases e293
          replace hx293_0:=(HB.out.cell (World.block_lt_of_cell? w _ hx293_0)).trans hx293_0
          replace p293:=eq_true p293
          replace q293:=eq_true q293
          go_wp2_with (first|((with_reducible refine gate_callee (f:=64) rfl ?_);refine goesL_ (some 34) rfl rfl Try.func64 (by kernel_rfl) rfl #[.int .i64 (rd l0_0 x28_2)] rfl tl ?_;(with_reducible refine(impl_isPitch.calls (rd l0_0 x28_2) true _ A16.out).mono ?_);rintro e w' ⟨rfl,⟨nd,rfl⟩⟩;refine⟨_,rfl,?_⟩;have hcz23_0:=bc BK292.out 0;have hcz23_1:=bc BK292.out 1;have hfz23_0:=blk_frozen BK292.out 0;have hfz23_1:=blk_frozen BK292.out 1;have p295:0≤((ji19):Int):=od;have q295:(ji19)<(l0_0.length:Int):=od;obtain⟨ad295,e295,hx295_0⟩:=Kd.at_int HR0_0.out (ji19) p295 q295;obtain rfl:ad293=ad295:=(by injection e295);replace hx295_0:=(HB.out.cell (World.block_lt_of_cell? w _ hx295_0)).trans hx295_0;replace p295:=eq_true p295;replace q295:=eq_true q295))
          go_ret
          exact⟨by first|rfl|(simp [errW_none,errW_some]<;>rfl)|(simp only[← hji19];first|rfl|(simp [errW_none,errW_some]<;>rfl))|(simp [*,errW_none,errW_some]<;>rfl),bl⟩
         ·have c22b0:=decide_eq_false c22
          clear c22
          have H':=am H
          clear H
          have p293:0≤(x28_2:Int):=od
          have q293:x28_2<(l0_0.length:Int):=od
          obtain⟨ad293,e293,hx293_0⟩:=Kd.at_int HR0_0.out x28_2 p293 q293
          cases e293
          replace hx293_0:=(HB.out.cell (World.block_lt_of_cell? w _ hx293_0)).trans hx293_0
          replace p293:=eq_true p293
          replace q293:=eq_true q293
          go_wp2_with (first|((with_reducible refine gate_callee (f:=64) rfl ?_);refine goesL_ (some 34) rfl rfl Try.func64 (by kernel_rfl) rfl #[.int .i64 (rd l0_0 x28_2)] rfl tl ?_;(with_reducible refine(impl_isPitch.calls (rd l0_0 x28_2) true _ A16.out).mono ?_);rintro e w' ⟨rfl,⟨nd,rfl⟩⟩;refine⟨_,rfl,?_⟩;have hcz24_0:=bc BK292.out 0;have hcz24_1:=bc BK292.out 1;have hfz24_0:=blk_frozen BK292.out 0;have hfz24_1:=blk_frozen BK292.out 1;have p295:0≤((ji19):Int):=od;have q295:(ji19)<(l0_0.length:Int):=od;obtain⟨ad295,e295,hx295_0⟩:=Kd.at_int HR0_0.out (ji19) p295 q295;obtain rfl:ad293=ad295:=(by injection e295);replace hx295_0:=(HB.out.cell (World.block_lt_of_cell? w _ hx295_0)).trans hx295_0;replace p295:=eq_true p295;replace q295:=eq_true q295))
          go_roundg k2
          case measure=>have:=HJ1.out;have:=HK2.out;omega
          case rel=>exact⟨(wrap64 (x28_2+1)),fin2,H',⟨by have:=HJ1.out;have:=HK2.out;omega⟩,⟨bup BK292.out⟩,⟨bl⟩⟩
        ·have c18b0:decide (0<x28_2)=false:=decide_eq_false c18
         clear c18
         have H':=am H
         clear H
         have p293:0≤(x28_2:Int):=od
         have q293:x28_2<(l0_0.length:Int):=od
         obtain⟨ad293,e293,hx293_0⟩:=Kd.at_int HR0_0.out x28_2 p293 q293
         cases e293
         replace hx293_0:=(HB.out.cell (World.block_lt_of_cell? w _ hx293_0)).trans hx293_0
         replace p293:=eq_true p293
         replace q293:=eq_true q293
         go_wp2_with (first|((with_reducible refine gate_callee (f:=64) rfl ?_);refine goesL_ (some 34) rfl rfl Try.func64 (by kernel_rfl) rfl #[.int .i64 (rd l0_0 x28_2)] rfl tl ?_;(with_reducible refine(impl_isPitch.calls (rd l0_0 x28_2) true _ A16.out).mono ?_);rintro e w' ⟨rfl,⟨nd,rfl⟩⟩;refine⟨_,rfl,?_⟩))
         go_roundg k2
         case measure=>have:=HJ1.out;have:=HK2.out;omega
         case rel=>exact⟨(wrap64 (x28_2+1)),fin2,H',⟨by have:=HJ1.out;have:=HK2.out;omega⟩,⟨bup BK292.out⟩,⟨bl⟩⟩
       ·replace c17:=Bool.eq_false_iff.mpr c17
        subst c17
        replace H:=(if_neg Bool.false_ne_true).symm.trans H
        obtain rfl:=Option.some.inj H
        have p293:0≤(x28_2:Int):=od
        have q293:x28_2<(l0_0.length:Int):=od
        obtain⟨ad293,e293,hx293_0⟩:=Kd.at_int HR0_0.out x28_2 p293 q293
        cases e293
        replace hx293_0:=(HB.out.cell (World.block_lt_of_cell? w _ hx293_0)).trans hx293_0
        replace p293:=eq_true p293
        replace q293:=eq_true q293
        go_wp2_with (first|((with_reducible refine gate_callee (f:=64) rfl ?_);refine goesL_ (some 34) rfl rfl Try.func64 (by kernel_rfl) rfl #[.int .i64 (rd l0_0 x28_2)] rfl tl ?_;(with_reducible refine(impl_isPitch.calls (rd l0_0 x28_2) false _ A16.out).mono ?_);rintro e w' ⟨rfl,⟨nd,rfl⟩⟩;refine⟨_,rfl,?_⟩))
        go_ret
        exact⟨fin1,bl⟩
      ·have c13b0:=decide_eq_false c13
       clear c13
       obtain rfl:=Option.some.inj H
       go_wp2
       go_ret
       exact⟨fin1,bl⟩

def impl_IsNote.f (a0_0:Int) (a0_1:Int) (a0_2:Int):Option (Bool):=if a0_0≥24 then(if a0_0≤96 then(if a0_1≥0 then(if a0_1≤999 then(if a0_2≥1 then(some (decide (a0_2≤99))) else(some false)) else(some false)) else(some false)) else(some false)) else(some false)
set_option maxHeartbeats 8000000 in
set_option maxRecDepth 100000 in
theorem impl_IsNote.calls (a0_0:Int) (a0_1:Int) (a0_2:Int) (r:Bool) (w:World) (h:impl_IsNote.f a0_0 a0_1 a0_2=some r) :
  Calls Try.prog 65 #[.agg #[.int .i64 a0_0,.int .i64 a0_1,.int .i64 a0_2]] w fun e w'=>e = .returned (.bool r)∧Below w.heap.size w w':=by
 have hu62:=Try.underlying62
 have HB:=am (Below.refl w.heap.size w)
 have H:(if a0_0≥24 then(if a0_0≤96 then(if a0_1≥0 then(if a0_1≤999 then(if a0_2≥1 then(some (decide (a0_2≤99))) else(some false)) else(some false)) else(some false)) else(some false)) else(some false))=some r:=h
 clear h
 rcases itc H with⟨c2,H⟩|⟨c2,H⟩
 ·have c2b0:decide (24≤a0_0)=true:=decide_eq_true c2
  clear c2
  rcases itc H with⟨c3,H⟩|⟨c3,H⟩
  ·have c3b0:=decide_eq_true c3
   clear c3
   rcases itc H with⟨c4,H⟩|⟨c4,H⟩
   ·have c4b0:decide (0≤a0_1)=true:=decide_eq_true c4
    clear c4
    rcases itc H with⟨c5,H⟩|⟨c5,H⟩
    ·have c5b0:=decide_eq_true c5
     clear c5
     rcases itc H with⟨c6,H⟩|⟨c6,H⟩
     ·have c6b0:decide (1≤a0_2)=true:=decide_eq_true c6
      clear c6
      obtain rfl:=Option.some.inj H
      go_enter Try.func65,Try.ntmps65
      go_wp2_with (first|((with_reducible refine gate_dst (N:=1) rfl ?_);refine box_event ?hg (N:=1) ?hd (cs := #[.int .i64 a0_0,.int .i64 a0_1,.int .i64 a0_2]) (t:=62) ?hr ?_;(case hd=>rfl);(case hg=>rfl);(case hr=>first|(go_simp;done)|(go_simp;rfl));intro gb296 hg w7 hbox hb;have BK296:=am (hbox);have GW296:=am (ge_ bl hg);have GE296:=am (ge_ bl hg);replace HB:=am (below_step bl hb);clear hb hbox hg;have hcz8_0:=bc BK296.out 0;have hcz8_1:=bc BK296.out 1;have hcz8_2:=bc BK296.out 2;have hfz8_0:=blk_frozen BK296.out 0;have hfz8_1:=blk_frozen BK296.out 1;have hfz8_2:=blk_frozen BK296.out 2))
      go_ret
      exact⟨fin1,bl⟩
     ·have c6b0:decide (1≤a0_2)=false:=decide_eq_false c6
      clear c6
      obtain rfl:=Option.some.inj H
      go_enter Try.func65,Try.ntmps65
      go_wp2_with (first|((with_reducible refine gate_dst (N:=1) rfl ?_);refine box_event ?hg (N:=1) ?hd (cs := #[.int .i64 a0_0,.int .i64 a0_1,.int .i64 a0_2]) (t:=62) ?hr ?_;(case hd=>rfl);(case hg=>rfl);(case hr=>first|(go_simp;done)|(go_simp;rfl));intro gb296 hg w9 hbox hb;have BK296:=am (hbox);have GW296:=am (ge_ bl hg);have GE296:=am (ge_ bl hg);replace HB:=am (below_step bl hb);clear hb hbox hg;have hcz10_0:=bc BK296.out 0;have hcz10_1:=bc BK296.out 1;have hcz10_2:=bc BK296.out 2;have hfz10_0:=blk_frozen BK296.out 0;have hfz10_1:=blk_frozen BK296.out 1;have hfz10_2:=blk_frozen BK296.out 2))
      go_ret
      exact⟨fin1,bl⟩
    ·have c5b0:=decide_eq_false c5
     clear c5
     obtain rfl:=Option.some.inj H
     go_enter Try.func65,Try.ntmps65
     go_wp2_with (first|((with_reducible refine gate_dst (N:=1) rfl ?_);refine box_event ?hg (N:=1) ?hd (cs := #[.int .i64 a0_0,.int .i64 a0_1,.int .i64 a0_2]) (t:=62) ?hr ?_;(case hd=>rfl);(case hg=>rfl);(case hr=>first|(go_simp;done)|(go_simp;rfl));intro gb296 hg w11 hbox hb;have BK296:=am (hbox);have GW296:=am (ge_ bl hg);have GE296:=am (ge_ bl hg);replace HB:=am (below_step bl hb);clear hb hbox hg;have hcz12_0:=bc BK296.out 0;have hcz12_1:=bc BK296.out 1;have hcz12_2:=bc BK296.out 2;have hfz12_0:=blk_frozen BK296.out 0;have hfz12_1:=blk_frozen BK296.out 1;have hfz12_2:=blk_frozen BK296.out 2))
     go_ret
     exact⟨fin1,bl⟩
   ·have c4b0:decide (0≤a0_1)=false:=decide_eq_false c4
    clear c4
    obtain rfl:=Option.some.inj H
    go_enter Try.func65,Try.ntmps65
    go_wp2_with (first|((with_reducible refine gate_dst (N:=1) rfl ?_);refine box_event ?hg (N:=1) ?hd (cs := #[.int .i64 a0_0,.int .i64 a0_1,.int .i64 a0_2]) (t:=62) ?hr ?_;(case hd=>rfl);(case hg=>rfl);(case hr=>first|(go_simp;done)|(go_simp;rfl));intro gb296 hg w13 hbox hb;have BK296:=am (hbox);have GW296:=am (ge_ bl hg);have GE296:=am (ge_ bl hg);replace HB:=am (below_step bl hb);clear hb hbox hg;have hcz14_0:=bc BK296.out 0;have hcz14_1:=bc BK296.out 1;have hcz14_2:=bc BK296.out 2;have hfz14_0:=blk_frozen BK296.out 0;have hfz14_1:=blk_frozen BK296.out 1;have hfz14_2:=blk_frozen BK296.out 2))
    go_ret
    exact⟨fin1,bl⟩
  ·have c3b0:=decide_eq_false c3
   clear c3
   obtain rfl:=Option.some.inj H
   go_enter Try.func65,Try.ntmps65
   go_wp2_with (first|((with_reducible refine gate_dst (N:=1) rfl ?_);refine box_event ?hg (N:=1) ?hd (cs := #[.int .i64 a0_0,.int .i64 a0_1,.int .i64 a0_2]) (t:=62) ?hr ?_;(case hd=>rfl);(case hg=>rfl);(case hr=>first|(go_simp;done)|(go_simp;rfl));intro gb296 hg w15 hbox hb;have BK296:=am (hbox);have GW296:=am (ge_ bl hg);have GE296:=am (ge_ bl hg);replace HB:=am (below_step bl hb);clear hb hbox hg;have hcz16_0:=bc BK296.out 0;have hcz16_1:=bc BK296.out 1;have hcz16_2:=bc BK296.out 2;have hfz16_0:=blk_frozen BK296.out 0;have hfz16_1:=blk_frozen BK296.out 1;have hfz16_2:=blk_frozen BK296.out 2))
   go_ret
   exact⟨fin1,bl⟩
 ·have c2b0:decide (24≤a0_0)=false:=decide_eq_false c2
  clear c2
  obtain rfl:=Option.some.inj H
  go_enter Try.func65,Try.ntmps65
  go_wp2_with (first|((with_reducible refine gate_dst (N:=1) rfl ?_);refine box_event ?hg (N:=1) ?hd (cs := #[.int .i64 a0_0,.int .i64 a0_1,.int .i64 a0_2]) (t:=62) ?hr ?_;(case hd=>rfl);(case hg=>rfl);(case hr=>first|(go_simp;done)|(go_simp;rfl));intro gb296 hg w17 hbox hb;have BK296:=am (hbox);have GW296:=am (ge_ bl hg);have GE296:=am (ge_ bl hg);replace HB:=am (below_step bl hb);clear hb hbox hg;have hcz18_0:=bc BK296.out 0;have hcz18_1:=bc BK296.out 1;have hcz18_2:=bc BK296.out 2;have hfz18_0:=blk_frozen BK296.out 0;have hfz18_1:=blk_frozen BK296.out 1;have hfz18_2:=blk_frozen BK296.out 2))
  go_ret
  exact⟨fin1,bl⟩

def impl_noteLess.f (a0_0:Int) (a0_1:Int) (a0_2:Int) (a1_0:Int) (a1_1:Int) (a1_2:Int):Option (Bool):=if a0_1=a1_1 then(some (decide (a0_0<a1_0))) else(some (decide (a0_1<a1_1)))
set_option maxHeartbeats 8000000 in
set_option maxRecDepth 100000 in
theorem impl_noteLess.calls (a0_0:Int) (a0_1:Int) (a0_2:Int) (a1_0:Int) (a1_1:Int) (a1_2:Int) (r:Bool) (w:World) (h:impl_noteLess.f a0_0 a0_1 a0_2 a1_0 a1_1 a1_2=some r) :
  Calls Try.prog 66 #[.agg #[.int .i64 a0_0,.int .i64 a0_1,.int .i64 a0_2],.agg #[.int .i64 a1_0,.int .i64 a1_1,.int .i64 a1_2]] w fun e w'=>e = .returned (.bool r)∧Below w.heap.size w w':=by
 have hu62:=Try.underlying62
 have HB:=am (Below.refl w.heap.size w)
 have H:(if a0_1=a1_1 then(some (decide (a0_0<a1_0))) else(some (decide (a0_1<a1_1))))=some r:=h
 clear h
 rcases itc H with⟨c3,H⟩|⟨c3,H⟩
 ·have c3b0:(a0_1 == a1_1)=true:=beq_iff_eq.mpr c3
  have c3b1:(a0_1 != a1_1)=false:=bne_eq_false_iff_eq.mpr c3
  clear c3
  obtain rfl:=Option.some.inj H
  go_enter Try.func66,Try.ntmps66
  go_wp2_with (first|((with_reducible refine gate_dst (N:=2) rfl ?_);refine box_event ?hg (N:=2) ?hd (cs := #[.int .i64 a0_0,.int .i64 a0_1,.int .i64 a0_2]) (t:=62) ?hr ?_;(case hd=>rfl);(case hg=>rfl);(case hr=>first|(go_simp;done)|(go_simp;rfl));intro gb297 hg w4 hbox hb;have BK297:=am (hbox);have GW297:=am (ge_ bl hg);have GE297:=am (ge_ bl hg);replace HB:=am (below_step bl hb);clear hb hbox hg)|((with_reducible refine gate_dst (N:=3) rfl ?_);refine box_event ?hg (N:=3) ?hd (cs := #[.int .i64 a1_0,.int .i64 a1_1,.int .i64 a1_2]) (t:=62) ?hr ?_;(case hd=>rfl);(case hg=>rfl);(case hr=>first|(go_simp;done)|(go_simp;rfl));intro gb298 hg w5 hbox hb;have BK298:=am (hbox);have GW298:=am (ge_ bl hg);have GE298:=am (ge_ bl hg);replace HB:=am (below_step bl hb);have NB297_298:=am (nl (bup BK297.out) hg);have NB298_297:=am (ng (bup BK297.out) hg);replace BK297:=am (blk_below (bup BK297.out) hb);clear hb hbox hg;have hnb6:=NB297_298.out;have hnc6:=NB298_297.out;have hcz7_0:=bc BK297.out 0;have hcz7_1:=bc BK297.out 1;have hcz7_2:=bc BK297.out 2;have hfz7_0:=blk_frozen BK297.out 0;have hfz7_1:=blk_frozen BK297.out 1;have hfz7_2:=blk_frozen BK297.out 2;have hcz8_0:=bc BK298.out 0;have hcz8_1:=bc BK298.out 1;have hcz8_2:=bc BK298.out 2;have hfz8_0:=blk_frozen BK298.out 0;have hfz8_1:=blk_frozen BK298.out 1;have hfz8_2:=blk_frozen BK298.out 2))
  go_ret
  exact⟨fin1,bl⟩
 ·have c3b0:(a0_1 == a1_1)=false:=beq_eq_false_iff_ne.mpr c3
  have c3b1:(a0_1 != a1_1)=true:=bne_iff_ne.mpr c3
  obtain rfl:=Option.some.inj H
  go_enter Try.func66,Try.ntmps66
  go_wp2_with (first|((with_reducible refine gate_dst (N:=2) rfl ?_);refine box_event ?hg (N:=2) ?hd (cs := #[.int .i64 a0_0,.int .i64 a0_1,.int .i64 a0_2]) (t:=62) ?hr ?_;(case hd=>rfl);(case hg=>rfl);(case hr=>first|(go_simp;done)|(go_simp;rfl));intro gb297 hg w9 hbox hb;have BK297:=am (hbox);have GW297:=am (ge_ bl hg);have GE297:=am (ge_ bl hg);replace HB:=am (below_step bl hb);clear hb hbox hg)|((with_reducible refine gate_dst (N:=3) rfl ?_);refine box_event ?hg (N:=3) ?hd (cs := #[.int .i64 a1_0,.int .i64 a1_1,.int .i64 a1_2]) (t:=62) ?hr ?_;(case hd=>rfl);(case hg=>rfl);(case hr=>first|(go_simp;done)|(go_simp;rfl));intro gb298 hg w10 hbox hb;have BK298:=am (hbox);have GW298:=am (ge_ bl hg);have GE298:=am (ge_ bl hg);replace HB:=am (below_step bl hb);have NB297_298:=am (nl (bup BK297.out) hg);have NB298_297:=am (ng (bup BK297.out) hg);replace BK297:=am (blk_below (bup BK297.out) hb);clear hb hbox hg;have hnb11:=NB297_298.out;have hnc11:=NB298_297.out;have hcz12_0:=bc BK297.out 0;have hcz12_1:=bc BK297.out 1;have hcz12_2:=bc BK297.out 2;have hfz12_0:=blk_frozen BK297.out 0;have hfz12_1:=blk_frozen BK297.out 1;have hfz12_2:=blk_frozen BK297.out 2;have hcz13_0:=bc BK298.out 0;have hcz13_1:=bc BK298.out 1;have hcz13_2:=bc BK298.out 2;have hfz13_0:=blk_frozen BK298.out 0;have hfz13_1:=blk_frozen BK298.out 1;have hfz13_2:=blk_frozen BK298.out 2))
  go_ret
  exact⟨fin1,bl⟩

def impl_noteEnd.f (a0_0:Int) (a0_1:Int) (a0_2:Int):Option (Int):=some (wrap64 (a0_1+a0_2))
set_option maxHeartbeats 8000000 in
set_option maxRecDepth 100000 in
theorem impl_noteEnd.calls (a0_0:Int) (a0_1:Int) (a0_2:Int) (r:Int) (w:World) (h:impl_noteEnd.f a0_0 a0_1 a0_2=some r) :
  Calls Try.prog 67 #[.agg #[.int .i64 a0_0,.int .i64 a0_1,.int .i64 a0_2]] w fun e w'=>e = .returned (.int .i64 r)∧Below w.heap.size w w':=by
 have hu62:=Try.underlying62
 have HB:=am (Below.refl w.heap.size w)
 have H:(some (wrap64 (a0_1+a0_2)))=some r:=h
 clear h
 obtain rfl:=Option.some.inj H
 go_enter Try.func67,Try.ntmps67
 go_wp2_with (first|((with_reducible refine gate_dst (N:=1) rfl ?_);refine box_event ?hg (N:=1) ?hd (cs := #[.int .i64 a0_0,.int .i64 a0_1,.int .i64 a0_2]) (t:=62) ?hr ?_;(case hd=>rfl);(case hg=>rfl);(case hr=>first|(go_simp;done)|(go_simp;rfl));intro gb299 hg w2 hbox hb;have BK299:=am (hbox);have GW299:=am (ge_ bl hg);have GE299:=am (ge_ bl hg);replace HB:=am (below_step bl hb);clear hb hbox hg;have hcz3_0:=bc BK299.out 0;have hcz3_1:=bc BK299.out 1;have hcz3_2:=bc BK299.out 2;have hfz3_0:=blk_frozen BK299.out 0;have hfz3_1:=blk_frozen BK299.out 1;have hfz3_2:=blk_frozen BK299.out 2))
 go_ret
 exact⟨fin1,bl⟩

end Go.Proofs.Ytipklbjbgbbgpaa.PFnExactLeastTolerance
