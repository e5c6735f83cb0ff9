/- Walks of functions that FnExactShiftToPass reaches. No conditions beyond the arguments' being read. -/
import Derived.Test.YtipklbjbgbbgpaaGreatSShiftToPass0
import Derived.Test.YtipklbjbgbbgpaaGreatSShiftToPass8
import Derived.Test.YtipklbjbgbbgpaaGreatSShiftToPass10
import Derived.Test.YtipklbjbgbbgpaaGreatSShiftToPass11
import Derived.Test.YtipklbjbgbbgpaaGreatSShiftToPass13
namespace Go.Proofs.YtipklbjbgbbgpaaGreat.PFnExactShiftToPass
open Go.RowKit Go.Proofs.YtipklbjbgbbgpaaGreatW.PrintWords Go.Proofs.YtipklbjbgbbgpaaGreatW.PrintLast Go.Proofs.YtipklbjbgbbgpaaGreatW.PrintMore
attribute [local go_sem] max2_int min2_int max_two min_two max_three min_three max_four min_four
set_option linter.unusedVariables false
set_option linter.unusedSimpArgs false

def impl_canMatch.f (k:Nat) (l0_0:List Int) (a0_1:Int) (l1:List (S55)) (l2:List (S59)):Option (Bool):=(impl_IsInstrument.f k l0_0 a0_1).bind fun t338=>(if t338=true then((impl_IsScore.f k l1).bind fun t339=>(if t339=true then((impl_IsSheet.f k l2).bind fun t340=>(some t340)) else(some false))) else(some false))
set_option maxHeartbeats 8000000 in
set_option maxRecDepth 100000 in
theorem impl_canMatch.calls (k:Nat) (A0_0:Option Addr) (c0_0:Nat) (l0_0:List Int) (a0_1:Int) (A1:Option Addr) (c1:Nat) (l1:List (S55)) (A2:Option Addr) (c2:Nat) (l2:List (S59)) (r:Bool) (w:World) (hr0_0:Kd.C (Kd.int .i64) w A0_0 l0_0.length l0_0) (hc0_0:l0_0.length≤c0_0) (hr1:Kd.C k55 w A1 l1.length l1) (hc1:l1.length≤c1) (hr2:Kd.C k59 w A2 l2.length l2) (hc2:l2.length≤c2) (h:impl_canMatch.f k l0_0 a0_1 l1 l2=some r) :
  Calls Tryz.prog 24 #[.agg #[.slice A0_0 l0_0.length c0_0,.int .i64 a0_1],.slice A1 l1.length c1,.slice A2 l2.length c2] w fun e w'=>e = .returned (.bool r)∧Below w.heap.size w w':=by
 have hu34:=Tryz.underlying34
 have HR0_0:=am hr0_0
 have HC0_0:=am hc0_0
 clear hr0_0 hc0_0
 have HR1:=am hr1
 have HC1:=am hc1
 clear hr1 hc1
 have HR2:=am hr2
 have HC2:=am hc2
 clear hr2 hc2
 have HB:=am (Below.refl w.heap.size w)
 have H:((impl_IsInstrument.f k l0_0 a0_1).bind fun t338=>(if t338=true then((impl_IsScore.f k l1).bind fun t339=>(if t339=true then((impl_IsSheet.f k l2).bind fun t340=>(some t340)) else(some false))) else(some false)))=some r:=h
 clear h
 obtain⟨t338,A4,H⟩:=bnd H
 by_cases c5:t338=true
 ·subst c5
  replace H:=(if_pos rfl).symm.trans H
  obtain⟨t339,A6,H⟩:=bnd H
  by_cases c7:t339=true
  ·subst c7
   replace H:=(if_pos rfl).symm.trans H
   obtain⟨t340,A8,H⟩:=bnd H
   obtain rfl:=Option.some.inj H
   go_enter Tryz.func24,Tryz.ntmps24
   go_wp2_with (first|((with_reducible refine gate_dst (N:=3) rfl ?_);refine box_event ?hg (N:=3) ?hd (cs := #[.slice A0_0 l0_0.length c0_0,.int .i64 a0_1]) (t:=34) ?hr ?_;(case hd=>rfl);(case hg=>rfl);(case hr=>first|(go_simp;done)|(go_simp;rfl));intro gb337 hg w9 hbox hb;have BK337:=am (hbox);have GW337:=am (ge_ bl hg);have GE337:=am (ge_ bl hg);replace HB:=am (below_step bl hb);clear hb hbox hg;have hcz10_0:=bc BK337.out 0;have hcz10_1:=bc BK337.out 1;have hfz10_0:=blk_frozen BK337.out 0;have hfz10_1:=blk_frozen BK337.out 1)|((with_reducible refine gate_callee (f:=41) rfl ?_);refine goesL_ (some 8) rfl rfl Tryz.func41 (by kernel_rfl) rfl #[.agg #[.slice A0_0 l0_0.length c0_0,.int .i64 a0_1]] rfl tl ?_;(with_reducible refine(impl_IsInstrument.calls k _ _ l0_0 a0_1 true _ ?side1 ?side2 A4.out).mono ?_);(case side1=>exact cup (Kd.C_below HR0_0.out HB.out));(case side2=>exact HC0_0.out);rintro e w11 ⟨rfl,hb⟩;refine⟨_,rfl,?_⟩;replace BK337:=am (blk_below (bup BK337.out) hb);replace HB:=am (below_step bl hb);(try clear hb))|(go_at_call 42;(with_reducible refine(impl_IsScore.calls k _ _ l1 true _ ?side1 ?side2 A6.out).mono ?_);(case side1=>exact cup (Kd.C_below HR1.out HB.out));(case side2=>exact HC1.out);rintro e w12 ⟨rfl,hb⟩;replace BK337:=am (blk_below (bup BK337.out) hb);replace HB:=am (below_step bl hb);(try clear hb))|(go_at_call 43;(with_reducible refine(impl_IsSheet.calls k _ _ l2 t340 _ ?side1 ?side2 A8.out).mono ?_);(case side1=>exact cup (Kd.C_below HR2.out HB.out));(case side2=>exact HC2.out);rintro e w13 ⟨rfl,hb⟩;replace BK337:=am (blk_below (bup BK337.out) hb);replace HB:=am (below_step bl hb);(try clear hb)))
   go_ret
   exact⟨fin1,bl⟩
  ·replace c7:=Bool.eq_false_iff.mpr c7
   subst c7
   replace H:=(if_neg Bool.false_ne_true).symm.trans H
   obtain rfl:=Option.some.inj H
   go_enter Tryz.func24,Tryz.ntmps24
   go_wp2_with (first|((with_reducible refine gate_dst (N:=3) rfl ?_);refine box_event ?hg (N:=3) ?hd (cs := #[.slice A0_0 l0_0.length c0_0,.int .i64 a0_1]) (t:=34) ?hr ?_;(case hd=>rfl);(case hg=>rfl);(case hr=>first|(go_simp;done)|(go_simp;rfl));intro gb337 hg w14 hbox hb;have BK337:=am (hbox);have GW337:=am (ge_ bl hg);have GE337:=am (ge_ bl hg);replace HB:=am (below_step bl hb);clear hb hbox hg;have hcz15_0:=bc BK337.out 0;have hcz15_1:=bc BK337.out 1;have hfz15_0:=blk_frozen BK337.out 0;have hfz15_1:=blk_frozen BK337.out 1)|((with_reducible refine gate_callee (f:=41) rfl ?_);refine goesL_ (some 8) rfl rfl Tryz.func41 (by kernel_rfl) rfl #[.agg #[.slice A0_0 l0_0.length c0_0,.int .i64 a0_1]] rfl tl ?_;(with_reducible refine(impl_IsInstrument.calls k _ _ l0_0 a0_1 true _ ?side1 ?side2 A4.out).mono ?_);(case side1=>exact cup (Kd.C_below HR0_0.out HB.out));(case side2=>exact HC0_0.out);rintro e w16 ⟨rfl,hb⟩;refine⟨_,rfl,?_⟩;replace BK337:=am (blk_below (bup BK337.out) hb);replace HB:=am (below_step bl hb);(try clear hb))|(go_at_call 42;(with_reducible refine(impl_IsScore.calls k _ _ l1 false _ ?side1 ?side2 A6.out).mono ?_);(case side1=>exact cup (Kd.C_below HR1.out HB.out));(case side2=>exact HC1.out);rintro e w17 ⟨rfl,hb⟩;replace BK337:=am (blk_below (bup BK337.out) hb);replace HB:=am (below_step bl hb);(try clear hb)))
   go_ret
   exact⟨fin1,bl⟩
 ·replace c5:=Bool.eq_false_iff.mpr c5
  subst c5
  replace H:=(if_neg Bool.false_ne_true).symm.trans H
  obtain rfl:=Option.some.inj H
  go_enter Tryz.func24,Tryz.ntmps24
  go_wp2_with (first|((with_reducible refine gate_dst (N:=3) rfl ?_);refine box_event ?hg (N:=3) ?hd (cs := #[.slice A0_0 l0_0.length c0_0,.int .i64 a0_1]) (t:=34) ?hr ?_;(case hd=>rfl);(case hg=>rfl);(case hr=>first|(go_simp;done)|(go_simp;rfl));intro gb337 hg w18 hbox hb;have BK337:=am (hbox);have GW337:=am (ge_ bl hg);have GE337:=am (ge_ bl hg);replace HB:=am (below_step bl hb);clear hb hbox hg;have hcz19_0:=bc BK337.out 0;have hcz19_1:=bc BK337.out 1;have hfz19_0:=blk_frozen BK337.out 0;have hfz19_1:=blk_frozen BK337.out 1)|((with_reducible refine gate_callee (f:=41) rfl ?_);refine goesL_ (some 8) rfl rfl Tryz.func41 (by kernel_rfl) rfl #[.agg #[.slice A0_0 l0_0.length c0_0,.int .i64 a0_1]] rfl tl ?_;(with_reducible refine(impl_IsInstrument.calls k _ _ l0_0 a0_1 false _ ?side1 ?side2 A4.out).mono ?_);(case side1=>exact cup (Kd.C_below HR0_0.out HB.out));(case side2=>exact HC0_0.out);rintro e w20 ⟨rfl,hb⟩;refine⟨_,rfl,?_⟩;replace BK337:=am (blk_below (bup BK337.out) hb);replace HB:=am (below_step bl hb);(try clear hb)))
  go_ret
  exact⟨fin1,bl⟩

def impl_IsAction.f (a0_0:Int) (a0_1:Int) (a0_2:Int):Option (Bool):=if a0_0≥0 then(if a0_0≤40 then(if a0_1≥0 then(if a0_1≤40 then(if a0_2≥0 then(some (decide (a0_2≤40))) else(some false)) else(some false)) else(some false)) else(some false)) else(some false)
set_option maxHeartbeats 8000000 in
set_option maxRecDepth 100000 in
theorem impl_IsAction.calls (a0_0:Int) (a0_1:Int) (a0_2:Int) (r:Bool) (w:World) (h:impl_IsAction.f a0_0 a0_1 a0_2=some r) :
  Calls Tryz.prog 25 #[.agg #[.int .i64 a0_0,.int .i64 a0_1,.int .i64 a0_2]] w fun e w'=>e = .returned (.bool r)∧Below w.heap.size w w':=by
 have hu40:=Tryz.underlying40
 have HB:=am (Below.refl w.heap.size w)
 have H:(if a0_0≥0 then(if a0_0≤40 then(if a0_1≥0 then(if a0_1≤40 then(if a0_2≥0 then(some (decide (a0_2≤40))) else(some false)) else(some false)) else(some false)) else(some false)) else(some false))=some r:=h
 clear h
 rcases itc H with⟨c2,H⟩|⟨c2,H⟩
 ·have c2b0:decide (0≤a0_0)=true:=decide_eq_true c2
  clear c2
  rcases itc H with⟨c3,H⟩|⟨c3,H⟩
  ·have c3b0:=decide_eq_true c3
   clear c3
   rcases itc H with⟨c4,H⟩|⟨c4,H⟩
   ·have c4b0:decide (0≤a0_1)=true:=decide_eq_true c4
    clear c4
    rcases itc H with⟨c5,H⟩|⟨c5,H⟩
    ·have c5b0:=decide_eq_true c5
     clear c5
     rcases itc H with⟨c6,H⟩|⟨c6,H⟩
     ·have c6b0:decide (0≤a0_2)=true:=decide_eq_true c6
      clear c6
      obtain rfl:=Option.some.inj H
      go_enter Tryz.func25,Tryz.ntmps25
      go_wp2_with (first|((with_reducible refine gate_dst (N:=1) rfl ?_);refine box_event ?hg (N:=1) ?hd (cs := #[.int .i64 a0_0,.int .i64 a0_1,.int .i64 a0_2]) (t:=40) ?hr ?_;(case hd=>rfl);(case hg=>rfl);(case hr=>first|(go_simp;done)|(go_simp;rfl));intro gb341 hg w7 hbox hb;have BK341:=am (hbox);have GW341:=am (ge_ bl hg);have GE341:=am (ge_ bl hg);replace HB:=am (below_step bl hb);clear hb hbox hg;have hcz8_0:=bc BK341.out 0;have hcz8_1:=bc BK341.out 1;have hcz8_2:=bc BK341.out 2;have hfz8_0:=blk_frozen BK341.out 0;have hfz8_1:=blk_frozen BK341.out 1;have hfz8_2:=blk_frozen BK341.out 2))
      go_ret
      exact⟨fin1,bl⟩
     ·have c6b0:decide (0≤a0_2)=false:=decide_eq_false c6
      clear c6
      obtain rfl:=Option.some.inj H
      go_enter Tryz.func25,Tryz.ntmps25
      go_wp2_with (first|((with_reducible refine gate_dst (N:=1) rfl ?_);refine box_event ?hg (N:=1) ?hd (cs := #[.int .i64 a0_0,.int .i64 a0_1,.int .i64 a0_2]) (t:=40) ?hr ?_;(case hd=>rfl);(case hg=>rfl);(case hr=>first|(go_simp;done)|(go_simp;rfl));intro gb341 hg w9 hbox hb;have BK341:=am (hbox);have GW341:=am (ge_ bl hg);have GE341:=am (ge_ bl hg);replace HB:=am (below_step bl hb);clear hb hbox hg;have hcz10_0:=bc BK341.out 0;have hcz10_1:=bc BK341.out 1;have hcz10_2:=bc BK341.out 2;have hfz10_0:=blk_frozen BK341.out 0;have hfz10_1:=blk_frozen BK341.out 1;have hfz10_2:=blk_frozen BK341.out 2))
      go_ret
      exact⟨fin1,bl⟩
    ·have c5b0:=decide_eq_false c5
     clear c5
     obtain rfl:=Option.some.inj H
     go_enter Tryz.func25,Tryz.ntmps25
     go_wp2_with (first|((with_reducible refine gate_dst (N:=1) rfl ?_);refine box_event ?hg (N:=1) ?hd (cs := #[.int .i64 a0_0,.int .i64 a0_1,.int .i64 a0_2]) (t:=40) ?hr ?_;(case hd=>rfl);(case hg=>rfl);(case hr=>first|(go_simp;done)|(go_simp;rfl));intro gb341 hg w11 hbox hb;have BK341:=am (hbox);have GW341:=am (ge_ bl hg);have GE341:=am (ge_ bl hg);replace HB:=am (below_step bl hb);clear hb hbox hg;have hcz12_0:=bc BK341.out 0;have hcz12_1:=bc BK341.out 1;have hcz12_2:=bc BK341.out 2;have hfz12_0:=blk_frozen BK341.out 0;have hfz12_1:=blk_frozen BK341.out 1;have hfz12_2:=blk_frozen BK341.out 2))
     go_ret
     exact⟨fin1,bl⟩
   ·have c4b0:decide (0≤a0_1)=false:=decide_eq_false c4
    clear c4
    obtain rfl:=Option.some.inj H
    go_enter Tryz.func25,Tryz.ntmps25
    go_wp2_with (first|((with_reducible refine gate_dst (N:=1) rfl ?_);refine box_event ?hg (N:=1) ?hd (cs := #[.int .i64 a0_0,.int .i64 a0_1,.int .i64 a0_2]) (t:=40) ?hr ?_;(case hd=>rfl);(case hg=>rfl);(case hr=>first|(go_simp;done)|(go_simp;rfl));intro gb341 hg w13 hbox hb;have BK341:=am (hbox);have GW341:=am (ge_ bl hg);have GE341:=am (ge_ bl hg);replace HB:=am (below_step bl hb);clear hb hbox hg;have hcz14_0:=bc BK341.out 0;have hcz14_1:=bc BK341.out 1;have hcz14_2:=bc BK341.out 2;have hfz14_0:=blk_frozen BK341.out 0;have hfz14_1:=blk_frozen BK341.out 1;have hfz14_2:=blk_frozen BK341.out 2))
    go_ret
    exact⟨fin1,bl⟩
  ·have c3b0:=decide_eq_false c3
   clear c3
   obtain rfl:=Option.some.inj H
   go_enter Tryz.func25,Tryz.ntmps25
   go_wp2_with (first|((with_reducible refine gate_dst (N:=1) rfl ?_);refine box_event ?hg (N:=1) ?hd (cs := #[.int .i64 a0_0,.int .i64 a0_1,.int .i64 a0_2]) (t:=40) ?hr ?_;(case hd=>rfl);(case hg=>rfl);(case hr=>first|(go_simp;done)|(go_simp;rfl));intro gb341 hg w15 hbox hb;have BK341:=am (hbox);have GW341:=am (ge_ bl hg);have GE341:=am (ge_ bl hg);replace HB:=am (below_step bl hb);clear hb hbox hg;have hcz16_0:=bc BK341.out 0;have hcz16_1:=bc BK341.out 1;have hcz16_2:=bc BK341.out 2;have hfz16_0:=blk_frozen BK341.out 0;have hfz16_1:=blk_frozen BK341.out 1;have hfz16_2:=blk_frozen BK341.out 2))
   go_ret
   exact⟨fin1,bl⟩
 ·have c2b0:decide (0≤a0_0)=false:=decide_eq_false c2
  clear c2
  obtain rfl:=Option.some.inj H
  go_enter Tryz.func25,Tryz.ntmps25
  go_wp2_with (first|((with_reducible refine gate_dst (N:=1) rfl ?_);refine box_event ?hg (N:=1) ?hd (cs := #[.int .i64 a0_0,.int .i64 a0_1,.int .i64 a0_2]) (t:=40) ?hr ?_;(case hd=>rfl);(case hg=>rfl);(case hr=>first|(go_simp;done)|(go_simp;rfl));intro gb341 hg w17 hbox hb;have BK341:=am (hbox);have GW341:=am (ge_ bl hg);have GE341:=am (ge_ bl hg);replace HB:=am (below_step bl hb);clear hb hbox hg;have hcz18_0:=bc BK341.out 0;have hcz18_1:=bc BK341.out 1;have hcz18_2:=bc BK341.out 2;have hfz18_0:=blk_frozen BK341.out 0;have hfz18_1:=blk_frozen BK341.out 1;have hfz18_2:=blk_frozen BK341.out 2))
  go_ret
  exact⟨fin1,bl⟩

def impl_isTolerance.f (a0:Int):Option (Bool):=if a0≥0 then(some (decide (a0≤50))) else(some false)
set_option maxHeartbeats 8000000 in
set_option maxRecDepth 100000 in
theorem impl_isTolerance.calls (a0:Int) (r:Bool) (w:World) (h:impl_isTolerance.f a0=some r) :
  Calls Tryz.prog 26 #[.int .i64 a0] w fun e w'=>e = .returned (.bool r)∧Drawn0 w w':=by
 have H:(if a0≥0 then(some (decide (a0≤50))) else(some false))=some r:=h
 clear h
 rcases itc H with⟨c2,H⟩|⟨c2,H⟩
 ·have c2b0:decide (0≤a0)=true:=decide_eq_true c2
  clear c2
  obtain rfl:=Option.some.inj H
  go_enter Tryz.func26,Tryz.ntmps26
  go_wp2
  go_ret
  exact⟨by first|rfl|(simp;done)|(simp [*];done),by repeat(first|exact Drawn0.refl _|apply Drawn0.step)⟩
 ·have c2b0:decide (0≤a0)=false:=decide_eq_false c2
  clear c2
  obtain rfl:=Option.some.inj H
  go_enter Tryz.func26,Tryz.ntmps26
  go_wp2
  go_ret
  exact⟨by first|rfl|(simp;done)|(simp [*];done),by repeat(first|exact Drawn0.refl _|apply Drawn0.step)⟩

def impl_Hole.f (l0:List (S59)):Option (List (S59)):=if l0.length<5864062014806 then some l0 else none
set_option maxHeartbeats 8000000 in
set_option maxRecDepth 100000 in
theorem impl_Hole.calls (A0:Option Addr) (c0:Nat) (l0:List (S59)) (r:List (S59)) (w:World) (hr0:Kd.C k59 w A0 l0.length l0) (hc0:l0.length≤c0) (h:impl_Hole.f l0=some r) :
  Calls Tryz.prog 44 #[.slice A0 l0.length c0] w fun e w'=>∃ v0_:Value,e = .returned (v0_)∧Kd.R k59 59 w' w.heap.size (fun _=>True) v0_ r∧Below w.heap.size w w':=by
 have hlt:l0.length<5864062014806:=by
  by_cases c:l0.length<5864062014806
  ·exact c
  ·rw[impl_Hole.f,if_neg c] at h;cases h
 rw[impl_Hole.f,if_pos hlt] at h
 obtain rfl:=Option.some.inj h
 clear h
 have HL:=am hlt
 have HR0:=am hr0
 have HB:=am (Below.refl w.heap.size w)
 have hq:∀(w:World) (a:Option Addr) (l c:Nat),(binOp .eql 38 (.slice a l c) (.slice none 0 0)).run Tryz.prog w = .ok (.bool a.isNone) w:=fun w a l c=>Go.Lib.run_eql_slice_nil w _ _ a l c _ _ Tryz.underlying38
 rcases A0 with _|ad
 ·have h0:l0=[]:=by
   rcases Nat.eq_zero_or_pos l0.length with h0|h0
   ·exact List.eq_nil_of_length_eq_zero h0
   ·obtain⟨ad,h,_⟩:=hr0.2.2 h0
    cases h
  subst h0
  clear hr0 hlt hc0
  go_enter Tryz.func44,Tryz.ntmps44
  go_wp2
  go_ret
  exact⟨_,rfl,Kd.R_nil _ _ _ _ _,HB.out⟩
 ·clear hr0 hlt hc0
  go_enter Tryz.func44,Tryz.ntmps44
  go_wp2_with (first|((with_reducible refine gate_dst (N:=5) rfl ?_);refine Kd.R_lit k59 _ 59 ?hg (N:=5) ?hd (xs:=([]:List (S59))) (inner:=[]) (ok:=fun _=>True) (okp:=fun _=>True) ?hr ?hp (fun _ hk=>hk) trivial (Below.refl _ _) (Nat.le_refl _) (by simp) ?_;(case hd=>rfl);(case hg=>rfl);(case hr=>first|(go_simp;done)|(go_simp;rfl));(case hp=>exact(Reps.none _ _));intro v115 w15 ho16 hb hg_ hnew_;clear hg_ hnew_;have HO116:=am (Kd.R_lower ho16 (below_size HB.out));replace HB:=am (below_step HB.out hb);clear hb ho16)|((with_reducible refine gate_builtin (b := .append) (xs := #[.tmp 5,.tmp 6]) rfl ?_);at_builtin;refine Kd.R_append_rows k59 (w0:=w) w.heap.size rfl (.tmp 5) (.tmp 6) 38 59 (.agg #[(.int .i64 0),(.int .i64 0),(.int .i64 0)]) 24 rfl Tryz.underlying38 info59 rfl (by decide) (by omega) v115 [] l0 _ _ _ (fun _=>True) (fun _=>False) rfl rfl ?aO ?aR (fun _ _ h=>h) (fun _ h=>h.elim) ?aF ?aB ?aS ?aL ?_;(case aR=>exact(Kd.C_below HR0.out HB.out));(case aB=>exact HB.out);(case aF=>exact(fun _ _=>trivial));(case aO=>exact HO116.out);(case aS=>exact(below_size HB.out));(case aL=>have:=HL.out;simp only[List.length_nil];omega);intro v118 w17 ho hb hg hat;replace HB:=am (hb);have HO119:=am (ho);clear HO116 ho hb hg hat))
  go_ret
  exact⟨_,rfl,HO119.out,HB.out⟩

namespace stab
open Go.Sort
instance:Inhabited S59:=⟨z59⟩
def ltH (x y:S59):Bool:=decide (x.f1<y.f1∨x.f1=y.f1∧x.f0<y.f0)
def encH (x:S59):List Value:=[.int .i64 x.f0,.int .i64 x.f1,.int .i64 x.f2]
theorem swoH:SWO ltH where
 irrefl:=fun x=>by simp [ltH]
 trans:=fun x y z h1 h2=>by simp only[ltH,decide_eq_true_eq] at *;omega
 ntrans:=fun x y z h1 h2=>by simp only[ltH,decide_eq_false_iff_not] at *;omega
theorem holeLess.calls (x y:S59) (w:World) :
  Calls Tryz.prog 62 #[.agg #[.int .i64 x.f0,.int .i64 x.f1,.int .i64 x.f2],.agg #[.int .i64 y.f0,.int .i64 y.f1,.int .i64 y.f2]] w fun e w'=>e = .returned (.bool (ltH x y))∧∃ os,w'=grow w os:=by
 have hu:=Tryz.underlying59
 by_cases h:x.f1=y.f1
 ·have h1:decide (x.f1=y.f1)=true:=decide_eq_true h
  have h2:(x.f1 == y.f1)=true:=by simp [h]
  have h3:(x.f1 != y.f1)=false:=by simp [h]
  have hr:decide (x.f0<y.f0)=ltH x y:=decide_eq_decide.mpr ⟨fun q => .inr ⟨h,q⟩,fun q=>by omega⟩
  go_enter Tryz.func62,Tryz.ntmps62
  go_wp2
  go_ret
  exact⟨by rw[← hr];rfl,_,by rw[alloc_eq_grow,alloc_eq_grow,grow_grow]⟩
 ·have h1:decide (x.f1=y.f1)=false:=decide_eq_false h
  have h2:(x.f1 == y.f1)=false:=by simp [h]
  have h3:(x.f1 != y.f1)=true:=by simp [h]
  have hr:decide (x.f1<y.f1)=ltH x y:=decide_eq_decide.mpr ⟨fun q => .inl q,fun q=>by omega⟩
  go_enter Tryz.func62,Tryz.ntmps62
  go_wp2
  go_ret
  exact⟨by rw[← hr];rfl,_,by rw[alloc_eq_grow,alloc_eq_grow,grow_grow]⟩
def lessT:Bool×List (List Nat×List Nat):=(true,[([],[]),([],[]),([0,1],[0,1]),([2],[2]),([],[]),([],[]),([4,5],[4,5]),([6],[6]),([3,7],[3,7]),([8,8,0,1,2,3,4,5,6,7,8],[8])])
def lessB:List Nat:=[0,0,3,7,0,0,48,112,255,511]
theorem less_tab:rtab .any (opsOf Tryz.f64 1)=lessT:=by kernel_rfl
theorem less_bits:waitsOk lessT.2 lessB=true:=by kernel_rfl
set_option maxHeartbeats 4000000 in
set_option maxRecDepth 100000 in
theorem less.calls (blk c Bs size:Nat) (W:World) (G:Nat→S59) (hs:W.cell? ⟨Bs,0,none⟩=some (.slice (some ⟨blk,0,none⟩) size c))
  (hc:∀ t,t<size→W.cell? ⟨blk,t*3,none⟩=some (.int .i64 (G t).f0)∧W.cell? ⟨blk,t*3+1,none⟩=some (.int .i64 (G t).f1)∧W.cell? ⟨blk,t*3+2,none⟩=some (.int .i64 (G t).f2)) (i j:Nat) (hi:i<size) (hj:j<size) :
  Calls Tryz.prog 64 #[.int .i64 i,.int .i64 j,.pointer (some ⟨Bs,0,none⟩)] W fun e w'=>e = .returned (.bool (ltH (G i) (G j)))∧∃ m os,w'=grow (Go.Sort.ahead W m) os:=by
 have hu:=Tryz.underlying59
 obtain⟨a0,a1,a2⟩:=hc i hi
 obtain⟨b0,b1,b2⟩:=hc j hj
 clear hc
 have p1:(0≤(i:Int))=True:=eq_true (by omega)
 have q1:((i:Int)<(size:Int))=True:=eq_true (by omega)
 have p2:(0≤(j:Int))=True:=eq_true (by omega)
 have q2:((j:Int)<(size:Int))=True:=eq_true (by omega)
 go_enter Tryz.func64,Tryz.ntmps64
 go_wp2
 refine start_ (n:=10) (S:=fun w'=>w'.cell? ⟨Bs,0,none⟩=some (.slice (some ⟨blk,0,none⟩) size c)∧w'.cell? ⟨blk,i*3,none⟩=some (.int .i64 (G i).f0)∧w'.cell? ⟨blk,i*3+1,none⟩=some (.int .i64 (G i).f1)∧w'.cell? ⟨blk,i*3+2,none⟩=some (.int .i64 (G i).f2)∧w'.cell? ⟨blk,j*3,none⟩=some (.int .i64 (G j).f0)∧w'.cell? ⟨blk,j*3+1,none⟩=some (.int .i64 (G j).f1)∧w'.cell? ⟨blk,j*3+2,none⟩=some (.int .i64 (G j).f2)) (ds:=[]) (fl 0 10) (by kernel_rfl) rfl rfl ⟨hs,a0,a1,a2,b0,b1,b2⟩ (fun hHeld=>?_)
 refine with_tabW less_tab less_bits (fun HT_ HW_=>?_)
 obtain⟨w1,hw1⟩:∃ w1,w1=W.drew:=⟨_,rfl⟩
 rw[← hw1] at hHeld ⊢
 refine ta HT_.out HW_.out 0 (some 6) (fl 1 10) hHeld rfl (by rintro w' ⟨s0,s1,s2,s3,s4,s5,s6⟩;go_simp;with_reducible rfl) (h:=?_)
 refine pu HT_.out 1 (some 7) (fl 2 10) (h:=?_)
 refine pu HT_.out 2 (some 8) (fl 3 10) (h:=?_)
 refine ta HT_.out HW_.out 3 (some 9) (fl 4 10) hHeld rfl (by rintro w' ⟨s0,s1,s2,s3,s4,s5,s6⟩;go_simp;with_reducible rfl) (h:=?_)
 refine ta HT_.out HW_.out 4 (some 10) (fl 5 10) hHeld rfl (by rintro w' ⟨s0,s1,s2,s3,s4,s5,s6⟩;go_simp;with_reducible rfl) (h:=?_)
 refine pu HT_.out 5 (some 11) (fl 6 10) (h:=?_)
 refine pu HT_.out 6 (some 12) (fl 7 10) (h:=?_)
 refine ta HT_.out HW_.out 7 (some 13) (fl 8 10) hHeld rfl (by rintro w' ⟨s0,s1,s2,s3,s4,s5,s6⟩;go_simp;with_reducible rfl) (h:=?_)
 refine one_ (i:=8) (N:=some 14) (fl 9 10) rfl rfl (one_of HT_.out (by kernel_rfl)) (by decide) (fun K hK=>?_)
 refine goes_ Tryz.func62 (by kernel_rfl) rfl #[.agg #[.int .i64 (G i).f0,.int .i64 (G i).f1,.int .i64 (G i).f2],.agg #[.int .i64 (G j).f0,.int .i64 (G j).f1,.int .i64 (G j).f2]] (by rfl) rfl rfl (by(try simp only[List.map_toArray,List.map_cons,List.map_nil]);first|done|rfl) ?_
 refine(holeLess.calls (G i) (G j) _).mono ?_
 rintro e w18 ⟨rfl,os,rfl⟩
 refine⟨_,rfl,?_⟩
 obtain⟨g0,g1,g2,g3,g4,g5,g6⟩:=hHeld
 have kp:∀(a:Addr) (v:Value),w1.cell? a=some v→(grow w1 os).cell? a=some v:=fun a v h=>by
  rw[cell?_grow _ _ _ (World.block_lt_of_cell? w1 _ h)];exact h
 refine hK.out _ _ ⟨kp _ _ g0,kp _ _ g1,kp _ _ g2,kp _ _ g3,kp _ _ g4,kp _ _ g5,kp _ _ g6⟩ (fun hHeld=>?_)
 clear hK K
 refine norm_ (a':=?_) ?_ ?_
 rotate_left
 ·show Act.put _ (some 14) _=_
  simp only[Act.put,List.setIfInBounds_toArray,List.set_cons_zero,List.set_cons_succ,i64_w,i32_w]
  rfl
 refine pu HT_.out 9 (some 5) (fl 10 10) (h:=?_)
 refine done_ (done_of HT_.out (by kernel_rfl)) ?_
 go_wp2
 go_ret
 exact⟨rfl,1,os,by rw[hw1];rfl⟩
end stab
namespace shs
open Go.Sort Go.Shelf Go.Lib Go.RowKit Go.Proofs.YtipklbjbgbbgpaaGreat.PStab.stab stab
shelf_lay LaysGt.n8 Ggt 8 at Tryz as lay8
noncomputable def siT:TypeInfo:=(Tryz.prog.info? 38).get (by kernel_rfl)
noncomputable def siE:TypeInfo:=(Tryz.prog.info? 59).get (by kernel_rfl)
theorem siK (n:Nat) (h2:2≤n):Lib.swapperK n siE 25=9:=by
 have a:siE.hasPointers=false:=by kernel_rfl
 have b:siE.bytes=24:=by kernel_rfl
 have c:(n == 0)=false:=by simp;omega
 have d:(n == 1)=false:=by simp;omega
 simp [Lib.swapperK,a,b,c,d]
theorem holdsH {W:World} {g:Nat} {dk:Array S59} (h:HoldsK encH 3 W g 0 dk) (t:Nat) (ht:t<dk.size) :
  W.cell? ⟨g,t*3,none⟩=some (.int .i64 dk[t]!.f0)∧W.cell? ⟨g,t*3+1,none⟩=some (.int .i64 dk[t]!.f1)∧W.cell? ⟨g,t*3+2,none⟩=some (.int .i64 dk[t]!.f2):=by
 have h0:=(h.cell (i:=t) (c:=0) ht (by omega)).1
 have h1:=(h.cell (i:=t) (c:=1) ht (by omega)).1
 have h2:=(h.cell (i:=t) (c:=2) ht (by omega)).1
 simp only[Nat.zero_add,Nat.add_zero] at h0 h1 h2
 exact⟨h0,h1,h2⟩
set_option maxHeartbeats 4000000 in
set_option maxRecDepth 100000 in
theorem sort.calls (g c Bs:Nat) (d:Array S59) (w:World) (hH:HoldsK encH 3 w g 0 d) (hg:g<w.heap.size) (hbox:w.cell? ⟨Bs,0,none⟩=some (.slice (some ⟨g,0,none⟩) d.size c)) (hne:Bs≠g) (h2:2≤d.size) (hsm:d.size<1000000) :
  Calls Tryz.prog 63 #[.iface 38 (.slice (some ⟨g,0,none⟩) d.size c),.func (.func 64) #[] #[.pointer (some ⟨Bs,0,none⟩)]] w fun e w'=>e = .returned (.tuple #[])∧∃ d',SWK encH 3 w g 0 d' w'∧PermIn 0 d.size d d'∧SortedIn ltH 0 d.size d':=by
 have main:=Any.sort_SliceStable_of_stable lay8 38 59 siT siE (by kernel_rfl) (by kernel_rfl) (by kernel_rfl) (by kernel_rfl) 25 (fun _=>by kernel_rfl) (some ⟨g,0,none⟩) d.size c (by omega) 99 (by rw[siK _ h2];kernel_rfl) (.func 64) #[] #[.pointer (some ⟨Bs,0,none⟩)] w (fun w'=>∃ d',SWK encH 3 w g 0 d' w'∧PermIn 0 d.size d d'∧SortedIn ltH 0 d.size d') ?_
 ·exact main
 have hB:sliceBound Tryz.prog 59 siE 25 (some ⟨g,0,none⟩) d.size c = #[.slice (some ⟨g,0,none⟩) d.size c,typeHandle Tryz.prog 59]:=by
  unfold sliceBound;rw[if_neg (swapperK_gt _ _ _ h2)]
 rw[hB]
 generalize hs0:stableWorld Tryz.prog _ 38 (some ⟨g,0,none⟩) d.size c w=w0
 have HS0:SWK encH 3 w g 0 d w0:=by rw[← hs0];unfold stableWorld;exact((SWK.start hH).alloc _).alloc _
 have hH0:=HS0.holds hg hH rfl
 have hBs:Bs<w.heap.size:=World.block_lt_of_cell? w _ hbox
 have D:Dat encH 3 ltH 64 #[.pointer (some ⟨Bs,0,none⟩)] 99 #[.slice (some ⟨g,0,none⟩) d.size c,typeHandle Tryz.prog 59] g 0 d.size w0:=by
  refine⟨fun _=>rfl,enters_of Tryz.func64 (by kernel_rfl) rfl,fun W' dk hS hk i j hi hj=>?_,?_,HS0.lt hg,by omega⟩
  ·have hHd:=hS.holds (HS0.lt hg) hH0 hk
   have hs:W'.cell? ⟨Bs,0,none⟩=some (.slice (some ⟨g,0,none⟩) d.size c):=by
    rw[swk_cell hS ⟨Bs,0,none⟩ (Nat.lt_of_lt_of_le hBs HS0.le) hne,swk_cell HS0 ⟨Bs,0,none⟩ hBs hne];exact hbox
   have hl:=stab.less.calls g c Bs d.size W' (fun t=>dk[t]!) hs (fun t ht=>holdsH hHd t (by omega)) i j hi hj
   refine hl.mono ?_
   rintro e w' ⟨rfl,m,os,rfl⟩
   exact⟨rfl,m,os,by unfold sortWorldK;rw[putRowK_self encH 3 _ g 0 dk (holdsK_ahead encH 3 W' m g 0 dk hHd)]⟩
  ·exact swapSwapsK_of_literal false 99 (fun args W=>run_callFunc_extern Tryz.func99 (by kernel_rfl) (by kernel_rfl) (by kernel_rfl) (e:=Extern.ReflectliteSwapper.swap false) (by kernel_rfl) args W) 59 siE (by kernel_rfl) encH 3 (fun _=>rfl) (by kernel_rfl) (fun _=>by kernel_rfl) (fun x v hv=>by simp [encH] at hv;rcases hv with rfl|rfl|rfl<;>rfl) g 0 d.size c
 refine(stable.calls swoH D hH0 rfl).mono ?_
 rintro e w' ⟨rfl,d',q1,q2,q3⟩
 exact⟨rfl,d',swk_comp HS0 hg q1 q2.1,q2,q3⟩
end shs
namespace shs
open Go.Sort Go.Shelf Go.Lib Go.RowKit Go.Proofs.YtipklbjbgbbgpaaGreat.PStab.stab stab
def keyH (x:S59):Int×Int:=(x.f1,x.f0)
def sortH (l:List S59):List S59:=l.mergeSort (fun x y=>!ltH y x)
theorem strictH {l:List S59} (h:l.Pairwise fun x y=>ltH y x=false) (hk:(l.map keyH).Nodup):l.Pairwise fun x y=>ltH x y=true:=by
 have h2:l.Pairwise fun x y=>keyH x≠keyH y:=List.pairwise_map.1 hk
 refine(h.and h2).imp (fun {x y} hx=>?_)
 obtain⟨q1,q2⟩:=hx
 simp only[ltH,decide_eq_false_iff_not,decide_eq_true_eq] at q1 ⊢
 by_cases e:x.f1=y.f1
 ·have:x.f0≠y.f0:=fun e2=>q2 (by unfold keyH;rw[e,e2])
  omega
 ·omega
theorem uniqH:∀(l1 l2:List S59),l1.Perm l2→l1.Pairwise (fun x y=>ltH x y=true)→l2.Pairwise (fun x y=>ltH x y=true)→l1=l2
 | [],l2,hp,_,_=>(List.Perm.nil_eq hp)
 | x :: xs,[],hp,_,_=>absurd hp.length_eq (by simp)
 | x :: xs,y :: ys,hp,h1,h2=>by
  by_cases e:x=y
  ·subst e
   rw[uniqH xs ys (List.Perm.cons_inv hp) (List.Pairwise.of_cons h1) (List.Pairwise.of_cons h2)]
  ·have hx:x∈ys:=by
    have:x∈y :: ys:=hp.mem_iff.1 List.mem_cons_self
    rcases List.mem_cons.1 this with h|h
    ·exact absurd h e
    ·exact h
   have hy:y∈xs:=by
    have:y∈x :: xs:=hp.mem_iff.2 List.mem_cons_self
    rcases List.mem_cons.1 this with h|h
    ·exact absurd h.symm e
    ·exact h
   have a:=(List.pairwise_cons.1 h1).1 y hy
   have b:=(List.pairwise_cons.1 h2).1 x hx
   rw[swoH.asymmA a] at b
   cases b
theorem sortH_perm (l:List S59):(sortH l).Perm l:=List.mergeSort_perm _ _
theorem sortH_sorted (l:List S59):(sortH l).Pairwise fun x y=>ltH y x=false:=by
 have h:=List.pairwise_mergeSort (le:=fun x y:S59=>!ltH y x) (fun a b c h1 h2=>by
  simp only[Bool.not_eq_true'] at *
  exact swoH.ntrans _ _ _ h2 h1) (fun a b=>by
  cases h:ltH b a with
  | false=>simp
  | true=>simp [swoH.asymmA h]) l
 exact h.imp (fun {x y} h=>by simpa using h)
theorem sortH_eq {l l2:List S59} (hp:l2.Perm l) (hk:(l.map keyH).Nodup) (hs:l2.Pairwise fun x y=>ltH y x=false):l2=sortH l :=
 uniqH _ _ (hp.trans (sortH_perm l).symm) (strictH hs ((hp.map keyH).nodup_iff.2 hk)) (strictH (sortH_sorted l) (((sortH_perm l).map keyH).nodup_iff.2 hk))
theorem sortH_len (l:List S59):(sortH l).length=l.length:=(sortH_perm l).length_eq
theorem pair_of {d:Array S59} (h:SortedIn ltH 0 d.size d):d.toList.Pairwise fun x y=>ltH y x=false:=by
 refine List.pairwise_iff_getElem.2 (fun i j hi hj hij=>?_)
 have:=h i j (Nat.zero_le _) hij (by simpa using hj)
 rw[getElem!_pos d i (by simpa using hi),getElem!_pos d j (by simpa using hj)] at this
 simpa using this
theorem perm_of {d d':Array S59} (h:PermIn 0 d.size d d'):d'.toList.Perm d.toList:=by
 have h2:=h.2.2
 have e1:d'.extract 0 d.size=d':=by rw[← h.1];simp
 have e2:d.extract 0 d.size=d:=by simp
 rw[e1,e2] at h2
 exact h2
/-- What the cells of a row of holes are. -/
def cellsH (l:List S59):List Value:=l.flatMap encH
theorem flat_eq (l:List S59):(flatK encH 3 l.toArray).toList=cellsH l:=by
 refine List.ext_getElem? (fun t=>?_)
 have hl:(cellsH l).length=l.length*3:=by
  unfold cellsH
  induction l with
  | nil=>rfl
  | cons x xs ih=>rw[List.flatMap_cons,List.length_append,ih,List.length_cons];show 3+_=_;omega
 by_cases ht:t<l.length*3
 ·have h1:=get_flatK encH 3 l.toArray t (by simpa using ht)
  rw[getElem!_pos (flatK encH 3 l.toArray) t (by rw[size_flatK];simpa using ht)] at h1
  rw[List.getElem?_eq_getElem (by rw[Array.length_toList,size_flatK];simpa using ht),Array.getElem_toList,h1]
  have h3:t / 3<l.length:=by omega
  rw[getElem!_pos l.toArray (t / 3) (by simpa using h3)]
  have key:∀(l:List S59) (t:Nat) (h:t / 3<l.length),(cellsH l)[t]?=some (encH l[t / 3])[t % 3]! := by
   intro l
   induction l with
   | nil=>intro t h;simp at h
   | cons x xs ih =>
    intro t h
    unfold cellsH
    rw[List.flatMap_cons]
    by_cases c:t<3
    ·have hd:t / 3=0:=by omega
     have hm:t % 3=t:=by omega
     rw[List.getElem?_append_left (by exact c),hm]
     have e:(x :: xs)[t / 3]=x:=by simp [hd]
     rw[e]
     rcases(by omega:t=0∨t=1∨t=2) with rfl|rfl|rfl<;>rfl
    ·rw[List.getElem?_append_right (by show 3≤t;omega)]
     have hq:=ih (t - 3) (by rw[List.length_cons] at h;omega)
     unfold cellsH at hq
     show(List.flatMap encH xs)[t - 3]?=_
     rw[hq]
     have e:(x :: xs)[t / 3]=xs[(t - 3) / 3]'(by rw[List.length_cons] at h;omega):=by
      have:t / 3=(t - 3) / 3+1:=by omega
      simp [this]
     rw[e,show(t - 3) % 3=t % 3 by omega]
  rw[key l t h3]
  simp
 ·rw[List.getElem?_eq_none (by rw[Array.length_toList,size_flatK];simp;omega),List.getElem?_eq_none (by rw[hl];omega)]
theorem reps_cells {w:World} {base:Nat} {ok:Nat→Prop} (l:List S59):Reps (k59.M w base ok) 3 l (cellsH l):=by
 have key:∀ xs ys:List S59,Reps (k59.M w base ok) 3 ys (cellsH ys)→Reps (k59.M w base ok) 3 (ys ++ xs) (cellsH (ys ++ xs)):=by
  intro xs
  induction xs with
  | nil=>intro ys h;rwa [List.append_nil]
  | cons x xs ih =>
   intro ys h
   have e:cellsH (ys ++ [x])=cellsH ys ++ encH x:=by unfold cellsH;rw[List.flatMap_append];simp
   have h2:=ih (ys ++ [x]) (by rw[e];exact h.snoc (k59_mkM _ _ _ x) rfl)
   rwa [List.append_assoc] at h2
 exact key l [] (Reps.none _ _)
theorem cells_reps {w:World} {base:Nat} {ok:Nat→Prop} {l:List S59} {cs:List Value} (h:Reps (k59.M w base ok) 3 l cs):cs=cellsH l:=by
 obtain⟨h1,h2⟩:=h
 have h3:=reps_cells (w:=w) (base:=base) (ok:=ok) l
 refine List.ext_getElem? (fun t=>?_)
 by_cases ht:t<l.length*3
 ·have hq:t / 3<l.length:=by omega
  have a:=k59_openM (h2 (t / 3) _ (List.getElem?_eq_getElem hq))
  have b:=k59_openM (h3.2 (t / 3) _ (List.getElem?_eq_getElem hq))
  have c:((cs.drop (t / 3*3)).take 3)[t % 3]?=(((cellsH l).drop (t / 3*3)).take 3)[t % 3]?:=by rw[a,b]
  rw[List.getElem?_take_of_lt (by omega),List.getElem?_take_of_lt (by omega),List.getElem?_drop,List.getElem?_drop] at c
  rwa [show t / 3*3+t % 3=t by omega] at c
 ·rw[List.getElem?_eq_none (by omega),List.getElem?_eq_none (by rw[h3.1];omega)]
theorem heap_sort {w:World} {g m:Nat} {os:Array Obj} {cur:Array Value} {e:TypeId} {fr:Nat×Nat} (F:Array Value) (hb:w.heap[g]?=some (.cells cur e fr)) :
  (grow (putRow id (Go.Sort.ahead w m) g 0 F) os).heap[g]?=some (.cells (putCells id 0 F cur) e fr):=by
 have hg:g<w.heap.size:=(Array.getElem?_eq_some_iff.1 hb).1
 rw[heap_grow_old _ _ (by simpa using hg)]
 simp [putRow,mapBlock,Go.Sort.ahead,Array.getElem?_modify,hb,onCells]
theorem grown_sort {w:World} {g m:Nat} {os:Array Obj} (F:Array Value):w.grownBy (grow (putRow id (Go.Sort.ahead w m) g 0 F) os) (some g):=by
 refine⟨rfl,rfl,rfl,by simp,fun k hk hne=>?_⟩
 rw[heap_grow_old _ _ (by simpa using hk)]
 have:g≠k:=fun e=>hne (by rw[e])
 simp [putRow,mapBlock,Go.Sort.ahead,Array.getElem?_modify,this]
theorem take_sort (cur F:Array Value) (h:F.size≤cur.size):(putCells id 0 F cur).toList.take F.size=F.toList:=by
 apply List.ext_getElem?
 intro j
 by_cases hj:j<F.size
 ·rw[List.getElem?_take_of_lt hj,Array.getElem?_toList]
  simp [putCells,hj,show j<cur.size by omega]
 ·rw[List.getElem?_take_eq_none (by omega),List.getElem?_eq_none (by simp;omega)]
theorem holds_of {w:World} {g:Nat} {cur F:Array Value} {e:TypeId} (hb:w.heap[g]?=some (.cells cur e (0,0))) (ht:cur.toList.take F.size=F.toList):Holds id w g 0 F:=by
 intro j hj
 refine⟨?_,by simp [World.frozen?,hb]⟩
 have h1:(cur.toList.take F.size)[j]?=F.toList[j]?:=by rw[ht]
 rw[List.getElem?_take_of_lt hj] at h1
 simp only[World.cell?,hb,Nat.zero_add]
 simp only[Option.isSome_none,Bool.false_eq_true,if_false]
 rw[← Array.getElem?_toList,h1]
 simp [hj]
set_option maxHeartbeats 4000000 in
/-- sort.SliceStable of a row of one's own, no two of its holes with the same key: the sorted row. -/
theorem row.calls (l:List S59) (v:Value) (w:World) (base:Nat) (ok:Nat→Prop) (Bs:Nat) (hR:Kd.R k59 59 w base ok v l) (hbox:w.cell? ⟨Bs,0,none⟩=some v) (hne:v.ownBlock≠some Bs) (hk:(l.map keyH).Nodup) (hsm:l.length<1000000) :
  Calls Tryz.prog 63 #[.iface 38 v,.func (.func 64) #[] #[.pointer (some ⟨Bs,0,none⟩)]] w fun e w'=>e = .returned (.tuple #[])∧Kd.R k59 59 w' base ok v (sortH l)∧∃ row,w.grownBy w' row∧(row=none∨row=v.ownBlock):=by
 obtain⟨A,c,hv,hlc,hC⟩:=Kd.R_reads hR
 have tiny:l.length≤1→sortH l=l:=fun h=>by
  have hp:=sortH_perm l
  rcases l with _|⟨x,_|⟨y,ys⟩⟩
  ·exact List.Perm.eq_nil hp
  ·exact List.perm_singleton.1 hp
  ·simp at h
 have bel:∀ os,Below w.heap.size w (grow w os):=fun os=>⟨rfl,rfl,rfl,by simp,fun k hk=>heap_grow_old _ _ hk⟩
 have grw_:∀ os,w.grownBy (grow w os) none:=fun os=>⟨rfl,rfl,rfl,by simp,fun k hk _=>heap_grow_old _ _ hk⟩
 by_cases h0:l.length=0
 ·subst hv
  refine(Any.sort_SliceStable_tiny lay8 38 59 siT siE (by kernel_rfl) (by kernel_rfl) (by kernel_rfl) (by kernel_rfl) 25 (fun _=>by kernel_rfl) A l.length c (by omega) 91 (by rw[h0];kernel_rfl) (.func 64) #[] _ w).mono ?_
  rintro e w' ⟨rfl,os,rfl⟩
  rw[tiny (by omega)]
  exact⟨rfl,Kd.R_below hR (bel os),none,grw_ os,.inl rfl⟩
 ·by_cases h1:l.length=1
  ·subst hv
   refine(Any.sort_SliceStable_tiny lay8 38 59 siT siE (by kernel_rfl) (by kernel_rfl) (by kernel_rfl) (by kernel_rfl) 25 (fun _=>by kernel_rfl) A l.length c (by omega) 92 (by rw[h1];kernel_rfl) (.func 64) #[] _ w).mono ?_
   rintro e w' ⟨rfl,os,rfl⟩
   rw[tiny (by omega)]
   exact⟨rfl,Kd.R_below hR (bel os),none,grw_ os,.inl rfl⟩
  ·clear hv hlc hC tiny bel grw_
   obtain⟨hok,inner,hown,hreps⟩:=hR
   have hin:=cells_reps hreps
   subst hin
   rcases hown.2 with⟨rfl,hn0⟩|⟨g,cap,cur,rfl,hbase,hb,q1,q2,q3,q4⟩
   ·exact absurd hn0 h0
   ·have hg:g<w.heap.size:=(Array.getElem?_eq_some_iff.1 hb).1
    have hF:(flatK encH 3 l.toArray).size=l.length*3:=by rw[size_flatK];simp
    have hH:HoldsK encH 3 w g 0 l.toArray:=holds_of hb (by rw[hF,flat_eq];exact q4)
    have hs:=sort.calls g cap Bs l.toArray w hH hg (by simpa using hbox) (fun e=>hne (by simp [Value.ownBlock,e])) (by simp;omega) (by simpa using hsm)
    simp only[List.size_toArray] at hs
    refine hs.mono ?_
    rintro e w' ⟨rfl,d',⟨m,os,rfl⟩,hP,hS⟩
    have hz:d'.size=l.length:=by simpa using hP.1
    have hd:d'=(sortH l).toArray:=by
     have hp:=perm_of (d:=l.toArray) (by simpa using hP)
     have h2:=sortH_eq (l:=l) (l2:=d'.toList) (by simpa using hp) hk (pair_of (by rw[hz];exact hS))
     rw[← h2]
    subst hd
    have hF2:(flatK encH 3 (sortH l).toArray).size=l.length*3:=by rw[size_flatK];simp [sortH_len]
    have hgr:=grown_sort (w:=w) (g:=g) (m:=m) (os:=os) (flatK encH 3 (sortH l).toArray)
    refine⟨rfl,⟨hok,cellsH (sortH l),?_,reps_cells _⟩,some g,hgr,.inr (by simp [Value.ownBlock])⟩
    rw[sortH_len]
    refine⟨?_,.inr ⟨g,cap,_,rfl,hbase,heap_sort _ hb,q1,q2,?_,?_⟩⟩
    ·rw[(reps_cells (w:=w) (base:=base) (ok:=ok) (sortH l)).1,sortH_len];rfl
    ·simp [putCells,q3]
    ·rw[← flat_eq]
     show List.take (l.length*3) _=_
     rw[← hF2]
     exact take_sort cur _ (by rw[hF2,q3];exact Nat.mul_le_mul_right 3 q1)
end shs
def impl_sheetOf.f (k:Nat) (l0:List S59):Option (List S59×Bool) :=
 if 60<(l0.length:Int) then some ([],false) else if(l0.map shs.keyH).Nodup then(impl_IsSheet.f k (shs.sortH l0)).bind fun q=>some (if q=true then(shs.sortH l0,true) else([],false)) else none
set_option maxHeartbeats 8000000 in
set_option maxRecDepth 100000 in
theorem impl_sheetOf.calls (k:Nat) (A0:Option Addr) (c0:Nat) (l0:List S59) (r1:List S59) (r2:Bool) (w:World) (hr0:Kd.C k59 w A0 l0.length l0) (hc0:l0.length≤c0) (h:impl_sheetOf.f k l0=some (r1,r2)) :
  Calls Tryz.prog 45 #[.slice A0 l0.length c0] w fun e w'=>∃ v0_:Value,e = .returned (.tuple #[v0_,.bool r2])∧Kd.R k59 59 w' w.heap.size (fun _=>True) v0_ r1∧Below w.heap.size w w':=by
 unfold impl_sheetOf.f at h
 have HR0:=am hr0
 have HC0:=am hc0
 clear hr0 hc0
 by_cases hl:60<(l0.length:Int)
 ·rw[if_pos hl] at h
  cases h
  go_enter Tryz.func45,Tryz.ntmps45
  go_wp2
  go_ret2
  exact⟨_,rfl,Kd.R_nil _ _ _ _ _,Below.refl _ _⟩
 ·rw[if_neg hl] at h
  by_cases hk:(l0.map shs.keyH).Nodup
  ·rw[if_pos hk] at h
   obtain⟨q,hq,h⟩:=Option.bind_eq_some_iff.1 h
   have HK:=am hk
   have HQ:=am hq
   have HL:=am (show l0.length≤60 from by omega)
   have HCL:=am (show impl_Hole.f l0=some l0 from by unfold impl_Hole.f;rw[if_pos (by omega)])
   clear hk hq
   cases q with
   | false =>
    cases h
    go_enter Tryz.func45,Tryz.ntmps45
    go_wp2_with (first|((with_reducible refine gate_callee (f:=44) rfl ?_);refine goesL_ (some 9) rfl rfl Tryz.func44 (by kernel_rfl) rfl #[.slice A0 l0.length c0] rfl (by(try simp only[List.map_toArray,List.map_cons,List.map_nil]);first|done|rfl) ?_;(with_reducible refine(impl_Hole.calls _ _ l0 _ _ ?side1 ?side2 HCL.out).mono ?_);(case side1=>exact HR0.out);(case side2=>exact HC0.out);rintro e w1 ⟨v1,rfl,ho,hb⟩;refine⟨_,rfl,?_⟩;obtain⟨A1,c1,e1⟩:=Kd.R_slice ho;subst e1;have HO:=am ho;have HBW:=am hb;have HBD:=am (Kd.R_bound ho).1;clear ho hb)|(go_at_call 63;(refine(shs.row.calls l0 (.slice A1 l0.length c1) _ w.heap.size (fun _=>True) w1.heap.size ?hR ?hbox ?hne HK.out ?hsm).mono ?_);(case hR=>exact Kd.R_below HO.out (below_alloc (Below.refl _ _) _));(case hbox=>simp);(case hne=>exact fun e_=>absurd (HBD.out _ e_).2.2.1 (Nat.lt_irrefl _));(case hsm=>have:=HL.out;omega);rintro e w3 ⟨rfl,hr,row,hgr,hrow⟩;have hbox3:w3.cell? ⟨w1.heap.size,0,none⟩=some (.slice A1 l0.length c1):=(by rw[World.cell?_of_block (hgr.block w1.heap.size (by simp) (fun e_=>by rcases hrow with h_|h_<;>rw[h_] at e_<;>first|exact absurd (HBD.out _ e_.symm).2.2.1 (Nat.lt_irrefl _)|cases e_))];simp);have HB3:=am (show Below w.heap.size w w3 from Below.grown (below_alloc HBW.out _) hgr (Nat.le_trans HBW.out.size (by simp)) (fun k_ e_=>by rcases hrow with h_|h_<;>rw[h_] at e_<;>first|exact(HBD.out _ e_).2.1|cases e_));have HR3:=am hr;have hls:=(Kd.R_reads' hr);have HRC:=am hls;have HSZ:=am (show w1.heap.size<w3.heap.size from World.block_lt_of_cell? w3 _ hbox3);clear hr hgr hrow hls)|(go_at_call 43;(have hIS:=impl_IsSheet.calls k A1 c1 (shs.sortH l0) false w3 HRC.out.2.2 (by have:=HRC.out.1;have:=HRC.out.2.1;omega) HQ.out);rw[shs.sortH_len] at hIS;refine hIS.mono ?_;rintro e w4 ⟨rfl,hb⟩;have hbox4:=(hb.cell (p:=⟨w1.heap.size,0,none⟩) HSZ.out).trans hbox3;have HR4:=am (Kd.R_below HR3.out hb);have HBF:=am (below_step HB3.out hb);clear hb hIS))
    go_ret2
    exact⟨_,rfl,Kd.R_nil _ _ _ _ _,HBF.out⟩
   | true =>
    cases h
    go_enter Tryz.func45,Tryz.ntmps45
    go_wp2_with (first|((with_reducible refine gate_callee (f:=44) rfl ?_);refine goesL_ (some 9) rfl rfl Tryz.func44 (by kernel_rfl) rfl #[.slice A0 l0.length c0] rfl (by(try simp only[List.map_toArray,List.map_cons,List.map_nil]);first|done|rfl) ?_;(with_reducible refine(impl_Hole.calls _ _ l0 _ _ ?side1 ?side2 HCL.out).mono ?_);(case side1=>exact HR0.out);(case side2=>exact HC0.out);rintro e w1 ⟨v1,rfl,ho,hb⟩;refine⟨_,rfl,?_⟩;obtain⟨A1,c1,e1⟩:=Kd.R_slice ho;subst e1;have HO:=am ho;have HBW:=am hb;have HBD:=am (Kd.R_bound ho).1;clear ho hb)|(go_at_call 63;(refine(shs.row.calls l0 (.slice A1 l0.length c1) _ w.heap.size (fun _=>True) w1.heap.size ?hR ?hbox ?hne HK.out ?hsm).mono ?_);(case hR=>exact Kd.R_below HO.out (below_alloc (Below.refl _ _) _));(case hbox=>simp);(case hne=>exact fun e_=>absurd (HBD.out _ e_).2.2.1 (Nat.lt_irrefl _));(case hsm=>have:=HL.out;omega);rintro e w3 ⟨rfl,hr,row,hgr,hrow⟩;have hbox3:w3.cell? ⟨w1.heap.size,0,none⟩=some (.slice A1 l0.length c1):=(by rw[World.cell?_of_block (hgr.block w1.heap.size (by simp) (fun e_=>by rcases hrow with h_|h_<;>rw[h_] at e_<;>first|exact absurd (HBD.out _ e_.symm).2.2.1 (Nat.lt_irrefl _)|cases e_))];simp);have HB3:=am (show Below w.heap.size w w3 from Below.grown (below_alloc HBW.out _) hgr (Nat.le_trans HBW.out.size (by simp)) (fun k_ e_=>by rcases hrow with h_|h_<;>rw[h_] at e_<;>first|exact(HBD.out _ e_).2.1|cases e_));have HR3:=am hr;have hls:=(Kd.R_reads' hr);have HRC:=am hls;have HSZ:=am (show w1.heap.size<w3.heap.size from World.block_lt_of_cell? w3 _ hbox3);clear hr hgr hrow hls)|(go_at_call 43;(have hIS:=impl_IsSheet.calls k A1 c1 (shs.sortH l0) true w3 HRC.out.2.2 (by have:=HRC.out.1;have:=HRC.out.2.1;omega) HQ.out);rw[shs.sortH_len] at hIS;refine hIS.mono ?_;rintro e w4 ⟨rfl,hb⟩;have hbox4:=(hb.cell (p:=⟨w1.heap.size,0,none⟩) HSZ.out).trans hbox3;have HR4:=am (Kd.R_below HR3.out hb);have HBF:=am (below_step HB3.out hb);clear hb hIS))
    go_ret2
    exact⟨_,rfl,HR4.out,HBF.out⟩
  ·rw[if_neg hk] at h
   cases h


def impl_moveSheet.l0:Nat→Int→List (S59)→Int→Int→Option ((List (S59))×Bool)
 | 0,_,_,_,_=>none
 | k+1,x1,x6,x11,x12=>if x12<x11 then(if 0≤x12 then(if x12<(x6.length:Int) then((some (x6.set (x12:Int).toNat (⟨(rd_T59 x6 x12).f0,wrap64 (((rd_T59 x6 x12).f1)+x1),(rd_T59 x6 x12).f2⟩:S59):List (S59))).bind fun y346=>(impl_moveSheet.l0 k x1 (y346.set (x12:Int).toNat (⟨(rd_T59 y346 x12).f0,(rd_T59 y346 x12).f1,wrap64 (((rd_T59 y346 x12).f2)+x1)⟩:S59)) x11 (wrap64 (x12+1)))) else(none)) else(none)) else((impl_sheetOf.f k x6).bind fun bt349=>(some (bt349.1,bt349.2)))
def impl_moveSheet.f (k:Nat) (l0:List (S59)) (a1:Int):Option ((List (S59))×Bool):=(impl_Hole.f l0).bind fun t342=>(impl_moveSheet.l0 k a1 t342 (t342.length:Int) 0)
set_option maxHeartbeats 8000000 in
set_option maxRecDepth 100000 in
theorem impl_moveSheet.calls (k:Nat) (A0:Option Addr) (c0:Nat) (l0:List (S59)) (a1:Int) (r1:List (S59)) (r2:Bool) (w:World) (hr0:Kd.C k59 w A0 l0.length l0) (hc0:l0.length≤c0) (h:impl_moveSheet.f k l0 a1=some (r1,r2)) :
  Calls Tryz.prog 27 #[.slice A0 l0.length c0,.int .i64 a1] w fun e w'=>∃ v0_:Value,e = .returned (.tuple #[v0_,.bool r2])∧Kd.R k59 59 w' w.heap.size (fun _=>True) v0_ r1∧Below w.heap.size w w':=by
 have HR0:=am hr0
 have HC0:=am hc0
 clear hr0 hc0
 have HB:=am (Below.refl w.heap.size w)
 have H:((impl_Hole.f l0).bind fun t342=>(impl_moveSheet.l0 k a1 t342 (t342.length:Int) 0))=some (r1,r2):=h
 clear h
 replace H:=Option.bind_eq_some_iff.mp H
 obtain⟨t342,A30,H⟩:=H
 replace H:(impl_moveSheet.l0 k a1 t342 (t342.length:Int) 0)=some (r1,r2):=H
 have A3:=am A30
 clear A30
 have H':=am H
 clear H
 go_enter Tryz.func27,Tryz.ntmps27
 go_wp2_with (first|((with_reducible refine gate_callee (f:=44) rfl ?_);refine goesL_ (some 9) rfl rfl Tryz.func44 (by kernel_rfl) rfl #[.slice A0 l0.length c0] rfl tl ?_;(with_reducible refine(impl_Hole.calls _ _ l0 t342 _ ?side1 ?side2 A3.out).mono ?_);(case side1=>repeat(first|exact HR0.out|(with_reducible refine Kd.C_alloc ?_ _)|(with_reducible refine Kd.C_drewN ?_ _)|(with_reducible refine Kd.C_drew ?_)));(case side2=>exact HC0.out);rintro e w4 ⟨v343,rfl,ho0,hb⟩;refine⟨_,rfl,?_⟩;have HO344:=am (Kd.R_lower ho0 (below_size bl));replace HB:=am (below_step bl hb);(try clear hb);(try clear ho0);obtain⟨Ao5,co5,eo5⟩:=Kd.R_slice HO344.out;subst eo5))
 go_loopg [12] k (fun kq v12 w'=>∃(x6_1:List (S59)) (x12_1:Int),v12 = .int .i64 x12_1∧Aside0 (impl_moveSheet.l0 kq a1 x6_1 (t342.length:Int) x12_1=some (r1,r2))∧Aside0 (kq≤k)∧Aside0 (Kd.R k59 59 w' w.heap.size (fun _=>True) (.slice Ao5 t342.length co5) x6_1)∧Aside0 (Below w.heap.size w w'))
 case atStart=>exact⟨(t342),(0),fin2,H',⟨Nat.le_refl _⟩,⟨rup HO344.out⟩,⟨bl⟩⟩
 case round =>
  clear H'
  obtain⟨x6_1,x12_1,rfl,HA,HK1,HO_6,HB⟩:=hrel
  have hl6_1:=(Kd.R_reads' HO_6.out).1
  rw[hl6_1] at HO_6
  (try simp only[hl6_1])
  cases gk with
  | zero=>exact absurd HA.out (by simp [impl_moveSheet.l0])
  | succ k1 =>
   have H:=HA.out
   clear HA
   simp only[impl_moveSheet.l0] at H
   rcases itc H with⟨c6,H⟩|⟨c6,H⟩
   ·have c6b0:=decide_eq_true c6
    clear c6
    obtain⟨c7b0,H⟩:=ifb H
    obtain⟨c8b0,H⟩:=ifb H
    obtain⟨y346,hy346⟩:∃ y_:List (S59),y_=(x6_1.set (x12_1:Int).toNat (⟨(rd_T59 x6_1 x12_1).f0,wrap64 (((rd_T59 x6_1 x12_1).f1)+a1),(rd_T59 x6_1 x12_1).f2⟩:S59)):=⟨_,rfl⟩
    replace H:(impl_moveSheet.l0 k1 a1 (y346.set (x12_1:Int).toNat (⟨(rd_T59 y346 x12_1).f0,(rd_T59 y346 x12_1).f1,wrap64 (((rd_T59 y346 x12_1).f2)+a1)⟩:S59)) (t342.length:Int) (wrap64 (x12_1+1)))=some (r1,r2):=by subst hy346;exact H
    have Ny346:=am hy346
    clear hy346
    obtain⟨y348,hy348⟩:∃ y_:List (S59),y_=(y346.set (x12_1:Int).toNat (⟨(rd_T59 y346 x12_1).f0,(rd_T59 y346 x12_1).f1,wrap64 (((rd_T59 y346 x12_1).f2)+a1)⟩:S59)):=⟨_,rfl⟩
    replace H:(impl_moveSheet.l0 k1 a1 y348 (t342.length:Int) (wrap64 (x12_1+1)))=some (r1,r2):=by subst hy348;exact H
    have Ny348:=am hy348
    clear hy348
    have H':=am H
    clear H
    have p345:0≤(x12_1:Int):=od
    have q345:x12_1<(x6_1.length:Int):=od
    obtain⟨ad345,e345,hx345_0,hx345_1,hx345_2⟩:=at_T59 (Kd.R_reads' HO_6.out).2.2 x12_1 p345 q345
    cases e345
    replace p345:=eq_true p345
    replace q345:=eq_true q345
    have p9:0≤(x12_1:Int):=od
    have q9:(x12_1:Int)<((x6_1.length:Int):Int):=od
    obtain⟨go9,co9,eo9,gb9,gl9,cl9,HG9⟩:=Kd.R_form HO_6.out (by omega)
    (first|cases eo9|(injection eo9 with ea_ en_ ec_;(first|subst ea_|(injection ea_ with ea_;subst ea_));subst ec_;clear en_))
    have GB9:=am gb9
    have GG9:=am HG9
    clear gb9 gl9 HG9
    (first|simp only[add_plain] at hx345_0|skip)
    (first|simp only[add_plain] at hx345_1|skip)
    (first|simp only[add_plain] at hx345_2|skip)
    obtain⟨ce9,hcl9,hM9,hcc9,hfr9⟩:=Kd.R_elem HO_6.out z59 (x12_1:Int) p9 q9
    obtain rfl:=k59_openM hM9
    have hx9_0:wr.cell? ⟨go9,(x12_1:Int).toNat*3,none⟩=some (.int .i64 ((rd_T59 x6_1 x12_1).f0)):=hcc9 0 _ rfl
    have hx9_1:wr.cell? ⟨go9,(x12_1:Int).toNat*3+1,none⟩=some (.int .i64 ((rd_T59 x6_1 x12_1).f1)):=hcc9 1 _ rfl
    have hx9_2:wr.cell? ⟨go9,(x12_1:Int).toNat*3+2,none⟩=some (.int .i64 ((rd_T59 x6_1 x12_1).f2)):=hcc9 2 _ rfl
    have hf9_0:wr.frozen? ⟨go9,(x12_1:Int).toNat*3,none⟩=false:=hfr9 0
    have hf9_1:wr.frozen? ⟨go9,(x12_1:Int).toNat*3+1,none⟩=false:=hfr9 1
    have hf9_2:wr.frozen? ⟨go9,(x12_1:Int).toNat*3+2,none⟩=false:=hfr9 2
    clear hcl9 hcc9 hfr9 hM9
    replace p9:=eq_true p9
    replace q9:=eq_true q9
    have HX11:=am (show Kd.R k59 59 wr w.heap.size (fun _=>True) (.slice (some ⟨go9,0,none⟩) x6_1.length co5) x6_1 from(rup HO_6.out))
    obtain⟨ce11,hcl11,hM11,hcc11,hfr11⟩:=Kd.R_elem HX11.out z59 (x12_1:Int) (od) (by have h_:(x12_1:Int)<((x6_1.length:Int):Int):=od;first|exact h_|(have e_:=(Kd.R_reads' HO_6.out).1;omega)|simpa using h_)
    obtain rfl:=k59_openM hM11
    have HP11:=Kd.R_seg HX11.out (x12_1:Int) (od) (by have h_:(x12_1:Int)<((x6_1.length:Int):Int):=od;first|exact h_|(have e_:=(Kd.R_reads' HO_6.out).1;omega)|simpa using h_) (seg:=[.int .i64 (wrap64 (((rd_T59 x6_1 x12_1).f1)+a1))]) (j:=1) hcl11 hcc11 (show 2≤3 from by decide) (x':=(⟨(rd_T59 x6_1 x12_1).f0,wrap64 (((rd_T59 x6_1 x12_1).f1)+a1),(rd_T59 x6_1 x12_1).f2⟩:S59)) (k59_mkM _ _ _ (⟨(rd_T59 x6_1 x12_1).f0,wrap64 (((rd_T59 x6_1 x12_1).f1)+a1),(rd_T59 x6_1 x12_1).f2⟩:S59) ) (fun _ hk=>hk)
    have hx11_1:=hcc11 1 _ rfl
    (try simp only[show(k59).sz=3 from rfl,Nat.mul_one,Nat.add_zero] at hx11_1)
    have hf11_1:=hfr11 1
    (try simp only[show(k59).sz=3 from rfl,Nat.mul_one,Nat.add_zero] at hf11_1)
    clear hcl11 hcc11 hfr11 hM11
    go_wp2_with (first|((with_reducible refine gate_store (t:=3) (p:=23) rfl ?_);refine store_event (t:=3) (p:=23) (v:=?vo_w12) (w1:=(wr.setCell ⟨go9,(x12_1:Int).toNat*3+1,none⟩ (.int .i64 (wrap64 (((rd_T59 x6_1 x12_1).f1)+a1))))) ?hg ?ho ?hn ?hr ?_;(case ho=>rfl);(case hg=>rfl);(case hn=>rfl);(case hr=>first|(go_simp;done)|(go_simp;rfl));intro w12 hw;have hg:wr.grownBy w12 (some go9):=(by rw[hw];exact HP11.2);have hp_:Kd.R k59 59 w12 w.heap.size (fun _=>True) (.slice (some ⟨go9,0,none⟩) x6_1.length co5) y346:=(by rw[hw,Ny346.out];exact HP11.1);clear HP11;replace HO_6:=am (hp_);replace HB:=am ((by rw[hw];exact below_set (HB.out) GB9.out:Below w.heap.size w w12));clear hg hw hp_;have p347:0≤(x12_1:Int):=od;have q347:x12_1<(y346.length:Int):=(by have h_:(x12_1:Int)<((x6_1.length:Int):Int):=od;first|(have e_:=(Kd.R_reads' HO_6.out).1;omega)|simpa only [Ny346.out,List.length_set] using h_);have ql347:((x12_1:Int)<((x6_1.length:Int):Int))=True:=eq_true (od);obtain⟨ad347,e347,hx347_0,hx347_1,hx347_2⟩:=at_T59 (Kd.R_reads' HO_6.out).2.2 x12_1 p347 q347;obtain rfl:(⟨go9,0,none⟩:Addr)=ad347:=(by injection e347);(first|simp only[add_plain] at hx347_0|simp only[add_at] at hx347_0|simp only[Addr.add,Nat.zero_add] at hx347_0|skip);(first|simp only[add_plain] at hx347_1|simp only[add_at] at hx347_1|simp only[Addr.add,Nat.zero_add] at hx347_1|skip);(first|simp only[add_plain] at hx347_2|simp only[add_at] at hx347_2|simp only[Addr.add,Nat.zero_add] at hx347_2|skip);replace p347:=eq_true p347;replace q347:=eq_true q347;have p10:0≤(x12_1:Int):=od;have q10:(x12_1:Int)<((x6_1.length:Int):Int):=od;obtain⟨ce10,hcl10,hM10,hcc10,hfr10⟩:=Kd.R_elem HO_6.out z59 (x12_1:Int) p10 q10;obtain rfl:=k59_openM hM10;have hx10_0:w12.cell? ⟨go9,(x12_1:Int).toNat*3,none⟩=some (.int .i64 ((rd_T59 y346 x12_1).f0)):=hcc10 0 _ rfl;have hx10_1:w12.cell? ⟨go9,(x12_1:Int).toNat*3+1,none⟩=some (.int .i64 ((rd_T59 y346 x12_1).f1)):=hcc10 1 _ rfl;have hx10_2:w12.cell? ⟨go9,(x12_1:Int).toNat*3+2,none⟩=some (.int .i64 ((rd_T59 y346 x12_1).f2)):=hcc10 2 _ rfl;have hf10_0:w12.frozen? ⟨go9,(x12_1:Int).toNat*3,none⟩=false:=hfr10 0;have hf10_1:w12.frozen? ⟨go9,(x12_1:Int).toNat*3+1,none⟩=false:=hfr10 1;have hf10_2:w12.frozen? ⟨go9,(x12_1:Int).toNat*3+2,none⟩=false:=hfr10 2;(try clear hcl10);(try clear hcc10);(try clear hfr10);(try clear hM10);replace p10:=eq_true p10;replace q10:=eq_true q10;have HX13:=am (show Kd.R k59 59 w12 w.heap.size (fun _=>True) (.slice (some ⟨go9,0,none⟩) x6_1.length co5) y346 from(rup HO_6.out));obtain⟨ce13,hcl13,hM13,hcc13,hfr13⟩:=Kd.R_elem HX13.out z59 (x12_1:Int) (od) (by have h_:(x12_1:Int)<((x6_1.length:Int):Int):=od;first|exact h_|(have e_:=(Kd.R_reads' HO_6.out).1;omega)|simpa using h_);obtain rfl:=k59_openM hM13;have HP13:=Kd.R_seg HX13.out (x12_1:Int) (od) (by have h_:(x12_1:Int)<((x6_1.length:Int):Int):=od;first|exact h_|(have e_:=(Kd.R_reads' HO_6.out).1;omega)|simpa using h_) (seg:=[.int .i64 (wrap64 (((rd_T59 y346 x12_1).f2)+a1))]) (j:=2) hcl13 hcc13 (show 3≤3 from by decide) (x':=(⟨(rd_T59 y346 x12_1).f0,(rd_T59 y346 x12_1).f1,wrap64 (((rd_T59 y346 x12_1).f2)+a1)⟩:S59)) (k59_mkM _ _ _ (⟨(rd_T59 y346 x12_1).f0,(rd_T59 y346 x12_1).f1,wrap64 (((rd_T59 y346 x12_1).f2)+a1)⟩:S59) ) (fun _ hk=>hk);have hx13_2:=hcc13 2 _ rfl;(try simp only[show(k59).sz=3 from rfl,Nat.mul_one,Nat.add_zero] at hx13_2);have hf13_2:=hfr13 2;(try simp only[show(k59).sz=3 from rfl,Nat.mul_one,Nat.add_zero] at hf13_2);(try clear hcl13);(try clear hcc13);(try clear hfr13);(try clear hM13))|((with_reducible refine gate_store (t:=3) (p:=32) rfl ?_);refine store_event (t:=3) (p:=32) (v:=?vo_w14) (w1:=(w12.setCell ⟨go9,(x12_1:Int).toNat*3+2,none⟩ (.int .i64 (wrap64 (((rd_T59 y346 x12_1).f2)+a1))))) ?hg ?ho ?hn ?hr ?_;(case ho=>rfl);(case hg=>rfl);(case hn=>rfl);(case hr=>first|(go_simp;done)|(go_simp;rfl));intro w14 hw;have hg:w12.grownBy w14 (some go9):=(by rw[hw];exact HP13.2);have hp_:Kd.R k59 59 w14 w.heap.size (fun _=>True) (.slice (some ⟨go9,0,none⟩) x6_1.length co5) y348:=(by rw[hw,Ny348.out];exact HP13.1);clear HP13;replace HO_6:=am (hp_);replace HB:=am ((by rw[hw];exact below_set (HB.out) GB9.out:Below w.heap.size w w14));clear hg hw hp_))
    (try simp only[← hl6_1])
    go_roundg k1
    case measure=>have:=HK1.out;omega
    case rel=>exact⟨(y348),(wrap64 (x12_1+1)),fin2,H',⟨by have:=HK1.out;omega⟩,⟨by(try simp only[hl6_1]);(with_reducible repeat(first|apply Kd.R_alloc|apply Kd.R_drewN|apply Kd.R_drew));exact HO_6.out⟩,⟨bl⟩⟩
   ·have c6b0:=decide_eq_false c6
    (try rw[hl6_1] at c6b0)
    clear c6
    replace H:=Option.bind_eq_some_iff.mp H
    obtain⟨⟨t349,t350⟩,A150,H⟩:=H
    replace H:(some (t349,t350))=some (r1,r2):=H
    have A15:=am A150
    clear A150
    simp only[Option.some.injEq,Prod.mk.injEq] at H
    obtain⟨rfl,rfl⟩:=H
    go_wp2_with (first|((with_reducible refine gate_callee (f:=45) rfl ?_);refine goesL_ (some 35) rfl rfl Tryz.func45 (by kernel_rfl) rfl #[.slice Ao5 x6_1.length co5] rfl tl ?_;(with_reducible refine(impl_sheetOf.calls k1 _ _ x6_1 t349 t350 _ ?side1 ?side2 A15.out).mono ?_);(case side1=>repeat(first|exact(Kd.R_reads' HO_6.out).2.2|(with_reducible refine Kd.C_alloc ?_ _)|(with_reducible refine Kd.C_drewN ?_ _)|(with_reducible refine Kd.C_drew ?_)));(case side2=>exact(Kd.R_reads' HO_6.out).2.1);rintro e w16 ⟨v351,rfl,ho0,hb⟩;refine⟨_,rfl,?_⟩;have HO352:=am (Kd.R_lower (Kd.R_new' ho0 (Kd.R_lt (rup HO_6.out))) (below_size bl));replace HO_6:=am (Kd.R_elder' (rup HO_6.out) (Kd.R_base ho0) hb);replace HB:=am (below_step bl hb);(try clear hb);(try clear ho0)))
    go_ret2
    exact⟨_,fin1,rup (Kd.R_mono HO352.out (fun _ hk=>trivial)),bl⟩

end Go.Proofs.YtipklbjbgbbgpaaGreat.PFnExactShiftToPass
