/- Walks of functions that FnPassesPlays reaches. No conditions beyond the arguments' being read. -/
import Derived.Test.YtdcchnfndhkfaaaSFnPassesPlays0
import Derived.Test.YtdcchnfndhkfaaaSFnPassesPlays1
import Derived.Test.YtdcchnfndhkfaaaSFnPassesPlays2
import Derived.Test.YtdcchnfndhkfaaaSFnPassesPlays4
namespace Go.Proofs.Ytdcchnfndhkfaaa.PFnPassesPlays
open Go.RowKit Go.Proofs.YtdcchnfndhkfaaaW.PrintWords Go.Proofs.YtdcchnfndhkfaaaW.PrintLast Go.Proofs.YtdcchnfndhkfaaaW.PrintMore
attribute [local go_sem] max2_int min2_int max_two min_two max_three min_three max_four min_four
set_option linter.unusedVariables false
set_option linter.unusedSimpArgs false

def impl_canMatch.f (k:Nat) (l0_0:List Int) (a0_1:Int) (l1:List (S35)) (l2:List (S60)):Option (Bool):=(impl_IsInstrument.f k l0_0 a0_1).bind fun t137=>(if t137=true then((impl_IsScore.f k l1).bind fun t138=>(if t138=true then((impl_IsSheet.f k l2).bind fun t139=>(some t139)) else(some false))) else(some false))
set_option maxHeartbeats 8000000 in
set_option maxRecDepth 100000 in
theorem impl_canMatch.calls (k:Nat) (A0_0:Option Addr) (c0_0:Nat) (l0_0:List Int) (a0_1:Int) (A1:Option Addr) (c1:Nat) (l1:List (S35)) (A2:Option Addr) (c2:Nat) (l2:List (S60)) (r:Bool) (w:World) (hr0_0:Kd.C (Kd.int .i64) w A0_0 l0_0.length l0_0) (hc0_0:l0_0.length≤c0_0) (hr1:Kd.C k35 w A1 l1.length l1) (hc1:l1.length≤c1) (hr2:Kd.C k60 w A2 l2.length l2) (hc2:l2.length≤c2) (h:impl_canMatch.f k l0_0 a0_1 l1 l2=some r) :
  Calls Try.prog 11 #[.agg #[.slice A0_0 l0_0.length c0_0,.int .i64 a0_1],.slice A1 l1.length c1,.slice A2 l2.length c2] w fun e w'=>e = .returned (.bool r)∧Below w.heap.size w w':=by
 have hu24:=Try.underlying24
 have HR0_0:=am hr0_0
 have HC0_0:=am hc0_0
 clear hr0_0 hc0_0
 have HR1:=am hr1
 have HC1:=am hc1
 clear hr1 hc1
 have HR2:=am hr2
 have HC2:=am hc2
 clear hr2 hc2
 have HB:=am (Below.refl w.heap.size w)
 have H:((impl_IsInstrument.f k l0_0 a0_1).bind fun t137=>(if t137=true then((impl_IsScore.f k l1).bind fun t138=>(if t138=true then((impl_IsSheet.f k l2).bind fun t139=>(some t139)) else(some false))) else(some false)))=some r:=h
 clear h
 obtain⟨t137,A4,H⟩:=bnd H
 by_cases c5:t137=true
 ·subst c5
  replace H:=(if_pos rfl).symm.trans H
  obtain⟨t138,A6,H⟩:=bnd H
  by_cases c7:t138=true
  ·subst c7
   replace H:=(if_pos rfl).symm.trans H
   obtain⟨t139,A8,H⟩:=bnd H
   obtain rfl:=Option.some.inj H
   go_enter Try.func11,Try.ntmps11
   go_wp2_with (first|((with_reducible refine gate_dst (N:=3) rfl ?_);refine box_event ?hg (N:=3) ?hd (cs := #[.slice A0_0 l0_0.length c0_0,.int .i64 a0_1]) (t:=24) ?hr ?_;(case hd=>rfl);(case hg=>rfl);(case hr=>first|(go_simp;done)|(go_simp;rfl));intro gb136 hg w9 hbox hb;have BK136:=am (hbox);have GW136:=am (ge_ bl hg);have GE136:=am (ge_ bl hg);replace HB:=am (below_step bl hb);clear hb hbox hg;have hcz10_0:=bc BK136.out 0;have hcz10_1:=bc BK136.out 1;have hfz10_0:=blk_frozen BK136.out 0;have hfz10_1:=blk_frozen BK136.out 1)|((with_reducible refine gate_callee (f:=25) rfl ?_);refine goesL_ (some 8) rfl rfl Try.func25 (by kernel_rfl) rfl #[.agg #[.slice A0_0 l0_0.length c0_0,.int .i64 a0_1]] rfl tl ?_;(with_reducible refine(impl_IsInstrument.calls k _ _ l0_0 a0_1 true _ ?side1 ?side2 A4.out).mono ?_);(case side1=>exact cup (Kd.C_below HR0_0.out HB.out));(case side2=>exact HC0_0.out);rintro e w11 ⟨rfl,hb⟩;refine⟨_,rfl,?_⟩;replace BK136:=am (blk_below (bup BK136.out) hb);replace HB:=am (below_step bl hb);(try clear hb))|(go_at_call 26;(with_reducible refine(impl_IsScore.calls k _ _ l1 true _ ?side1 ?side2 A6.out).mono ?_);(case side1=>exact cup (Kd.C_below HR1.out HB.out));(case side2=>exact HC1.out);rintro e w12 ⟨rfl,hb⟩;replace BK136:=am (blk_below (bup BK136.out) hb);replace HB:=am (below_step bl hb);(try clear hb))|(go_at_call 27;(with_reducible refine(impl_IsSheet.calls k _ _ l2 t139 _ ?side1 ?side2 A8.out).mono ?_);(case side1=>exact cup (Kd.C_below HR2.out HB.out));(case side2=>exact HC2.out);rintro e w13 ⟨rfl,hb⟩;replace BK136:=am (blk_below (bup BK136.out) hb);replace HB:=am (below_step bl hb);(try clear hb)))
   go_ret
   exact⟨fin1,bl⟩
  ·replace c7:=Bool.eq_false_iff.mpr c7
   subst c7
   replace H:=(if_neg Bool.false_ne_true).symm.trans H
   obtain rfl:=Option.some.inj H
   go_enter Try.func11,Try.ntmps11
   go_wp2_with (first|((with_reducible refine gate_dst (N:=3) rfl ?_);refine box_event ?hg (N:=3) ?hd (cs := #[.slice A0_0 l0_0.length c0_0,.int .i64 a0_1]) (t:=24) ?hr ?_;(case hd=>rfl);(case hg=>rfl);(case hr=>first|(go_simp;done)|(go_simp;rfl));intro gb136 hg w14 hbox hb;have BK136:=am (hbox);have GW136:=am (ge_ bl hg);have GE136:=am (ge_ bl hg);replace HB:=am (below_step bl hb);clear hb hbox hg;have hcz15_0:=bc BK136.out 0;have hcz15_1:=bc BK136.out 1;have hfz15_0:=blk_frozen BK136.out 0;have hfz15_1:=blk_frozen BK136.out 1)|((with_reducible refine gate_callee (f:=25) rfl ?_);refine goesL_ (some 8) rfl rfl Try.func25 (by kernel_rfl) rfl #[.agg #[.slice A0_0 l0_0.length c0_0,.int .i64 a0_1]] rfl tl ?_;(with_reducible refine(impl_IsInstrument.calls k _ _ l0_0 a0_1 true _ ?side1 ?side2 A4.out).mono ?_);(case side1=>exact cup (Kd.C_below HR0_0.out HB.out));(case side2=>exact HC0_0.out);rintro e w16 ⟨rfl,hb⟩;refine⟨_,rfl,?_⟩;replace BK136:=am (blk_below (bup BK136.out) hb);replace HB:=am (below_step bl hb);(try clear hb))|(go_at_call 26;(with_reducible refine(impl_IsScore.calls k _ _ l1 false _ ?side1 ?side2 A6.out).mono ?_);(case side1=>exact cup (Kd.C_below HR1.out HB.out));(case side2=>exact HC1.out);rintro e w17 ⟨rfl,hb⟩;replace BK136:=am (blk_below (bup BK136.out) hb);replace HB:=am (below_step bl hb);(try clear hb)))
   go_ret
   exact⟨fin1,bl⟩
 ·replace c5:=Bool.eq_false_iff.mpr c5
  subst c5
  replace H:=(if_neg Bool.false_ne_true).symm.trans H
  obtain rfl:=Option.some.inj H
  go_enter Try.func11,Try.ntmps11
  go_wp2_with (first|((with_reducible refine gate_dst (N:=3) rfl ?_);refine box_event ?hg (N:=3) ?hd (cs := #[.slice A0_0 l0_0.length c0_0,.int .i64 a0_1]) (t:=24) ?hr ?_;(case hd=>rfl);(case hg=>rfl);(case hr=>first|(go_simp;done)|(go_simp;rfl));intro gb136 hg w18 hbox hb;have BK136:=am (hbox);have GW136:=am (ge_ bl hg);have GE136:=am (ge_ bl hg);replace HB:=am (below_step bl hb);clear hb hbox hg;have hcz19_0:=bc BK136.out 0;have hcz19_1:=bc BK136.out 1;have hfz19_0:=blk_frozen BK136.out 0;have hfz19_1:=blk_frozen BK136.out 1)|((with_reducible refine gate_callee (f:=25) rfl ?_);refine goesL_ (some 8) rfl rfl Try.func25 (by kernel_rfl) rfl #[.agg #[.slice A0_0 l0_0.length c0_0,.int .i64 a0_1]] rfl tl ?_;(with_reducible refine(impl_IsInstrument.calls k _ _ l0_0 a0_1 false _ ?side1 ?side2 A4.out).mono ?_);(case side1=>exact cup (Kd.C_below HR0_0.out HB.out));(case side2=>exact HC0_0.out);rintro e w20 ⟨rfl,hb⟩;refine⟨_,rfl,?_⟩;replace BK136:=am (blk_below (bup BK136.out) hb);replace HB:=am (below_step bl hb);(try clear hb)))
  go_ret
  exact⟨fin1,bl⟩

def impl_IsAction.f (a0_0:Int) (a0_1:Int) (a0_2:Int):Option (Bool):=if a0_0≥0 then(if a0_0≤40 then(if a0_1≥0 then(if a0_1≤40 then(if a0_2≥0 then(some (decide (a0_2≤40))) else(some false)) else(some false)) else(some false)) else(some false)) else(some false)
set_option maxHeartbeats 8000000 in
set_option maxRecDepth 100000 in
theorem impl_IsAction.calls (a0_0:Int) (a0_1:Int) (a0_2:Int) (r:Bool) (w:World) (h:impl_IsAction.f a0_0 a0_1 a0_2=some r) :
  Calls Try.prog 12 #[.agg #[.int .i64 a0_0,.int .i64 a0_1,.int .i64 a0_2]] w fun e w'=>e = .returned (.bool r)∧Below w.heap.size w w':=by
 have hu28:=Try.underlying28
 have HB:=am (Below.refl w.heap.size w)
 have H:(if a0_0≥0 then(if a0_0≤40 then(if a0_1≥0 then(if a0_1≤40 then(if a0_2≥0 then(some (decide (a0_2≤40))) else(some false)) else(some false)) else(some false)) else(some false)) else(some false))=some r:=h
 clear h
 rcases itc H with⟨c2,H⟩|⟨c2,H⟩
 ·have c2b0:decide (0≤a0_0)=true:=decide_eq_true c2
  clear c2
  rcases itc H with⟨c3,H⟩|⟨c3,H⟩
  ·have c3b0:=decide_eq_true c3
   clear c3
   rcases itc H with⟨c4,H⟩|⟨c4,H⟩
   ·have c4b0:decide (0≤a0_1)=true:=decide_eq_true c4
    clear c4
    rcases itc H with⟨c5,H⟩|⟨c5,H⟩
    ·have c5b0:=decide_eq_true c5
     clear c5
     rcases itc H with⟨c6,H⟩|⟨c6,H⟩
     ·have c6b0:decide (0≤a0_2)=true:=decide_eq_true c6
      clear c6
      obtain rfl:=Option.some.inj H
      go_enter Try.func12,Try.ntmps12
      go_wp2_with (first|((with_reducible refine gate_dst (N:=1) rfl ?_);refine box_event ?hg (N:=1) ?hd (cs := #[.int .i64 a0_0,.int .i64 a0_1,.int .i64 a0_2]) (t:=28) ?hr ?_;(case hd=>rfl);(case hg=>rfl);(case hr=>first|(go_simp;done)|(go_simp;rfl));intro gb140 hg w7 hbox hb;have BK140:=am (hbox);have GW140:=am (ge_ bl hg);have GE140:=am (ge_ bl hg);replace HB:=am (below_step bl hb);clear hb hbox hg;have hcz8_0:=bc BK140.out 0;have hcz8_1:=bc BK140.out 1;have hcz8_2:=bc BK140.out 2;have hfz8_0:=blk_frozen BK140.out 0;have hfz8_1:=blk_frozen BK140.out 1;have hfz8_2:=blk_frozen BK140.out 2))
      go_ret
      exact⟨fin1,bl⟩
     ·have c6b0:decide (0≤a0_2)=false:=decide_eq_false c6
      clear c6
      obtain rfl:=Option.some.inj H
      go_enter Try.func12,Try.ntmps12
      go_wp2_with (first|((with_reducible refine gate_dst (N:=1) rfl ?_);refine box_event ?hg (N:=1) ?hd (cs := #[.int .i64 a0_0,.int .i64 a0_1,.int .i64 a0_2]) (t:=28) ?hr ?_;(case hd=>rfl);(case hg=>rfl);(case hr=>first|(go_simp;done)|(go_simp;rfl));intro gb140 hg w9 hbox hb;have BK140:=am (hbox);have GW140:=am (ge_ bl hg);have GE140:=am (ge_ bl hg);replace HB:=am (below_step bl hb);clear hb hbox hg;have hcz10_0:=bc BK140.out 0;have hcz10_1:=bc BK140.out 1;have hcz10_2:=bc BK140.out 2;have hfz10_0:=blk_frozen BK140.out 0;have hfz10_1:=blk_frozen BK140.out 1;have hfz10_2:=blk_frozen BK140.out 2))
      go_ret
      exact⟨fin1,bl⟩
    ·have c5b0:=decide_eq_false c5
     clear c5
     obtain rfl:=Option.some.inj H
     go_enter Try.func12,Try.ntmps12
     go_wp2_with (first|((with_reducible refine gate_dst (N:=1) rfl ?_);refine box_event ?hg (N:=1) ?hd (cs := #[.int .i64 a0_0,.int .i64 a0_1,.int .i64 a0_2]) (t:=28) ?hr ?_;(case hd=>rfl);(case hg=>rfl);(case hr=>first|(go_simp;done)|(go_simp;rfl));intro gb140 hg w11 hbox hb;have BK140:=am (hbox);have GW140:=am (ge_ bl hg);have GE140:=am (ge_ bl hg);replace HB:=am (below_step bl hb);clear hb hbox hg;have hcz12_0:=bc BK140.out 0;have hcz12_1:=bc BK140.out 1;have hcz12_2:=bc BK140.out 2;have hfz12_0:=blk_frozen BK140.out 0;have hfz12_1:=blk_frozen BK140.out 1;have hfz12_2:=blk_frozen BK140.out 2))
     go_ret
     exact⟨fin1,bl⟩
   ·have c4b0:decide (0≤a0_1)=false:=decide_eq_false c4
    clear c4
    obtain rfl:=Option.some.inj H
    go_enter Try.func12,Try.ntmps12
    go_wp2_with (first|((with_reducible refine gate_dst (N:=1) rfl ?_);refine box_event ?hg (N:=1) ?hd (cs := #[.int .i64 a0_0,.int .i64 a0_1,.int .i64 a0_2]) (t:=28) ?hr ?_;(case hd=>rfl);(case hg=>rfl);(case hr=>first|(go_simp;done)|(go_simp;rfl));intro gb140 hg w13 hbox hb;have BK140:=am (hbox);have GW140:=am (ge_ bl hg);have GE140:=am (ge_ bl hg);replace HB:=am (below_step bl hb);clear hb hbox hg;have hcz14_0:=bc BK140.out 0;have hcz14_1:=bc BK140.out 1;have hcz14_2:=bc BK140.out 2;have hfz14_0:=blk_frozen BK140.out 0;have hfz14_1:=blk_frozen BK140.out 1;have hfz14_2:=blk_frozen BK140.out 2))
    go_ret
    exact⟨fin1,bl⟩
  ·have c3b0:=decide_eq_false c3
   clear c3
   obtain rfl:=Option.some.inj H
   go_enter Try.func12,Try.ntmps12
   go_wp2_with (first|((with_reducible refine gate_dst (N:=1) rfl ?_);refine box_event ?hg (N:=1) ?hd (cs := #[.int .i64 a0_0,.int .i64 a0_1,.int .i64 a0_2]) (t:=28) ?hr ?_;(case hd=>rfl);(case hg=>rfl);(case hr=>first|(go_simp;done)|(go_simp;rfl));intro gb140 hg w15 hbox hb;have BK140:=am (hbox);have GW140:=am (ge_ bl hg);have GE140:=am (ge_ bl hg);replace HB:=am (below_step bl hb);clear hb hbox hg;have hcz16_0:=bc BK140.out 0;have hcz16_1:=bc BK140.out 1;have hcz16_2:=bc BK140.out 2;have hfz16_0:=blk_frozen BK140.out 0;have hfz16_1:=blk_frozen BK140.out 1;have hfz16_2:=blk_frozen BK140.out 2))
   go_ret
   exact⟨fin1,bl⟩
 ·have c2b0:decide (0≤a0_0)=false:=decide_eq_false c2
  clear c2
  obtain rfl:=Option.some.inj H
  go_enter Try.func12,Try.ntmps12
  go_wp2_with (first|((with_reducible refine gate_dst (N:=1) rfl ?_);refine box_event ?hg (N:=1) ?hd (cs := #[.int .i64 a0_0,.int .i64 a0_1,.int .i64 a0_2]) (t:=28) ?hr ?_;(case hd=>rfl);(case hg=>rfl);(case hr=>first|(go_simp;done)|(go_simp;rfl));intro gb140 hg w17 hbox hb;have BK140:=am (hbox);have GW140:=am (ge_ bl hg);have GE140:=am (ge_ bl hg);replace HB:=am (below_step bl hb);clear hb hbox hg;have hcz18_0:=bc BK140.out 0;have hcz18_1:=bc BK140.out 1;have hcz18_2:=bc BK140.out 2;have hfz18_0:=blk_frozen BK140.out 0;have hfz18_1:=blk_frozen BK140.out 1;have hfz18_2:=blk_frozen BK140.out 2))
  go_ret
  exact⟨fin1,bl⟩

def impl_isTolerance.f (a0:Int):Option (Bool):=if a0≥0 then(some (decide (a0≤50))) else(some false)
set_option maxHeartbeats 8000000 in
set_option maxRecDepth 100000 in
theorem impl_isTolerance.calls (a0:Int) (r:Bool) (w:World) (h:impl_isTolerance.f a0=some r) :
  Calls Try.prog 13 #[.int .i64 a0] w fun e w'=>e = .returned (.bool r)∧Drawn0 w w':=by
 have H:(if a0≥0 then(some (decide (a0≤50))) else(some false))=some r:=h
 clear h
 rcases itc H with⟨c2,H⟩|⟨c2,H⟩
 ·have c2b0:decide (0≤a0)=true:=decide_eq_true c2
  clear c2
  obtain rfl:=Option.some.inj H
  go_enter Try.func13,Try.ntmps13
  go_wp2
  go_ret
  exact⟨by first|rfl|(simp;done)|(simp [*];done),by repeat(first|exact Drawn0.refl _|apply Drawn0.step)⟩
 ·have c2b0:decide (0≤a0)=false:=decide_eq_false c2
  clear c2
  obtain rfl:=Option.some.inj H
  go_enter Try.func13,Try.ntmps13
  go_wp2
  go_ret
  exact⟨by first|rfl|(simp;done)|(simp [*];done),by repeat(first|exact Drawn0.refl _|apply Drawn0.step)⟩

def impl_spoken.upd (last:Int→Option Int) (t v:Int):Int→Option Int:=fun s=>if s=t then some v else last s
def impl_spoken.Agree (D:DataW Unit) (last:Int→Option Int):Prop :=
 Maps.IsMap D∧∀ t,Maps.has D (.int .i64 t)=(last t).isSome∧∀ b,last t=some b→D.atKey (.int .i64 t) (.lit (.int .i64 0)) = .lit (.int .i64 b)
theorem impl_spoken.agree_made:impl_spoken.Agree (.map []) (fun _=>none):=⟨Maps.isMap_empty,fun t=>⟨rfl,fun b h=>by cases h⟩⟩
theorem impl_spoken.agree_put {D:DataW Unit} {last:Int→Option Int} (h:impl_spoken.Agree D last) (t v:Int):impl_spoken.Agree (D.put (.int .i64 t) (.lit (.int .i64 v))) (impl_spoken.upd last t v):=by
 refine⟨h.1.put _ _,fun s=>?_⟩
 by_cases e:s=t
 ·subst e
  refine⟨by rw[Maps.has_put_same h.1 (show WideAt.IsKeyLit (.int .i64 s) from trivial)];simp [impl_spoken.upd],fun b hb=>?_⟩
  rw[Maps.atKey_put_same h.1 (show WideAt.IsKeyLit (.int .i64 s) from trivial)]
  simp [impl_spoken.upd] at hb
  rw[hb]
 ·have hne:(Lit.int .i64 s)≠(Lit.int .i64 t):=fun h=>e (by injection h)
  refine⟨by rw[Maps.has_put_other hne,(h.2 s).1];simp [impl_spoken.upd,e],fun b hb=>?_⟩
  rw[Maps.atKey_put_other hne]
  exact(h.2 s).2 b (by simpa [impl_spoken.upd,e] using hb)
theorem impl_spoken.map_to {w w':World} {k e:TypeId} {b n:Nat} {D:DataW Unit} (h:w.ownsMap Try.prog k (plainElem Try.prog e) b n D) (hh':w'.heap[b]?=w.heap[b]?):w'.ownsMap Try.prog k (plainElem Try.prog e) b n D:=by
 obtain⟨es,clock,hh,F,hs,hD⟩:=h
 exact⟨es,clock,hh'.trans hh,F,hs,hD⟩
theorem impl_spoken.map_below {w w':World} {k e:TypeId} {b n:Nat} {D:DataW Unit} (h:w.ownsMap Try.prog k (plainElem Try.prog e) b n D) (hb:Below w.heap.size w w'):w'.ownsMap Try.prog k (plainElem Try.prog e) b n D:=impl_spoken.map_to h (hb.block b h.lt)
theorem impl_spoken.map_drewN {w:World} {k e:TypeId} {b n:Nat} {D:DataW Unit} (h:w.ownsMap Try.prog k (plainElem Try.prog e) b n D) (m:Nat):(w.drewN m).ownsMap Try.prog k (plainElem Try.prog e) b n D:=impl_spoken.map_to h rfl
theorem impl_spoken.map_far {w:World} {k e:TypeId} {b n g i:Nat} {D:DataW Unit} {v:Value} (h:w.ownsMap Try.prog k (plainElem Try.prog e) b n D) (hne:b≠g):(w.setCell ⟨g,i,none⟩ v).ownsMap Try.prog k (plainElem Try.prog e) b n D:=impl_spoken.map_to h (Below.heap_setCell w ⟨g,i,none⟩ v b hne)
/-- What keeps a hole from speaking. -/
def impl_spoken.bad (ps:List Int) (rep d rl m:Int) (la:Int→Option Int) (h:S60):Prop:=h.f0≥(ps.length:Int)∨wrap64 (h.f2 - h.f1)<m∨((la h.f0).isSome=true∧wrap64 (h.f1 - (la h.f0).getD 0)<wrap64 (2*rep))∨wrap64 (h.f1+d)≥wrap64 (h.f2+rl)
instance (ps:List Int) (rep d rl m:Int) (la:Int→Option Int) (h:S60):Decidable (impl_spoken.bad ps rep d rl m la h):=by unfold impl_spoken.bad;infer_instance
def impl_spoken.l0:Nat→List Int→Int→Int→Int→Int→List S37→List Int→(Int→Option Int)→List S60→Int→Option (List S37×List Int)
 | 0,_,_,_,_,_,_,_,_,_,_=>none
 | k+1,ps,rep,d,rl,m,x8,x9,la,l,i=>if i<(l.length:Int) then(if 0≤i then(if(Lit.int .i64 (rd_T60 l i).f0).wf=true then(if impl_spoken.bad ps rep d rl m la (rd_T60 l i) then(if x9.length<17592186044416 then(impl_spoken.l0 k ps rep d rl m x8 (x9 ++ [i]) la l (wrap64 (i+1))) else none) else(if(Lit.int .i64 (rd_T60 l i).f1).wf=true∧0≤(rd_T60 l i).f0∧x8.length<5864062014805 then(impl_spoken.l0 k ps rep d rl m (x8 ++ [(⟨rd ps (rd_T60 l i).f0,wrap64 ((rd_T60 l i).f1+d),wrap64 ((rd_T60 l i).f2+rl)⟩:S37)]) x9 (impl_spoken.upd la (rd_T60 l i).f0 (rd_T60 l i).f1) l (wrap64 (i+1))) else none)) else none) else none) else some (x8,x9)
def impl_spoken.f (k:Nat) (l0:List Int) (a1:Int) (l2:List S60) (a3:Int) (a4:Int) (a5:Int):Option (List S37×List Int):=impl_spoken.l0 k l0 a1 a3 a4 a5 [] [] (fun _=>none) l2 0
theorem impl_spoken.law3:Maps.Keyed Try.prog 3:=Maps.int_keyed Try.underlying3
theorem impl_spoken.zero3 (w:World):(zeroValue 3).run Try.prog w = .ok (.int .i64 0) w:=by kernel_rfl
set_option maxHeartbeats 16000000 in
set_option maxRecDepth 100000 in
theorem impl_spoken.calls (k:Nat) (A0:Option Addr) (c0:Nat) (l0:List Int) (a1:Int) (A2:Option Addr) (c2:Nat) (l2:List S60) (a3:Int) (a4:Int) (a5:Int) (r1:List S37) (r2:List Int) (w:World) (hr0:Kd.C (Kd.int .i64) w A0 l0.length l0) (hc0:l0.length≤c0) (hr2:Kd.C k60 w A2 l2.length l2) (hc2:l2.length≤c2) (h:impl_spoken.f k l0 a1 l2 a3 a4 a5=some (r1,r2)) :
  Calls Try.prog 14 #[.agg #[.slice A0 l0.length c0,.int .i64 a1],.slice A2 l2.length c2,.agg #[.int .i64 a3,.int .i64 a4,.int .i64 a5]] w fun e w'=>∃ v0_ v1_:Value,e = .returned (.tuple #[v0_,v1_])∧Kd.R k37 37 w' w.heap.size (fun _=>True) v0_ r1∧Kd.R (Kd.int .i64) 3 w' w.heap.size (fun _=>True) v1_ r2∧Below w.heap.size w w':=by
 have hu60:=Try.underlying60
 have hmm:=@run_makeMap Try.prog
 have HR0:=am hr0
 have HC0:=am hc0
 have HR2:=am hr2
 have HC2:=am hc2
 clear hr0 hc0 hr2 hc2
 have HB:=am (Below.refl w.heap.size w)
 have H':=am (show impl_spoken.l0 k l0 a1 a3 a4 a5 [] [] (fun _=>none) l2 0=some (r1,r2) from h)
 clear h
 go_enter Try.func14,Try.ntmps14
 go_wp2_with (first|((with_reducible refine gate_dst (N:=3) rfl ?_);refine box_event ?hg (N:=3) ?hd (cs := #[.slice A0 l0.length c0,.int .i64 a1]) (t:=24) ?hr ?_;(case hd=>rfl);(case hg=>rfl);(case hr=>first|(go_simp;done)|(go_simp;rfl));intro gbi hg wi hbox hb;have BKI:=am (hbox);have GEI:=am (ge_ bl hg);replace HB:=am (below_step bl hb);clear hb hbox hg)|((with_reducible refine gate_dst (N:=5) rfl ?_);refine box_event ?hg (N:=5) ?hd (cs := #[.int .i64 a3,.int .i64 a4,.int .i64 a5]) (t:=28) ?hr ?_;(case hd=>rfl);(case hg=>rfl);(case hr=>first|(go_simp;done)|(go_simp;rfl));intro gba hg wj hbox hb;replace BKI:=am (blk_below (g:=gbi) (o := .cells #[.slice A0 l0.length c0,.int .i64 a1] 24 (0,0)) (by exact bup BKI.out) hb);have BKA:=am (hbox);have GEA:=am (ge_ bl hg);replace HB:=am (below_step bl hb);clear hb hbox hg)|((with_reducible refine gate_dst (N:=17) rfl ?_);refine Kd.R_lit k37 _ 37 ?hg (N:=17) ?hd (xs:=([]:List S37)) (inner:=[]) (ok:=fun _=>True) (okp:=fun _=>True) ?hr ?hp (fun _ hk=>hk) trivial (Below.refl _ _) (Nat.le_refl _) (by simp) ?_;(case hd=>rfl);(case hg=>rfl);(case hr=>first|(go_simp;done)|(go_simp;rfl));(case hp=>exact(Reps.none _ _));intro v8_ wk ho4 hb hg_ hnew_;clear hg_ hnew_;replace BKI:=am (blk_below (g:=gbi) (o := .cells #[.slice A0 l0.length c0,.int .i64 a1] 24 (0,0)) (by exact bup BKI.out) hb);replace BKA:=am (blk_below (g:=gba) (o := .cells #[.int .i64 a3,.int .i64 a4,.int .i64 a5] 28 (0,0)) (by exact bup BKA.out) hb);have HO8:=am (Kd.R_lower ho4 (below_size HB.out));replace HB:=am (below_step bl hb);clear hb ho4)|((with_reducible refine gate_dst (N:=18) rfl ?_);refine Kd.R_lit (Kd.int .i64) _ 3 ?hg (N:=18) ?hd (xs:=([]:List Int)) (inner:=[]) (ok:=fun _=>True) (okp:=fun _=>True) ?hr ?hp (fun _ hk=>hk) trivial (Below.refl _ _) (Nat.le_refl _) (by simp) ?_;(case hd=>rfl);(case hg=>rfl);(case hr=>first|(go_simp;done)|(go_simp;rfl));(case hp=>exact(Reps.none _ _));intro v9_ w3 ho4 hb hg_ hnew_;clear hg_ hnew_;replace BKI:=am (blk_below (g:=gbi) (o := .cells #[.slice A0 l0.length c0,.int .i64 a1] 24 (0,0)) (by exact bup BKI.out) hb);replace BKA:=am (blk_below (g:=gba) (o := .cells #[.int .i64 a3,.int .i64 a4,.int .i64 a5] 28 (0,0)) (by exact bup BKA.out) hb);replace HO8:=am (Kd.R_below (rup HO8.out) hb);have HO9:=am (Kd.R_lower ho4 (below_size HB.out));replace HB:=am (below_step bl hb);clear hb ho4))
 have BGE:=am (show w.heap.size≤w3.heap.size from(below_size HB.out))
 have NMI:=am (show gbi≠w3.heap.size from Nat.ne_of_lt (blk_lt BKI.out))
 have NMA:=am (show gba≠w3.heap.size from Nat.ne_of_lt (blk_lt BKA.out))
 have n8_:=am (Kd.R_mono (ok':=fun k_=>k_≠w3.heap.size) (Kd.R_bound HO8.out) (fun k_ hk_=>Nat.ne_of_lt hk_.2.2.1))
 have n9_:=am (Kd.R_mono (ok':=fun k_=>k_≠w3.heap.size) (Kd.R_bound HO9.out) (fun k_ hk_=>Nat.ne_of_lt hk_.2.2.1))
 clear HO8 HO9
 have HO8:=n8_
 have HO9:=n9_
 clear n8_ n9_
 go_loopg [8,9,22] k (fun kq v8 v9 v22 w'=>∃(x8:List S37) (x9:List Int) (la:Int→Option Int) (x22:Int) (D:DataW Unit),v22 = .int .i64 x22∧Aside0 (impl_spoken.l0 kq l0 a1 a3 a4 a5 x8 x9 la l2 x22=some (r1,r2))∧Aside0 (kq≤k)∧Aside0 (Kd.R k37 37 w' w.heap.size (fun k_=>k_≠w3.heap.size) v8 x8)∧Aside0 (Kd.R (Kd.int .i64) 3 w' w.heap.size (fun k_=>k_≠w3.heap.size) v9 x9)∧Aside0 (w'.ownsMap Try.prog 3 (plainElem Try.prog 3) w3.heap.size x8.length D)∧Aside0 (impl_spoken.Agree D la)∧Aside0 (w'.heap[gbi]?=some (.cells #[.slice A0 l0.length c0,.int .i64 a1] 24 (0,0)))∧Aside0 (w'.heap[gba]?=some (.cells #[.int .i64 a3,.int .i64 a4,.int .i64 a5] 28 (0,0)))∧Aside0 (Below w.heap.size w w'))
 case atStart=>exact⟨[],[],(fun _=>none),0,.map [],fin2,H',⟨Nat.le_refl _⟩,⟨rup HO8.out⟩,⟨rup HO9.out⟩,⟨World.ownsMap_made _ _ _ _⟩,⟨impl_spoken.agree_made⟩,⟨by exact bup BKI.out⟩,⟨by exact bup BKA.out⟩,⟨bl⟩⟩
 case round =>
  clear H' HO8 HO9 BKI BKA HB
  obtain⟨x8,x9,la,x22,D,rfl,HA,HK1,HO8,HO9,HM,HG,BKI,BKA,HB⟩:=hrel
  cases gk with
  | zero=>exact absurd HA.out (by simp [impl_spoken.l0])
  | succ k1 =>
   have H:=HA.out
   clear HA
   simp only[impl_spoken.l0] at H
   rcases itc H with⟨c9,H⟩|⟨c9,H⟩
   ·have c9b0:=decide_eq_true c9
    obtain⟨c10,H⟩:=ifp H
    have c10b0:=decide_eq_true c10
    obtain⟨cw,H⟩:=ifp H
    have CW:=am cw
    clear cw
    have hs_:=(HG.out.2 (rd_T60 l2 x22).f0).1
    cases hso:(la (rd_T60 l2 x22).f0).isSome with
    | true =>
     obtain⟨b_,hlb⟩:=Option.isSome_iff_exists.1 hso
     rw[hso] at hs_
     have HS:=am hs_
     have HV:=am ((HG.out.2 (rd_T60 l2 x22).f0).2 b_ hlb)
     replace hlb:la (rd_T60 l2 x22).f0=some b_:=hlb
     clear hs_
     by_cases c1:(rd_T60 l2 x22).f0≥(l0.length:Int)
     ·rw[if_pos (show impl_spoken.bad l0 a1 a3 a4 a5 la (rd_T60 l2 x22) from Or.inl c1)] at H
      obtain⟨cl,H⟩:=ifp H
      have CL:=am cl
      clear cl
      have H':=am H
      clear H
      have c1b:decide ((l0.length:Int)≤(rd_T60 l2 x22).f0)=true:=decide_eq_true c1
      clear c9 c10 c1
      (try clear hso)
      have p_:0≤(x22:Int):=od
      have q_:x22<(l2.length:Int):=od
      obtain⟨adh,eh,hxh_0,hxh_1,hxh_2⟩:=at_T60 HR2.out x22 p_ q_
      cases eh
      replace hxh_0:=(HB.out.cell (World.block_lt_of_cell? w _ hxh_0)).trans hxh_0
      replace hxh_1:=(HB.out.cell (World.block_lt_of_cell? w _ hxh_1)).trans hxh_1
      replace hxh_2:=(HB.out.cell (World.block_lt_of_cell? w _ hxh_2)).trans hxh_2
      replace p_:=eq_true p_
      replace q_:=eq_true q_
      go_wp2_with (first|((with_reducible refine gate_dst (N:=12) rfl ?_);refine box_event ?hg (N:=12) ?hd (cs := #[.int .i64 0,.int .i64 0,.int .i64 0]) (t:=60) ?hr ?_;(case hd=>rfl);(case hg=>rfl);(case hr=>first|(go_simp;done)|(go_simp;rfl));intro gbx hg wa hbox hb;replace HO8:=am (Kd.R_below (rup HO8.out) hb);replace HO9:=am (Kd.R_below (rup HO9.out) hb);have BKX:=am (hbox);have GEX:=am (ge_ bl hg);replace HB:=am (below_step bl hb);have NXI:=am ((by rw[hg];exact Nat.ne_of_lt (blk_lt (g:=gbi) (o := .cells #[.slice A0 l0.length c0,.int .i64 a1] 24 (0,0)) (by exact bup BKI.out)):gbi≠gbx));replace BKI:=am (blk_below (g:=gbi) (o := .cells #[.slice A0 l0.length c0,.int .i64 a1] 24 (0,0)) (by exact bup BKI.out) hb);have NXA:=am ((by rw[hg];exact Nat.ne_of_lt (blk_lt (g:=gba) (o := .cells #[.int .i64 a3,.int .i64 a4,.int .i64 a5] 28 (0,0)) (by exact bup BKA.out)):gba≠gbx));replace BKA:=am (blk_below (g:=gba) (o := .cells #[.int .i64 a3,.int .i64 a4,.int .i64 a5] 28 (0,0)) (by exact bup BKA.out) hb);have NXM:=am ((by rw[hg];exact Nat.ne_of_lt (World.ownsMap.lt (by(with_reducible repeat(first|refine impl_spoken.map_drewN ?_ _|refine World.ownsMap.alloc ?_ _));exact HM.out)):w3.heap.size≠gbx));replace HM:=am (impl_spoken.map_below (by(with_reducible repeat(first|refine impl_spoken.map_drewN ?_ _|refine World.ownsMap.alloc ?_ _));exact HM.out) hb);clear hb hbox hg;have hcza_0:=bc BKX.out 0;have hcza_1:=bc BKX.out 1;have hcza_2:=bc BKX.out 2;have hfza_0:=blk_frozen BKX.out 0;have hfza_1:=blk_frozen BKX.out 1;have hfza_2:=blk_frozen BKX.out 2)|((with_reducible refine gate_store (t:=60) (p:=12) rfl ?_);refine store_event (t:=60) (p:=12) (v:=?vo) (w1:=(((wa.setCell ⟨gbx,0,none⟩ (.int .i64 ((rd_T60 l2 x22).f0))).setCell ⟨gbx,1,none⟩ (.int .i64 ((rd_T60 l2 x22).f1))).setCell ⟨gbx,2,none⟩ (.int .i64 ((rd_T60 l2 x22).f2)))) ?hg ?ho ?hn ?hr ?_;(case ho=>rfl);(case hg=>rfl);(case hn=>rfl);(case hr=>first|(go_simp;done)|(go_simp;rfl));intro wb hw;have HO8_:Aside0 (Kd.R k37 37 wb w.heap.size (fun k_=>k_≠w3.heap.size) u8 x8):=⟨(by rw[hw];exact Kd.R_mono (Kd.R_far (p:=⟨gbx,2,none⟩) (Kd.R_far (p:=⟨gbx,1,none⟩) (Kd.R_far (p:=⟨gbx,0,none⟩) (Kd.R_types HO8.out BKX.out (by decide)) (fun _ hk=>hk.2) (.int .i64 ((rd_T60 l2 x22).f0))) (fun _ hk=>hk.2) (.int .i64 ((rd_T60 l2 x22).f1))) (fun _ hk=>hk.2) (.int .i64 ((rd_T60 l2 x22).f2))) (fun _ hk=>hk.1))⟩;have HO9_:Aside0 (Kd.R (Kd.int .i64) 3 wb w.heap.size (fun k_=>k_≠w3.heap.size) u9 x9):=⟨(by rw[hw];exact Kd.R_mono (Kd.R_far (p:=⟨gbx,2,none⟩) (Kd.R_far (p:=⟨gbx,1,none⟩) (Kd.R_far (p:=⟨gbx,0,none⟩) (Kd.R_types HO9.out BKX.out (by decide)) (fun _ hk=>hk.2) (.int .i64 ((rd_T60 l2 x22).f0))) (fun _ hk=>hk.2) (.int .i64 ((rd_T60 l2 x22).f1))) (fun _ hk=>hk.2) (.int .i64 ((rd_T60 l2 x22).f2))) (fun _ hk=>hk.1))⟩;have HM_:Aside0 (wb.ownsMap Try.prog 3 (plainElem Try.prog 3) w3.heap.size x8.length D):=⟨by rw[hw];exact impl_spoken.map_far (impl_spoken.map_far (impl_spoken.map_far HM.out NXM.out) NXM.out) NXM.out⟩;have BKI_:Aside0 (wb.heap[gbi]?=some (.cells #[.slice A0 l0.length c0,.int .i64 a1] 24 (0,0))):=⟨by rw[hw];refine blk_far ?_ NXI.out _;refine blk_far ?_ NXI.out _;refine blk_far ?_ NXI.out _;exact BKI.out⟩;have BKA_:Aside0 (wb.heap[gba]?=some (.cells #[.int .i64 a3,.int .i64 a4,.int .i64 a5] 28 (0,0))):=⟨by rw[hw];refine blk_far ?_ NXA.out _;refine blk_far ?_ NXA.out _;refine blk_far ?_ NXA.out _;exact BKA.out⟩;have BKX_:Aside0 (wb.heap[gbx]?=some (.cells #[.int .i64 ((rd_T60 l2 x22).f0),.int .i64 ((rd_T60 l2 x22).f1),.int .i64 ((rd_T60 l2 x22).f2)] 60 (0,0))):=⟨by rw[hw];refine blk_put (cs := #[.int .i64 ((rd_T60 l2 x22).f0),.int .i64 ((rd_T60 l2 x22).f1),.int .i64 0]) ?_ 2 _ rfl;refine blk_put (cs := #[.int .i64 ((rd_T60 l2 x22).f0),.int .i64 0,.int .i64 0]) ?_ 1 _ rfl;refine blk_put (cs := #[.int .i64 0,.int .i64 0,.int .i64 0]) ?_ 0 _ rfl;exact BKX.out⟩;have HB_:Aside0 (Below w.heap.size w wb):=⟨by rw[hw];exact below_set (below_set (below_set HB.out GEX.out) GEX.out) GEX.out⟩;clear hw HO8 HO9 HM BKI BKA BKX HB;have HO8:=HO8_;have HO9:=HO9_;have HM:=HM_;have BKI:=BKI_;have BKA:=BKA_;have BKX:=BKX_;have HB:=HB_;clear HO8_ HO9_ HM_ BKI_ BKA_ BKX_ HB_;(try clear hcza_0 hcza_1 hcza_2 hfza_0 hfza_1 hfza_2);have hczb_0:=bc BKX.out 0;have hczb_1:=bc BKX.out 1;have hczb_2:=bc BKX.out 2;have hfzb_0:=blk_frozen BKX.out 0;have hfzb_1:=blk_frozen BKX.out 1;have hfzb_2:=blk_frozen BKX.out 2;have hczc_0:=bc BKA.out 0;have hczc_1:=bc BKA.out 1;have hczc_2:=bc BKA.out 2;have hfzc_0:=blk_frozen BKA.out 0;have hfzc_1:=blk_frozen BKA.out 1;have hfzc_2:=blk_frozen BKA.out 2;have hczd_0:=bc BKI.out 0;have hczd_1:=bc BKI.out 1;have hfzd_0:=blk_frozen BKI.out 0;have hfzd_1:=blk_frozen BKI.out 1)|(at_lookup;refine wpList_lookup_own_ok_int _ rfl _ _ 58 rfl 3 3 .i64 impl_spoken.law3 Try.underlying58 Try.underlying3 (impl_spoken.zero3 _) w3.heap.size x8.length D rfl (by exact HM.out) _ _ rfl (Maps.keyOf_int_mk Try.underlying3 CW.out) ?_;intro c_ hat_ hwc_;rw[HS.out];obtain rfl:b_=c_:=(by have e_:=HV.out.symm.trans hat_;injection e_ with e_;injection e_)))
      go_quiet (fail)
      generalize hq_:wb.drewN _=wq
      replace HO8:=am (Kd.R_at hq_ HO8.out)
      replace HO9:=am (Kd.R_at hq_ HO9.out)
      replace BKI:=am (blk_at hq_ BKI.out)
      replace BKA:=am (blk_at hq_ BKA.out)
      replace BKX:=am (blk_at hq_ BKX.out)
      replace HB:=am (below_at hq_ HB.out)
      replace HM:=am (impl_spoken.map_to HM.out (show wq.heap[w3.heap.size]?=wb.heap[w3.heap.size]? from by rw[← hq_];rfl))
      clear hq_
      (try clear hczb_0 hczb_1 hczb_2 hfzb_0 hfzb_1 hfzb_2);(try clear hczc_0 hczc_1 hczc_2 hfzc_0 hfzc_1 hfzc_2);(try clear hczd_0 hczd_1 hfzd_0 hfzd_1)
      have hczg_0:=bc BKX.out 0;have hczg_1:=bc BKX.out 1;have hczg_2:=bc BKX.out 2;have hfzg_0:=blk_frozen BKX.out 0;have hfzg_1:=blk_frozen BKX.out 1;have hfzg_2:=blk_frozen BKX.out 2;have hczh_0:=bc BKA.out 0;have hczh_1:=bc BKA.out 1;have hczh_2:=bc BKA.out 2;have hfzh_0:=blk_frozen BKA.out 0;have hfzh_1:=blk_frozen BKA.out 1;have hfzh_2:=blk_frozen BKA.out 2;have hczi_0:=bc BKI.out 0;have hczi_1:=bc BKI.out 1;have hfzi_0:=blk_frozen BKI.out 0;have hfzi_1:=blk_frozen BKI.out 1
      go_wp2_with (first|((with_reducible refine gate_builtin (b := .append) (xs := #[.tmp 78,.tmp 80]) rfl ?_);at_builtin;refine Kd.R_append (Kd.int .i64) (w0:=w) w.heap.size rfl (.tmp 78) (.tmp 80) 22 3 (.int .i64 0) 8 rfl Try.underlying22 info3 rfl (by decide) (by omega) u9 x9 x22 [.int .i64 x22] (fun k_=>k_≠w3.heap.size) (fun _=>False) rfl (by first|(go_simp;done)|(go_simp;rfl)) ?aP (fun _ hk=>hk.elim) ?aF ?aO ?aB ?aS ?aL ?_;(case aP=>exact rfl);(case aB=>exact bl);(case aF=>exact(fun k_ hk_ e_=>by subst e_;exact absurd hk_ (Nat.not_le_of_lt (World.ownsMap.lt (by(with_reducible repeat(first|refine impl_spoken.map_drewN ?_ _|refine World.ownsMap.alloc ?_ _));exact HM.out)))));(case aO=>exact(rup HO9.out));(case aS=>exact(below_size bl));(case aL=>have:=CL.out;omega);intro va wc ho hb hg hat;replace HO8:=am (Kd.R_over' (rup HO8.out) (Kd.R_typed (rup HO9.out)) (by decide) hg);replace BKI:=am (blk_grown (g:=gbi) (o := .cells #[.slice A0 l0.length c0,.int .i64 a1] 24 (0,0)) (by exact bup BKI.out) hg (Kd.R_ne HO9.out BKI.out (by decide)));replace BKA:=am (blk_grown (g:=gba) (o := .cells #[.int .i64 a3,.int .i64 a4,.int .i64 a5] 28 (0,0)) (by exact bup BKA.out) hg (Kd.R_ne HO9.out BKA.out (by decide)));replace BKX:=am (blk_grown (g:=gbx) (o := .cells #[.int .i64 ((rd_T60 l2 x22).f0),.int .i64 ((rd_T60 l2 x22).f1),.int .i64 ((rd_T60 l2 x22).f2)] 60 (0,0)) (by exact bup BKX.out) hg (Kd.R_ne HO9.out BKX.out (by decide)));replace HM:=am (World.ownsMap.kept (by(with_reducible repeat(first|refine impl_spoken.map_drewN ?_ _|refine World.ownsMap.alloc ?_ _));exact HM.out) hg (fun e_=>HO9.out.1 _ e_.symm rfl));replace HB:=am (hb);replace HO9:=am (ho);clear ho hb hg hat))
      go_roundg k1
      case measure=>have:=HK1.out;omega
      case rel=>exact⟨x8,x9 ++ [x22],la,(wrap64 (x22+1)),D,fin2,H',⟨by have:=HK1.out;omega⟩,⟨rup HO8.out⟩,⟨rup HO9.out⟩,⟨by(with_reducible repeat(first|refine impl_spoken.map_drewN ?_ _|refine World.ownsMap.alloc ?_ _));exact HM.out⟩,HG,⟨by exact bup BKI.out⟩,⟨by exact bup BKA.out⟩,⟨bl⟩⟩
     ·by_cases c2:wrap64 ((rd_T60 l2 x22).f2 - (rd_T60 l2 x22).f1)<a5
      ·rw[if_pos (show impl_spoken.bad l0 a1 a3 a4 a5 la (rd_T60 l2 x22) from Or.inr (Or.inl c2))] at H
       obtain⟨cl,H⟩:=ifp H
       have CL:=am cl
       clear cl
       have H':=am H
       clear H
       have c1b:decide ((l0.length:Int)≤(rd_T60 l2 x22).f0)=false:=decide_eq_false c1
       have c2b:decide (wrap64 ((rd_T60 l2 x22).f2 - (rd_T60 l2 x22).f1)<a5)=true:=decide_eq_true c2
       clear c9 c10 c1 c2
       have p_:0≤(x22:Int):=od
       have q_:x22<(l2.length:Int):=od
       obtain⟨adh,eh,hxh_0,hxh_1,hxh_2⟩:=at_T60 HR2.out x22 p_ q_
       cases eh
       replace hxh_0:=(HB.out.cell (World.block_lt_of_cell? w _ hxh_0)).trans hxh_0
       replace hxh_1:=(HB.out.cell (World.block_lt_of_cell? w _ hxh_1)).trans hxh_1
       replace hxh_2:=(HB.out.cell (World.block_lt_of_cell? w _ hxh_2)).trans hxh_2
       replace p_:=eq_true p_
       replace q_:=eq_true q_
       go_wp2_with (first|((with_reducible refine gate_dst (N:=12) rfl ?_);refine box_event ?hg (N:=12) ?hd (cs := #[.int .i64 0,.int .i64 0,.int .i64 0]) (t:=60) ?hr ?_;(case hd=>rfl);(case hg=>rfl);(case hr=>first|(go_simp;done)|(go_simp;rfl));intro gbx hg wa hbox hb;replace HO8:=am (Kd.R_below (rup HO8.out) hb);replace HO9:=am (Kd.R_below (rup HO9.out) hb);have BKX:=am (hbox);have GEX:=am (ge_ bl hg);replace HB:=am (below_step bl hb);have NXI:=am ((by rw[hg];exact Nat.ne_of_lt (blk_lt (g:=gbi) (o := .cells #[.slice A0 l0.length c0,.int .i64 a1] 24 (0,0)) (by exact bup BKI.out)):gbi≠gbx));replace BKI:=am (blk_below (g:=gbi) (o := .cells #[.slice A0 l0.length c0,.int .i64 a1] 24 (0,0)) (by exact bup BKI.out) hb);have NXA:=am ((by rw[hg];exact Nat.ne_of_lt (blk_lt (g:=gba) (o := .cells #[.int .i64 a3,.int .i64 a4,.int .i64 a5] 28 (0,0)) (by exact bup BKA.out)):gba≠gbx));replace BKA:=am (blk_below (g:=gba) (o := .cells #[.int .i64 a3,.int .i64 a4,.int .i64 a5] 28 (0,0)) (by exact bup BKA.out) hb);have NXM:=am ((by rw[hg];exact Nat.ne_of_lt (World.ownsMap.lt (by(with_reducible repeat(first|refine impl_spoken.map_drewN ?_ _|refine World.ownsMap.alloc ?_ _));exact HM.out)):w3.heap.size≠gbx));replace HM:=am (impl_spoken.map_below (by(with_reducible repeat(first|refine impl_spoken.map_drewN ?_ _|refine World.ownsMap.alloc ?_ _));exact HM.out) hb);clear hb hbox hg;have hcza_0:=bc BKX.out 0;have hcza_1:=bc BKX.out 1;have hcza_2:=bc BKX.out 2;have hfza_0:=blk_frozen BKX.out 0;have hfza_1:=blk_frozen BKX.out 1;have hfza_2:=blk_frozen BKX.out 2)|((with_reducible refine gate_store (t:=60) (p:=12) rfl ?_);refine store_event (t:=60) (p:=12) (v:=?vo) (w1:=(((wa.setCell ⟨gbx,0,none⟩ (.int .i64 ((rd_T60 l2 x22).f0))).setCell ⟨gbx,1,none⟩ (.int .i64 ((rd_T60 l2 x22).f1))).setCell ⟨gbx,2,none⟩ (.int .i64 ((rd_T60 l2 x22).f2)))) ?hg ?ho ?hn ?hr ?_;(case ho=>rfl);(case hg=>rfl);(case hn=>rfl);(case hr=>first|(go_simp;done)|(go_simp;rfl));intro wb hw;have HO8_:Aside0 (Kd.R k37 37 wb w.heap.size (fun k_=>k_≠w3.heap.size) u8 x8):=⟨(by rw[hw];exact Kd.R_mono (Kd.R_far (p:=⟨gbx,2,none⟩) (Kd.R_far (p:=⟨gbx,1,none⟩) (Kd.R_far (p:=⟨gbx,0,none⟩) (Kd.R_types HO8.out BKX.out (by decide)) (fun _ hk=>hk.2) (.int .i64 ((rd_T60 l2 x22).f0))) (fun _ hk=>hk.2) (.int .i64 ((rd_T60 l2 x22).f1))) (fun _ hk=>hk.2) (.int .i64 ((rd_T60 l2 x22).f2))) (fun _ hk=>hk.1))⟩;have HO9_:Aside0 (Kd.R (Kd.int .i64) 3 wb w.heap.size (fun k_=>k_≠w3.heap.size) u9 x9):=⟨(by rw[hw];exact Kd.R_mono (Kd.R_far (p:=⟨gbx,2,none⟩) (Kd.R_far (p:=⟨gbx,1,none⟩) (Kd.R_far (p:=⟨gbx,0,none⟩) (Kd.R_types HO9.out BKX.out (by decide)) (fun _ hk=>hk.2) (.int .i64 ((rd_T60 l2 x22).f0))) (fun _ hk=>hk.2) (.int .i64 ((rd_T60 l2 x22).f1))) (fun _ hk=>hk.2) (.int .i64 ((rd_T60 l2 x22).f2))) (fun _ hk=>hk.1))⟩;have HM_:Aside0 (wb.ownsMap Try.prog 3 (plainElem Try.prog 3) w3.heap.size x8.length D):=⟨by rw[hw];exact impl_spoken.map_far (impl_spoken.map_far (impl_spoken.map_far HM.out NXM.out) NXM.out) NXM.out⟩;have BKI_:Aside0 (wb.heap[gbi]?=some (.cells #[.slice A0 l0.length c0,.int .i64 a1] 24 (0,0))):=⟨by rw[hw];refine blk_far ?_ NXI.out _;refine blk_far ?_ NXI.out _;refine blk_far ?_ NXI.out _;exact BKI.out⟩;have BKA_:Aside0 (wb.heap[gba]?=some (.cells #[.int .i64 a3,.int .i64 a4,.int .i64 a5] 28 (0,0))):=⟨by rw[hw];refine blk_far ?_ NXA.out _;refine blk_far ?_ NXA.out _;refine blk_far ?_ NXA.out _;exact BKA.out⟩;have BKX_:Aside0 (wb.heap[gbx]?=some (.cells #[.int .i64 ((rd_T60 l2 x22).f0),.int .i64 ((rd_T60 l2 x22).f1),.int .i64 ((rd_T60 l2 x22).f2)] 60 (0,0))):=⟨by rw[hw];refine blk_put (cs := #[.int .i64 ((rd_T60 l2 x22).f0),.int .i64 ((rd_T60 l2 x22).f1),.int .i64 0]) ?_ 2 _ rfl;refine blk_put (cs := #[.int .i64 ((rd_T60 l2 x22).f0),.int .i64 0,.int .i64 0]) ?_ 1 _ rfl;refine blk_put (cs := #[.int .i64 0,.int .i64 0,.int .i64 0]) ?_ 0 _ rfl;exact BKX.out⟩;have HB_:Aside0 (Below w.heap.size w wb):=⟨by rw[hw];exact below_set (below_set (below_set HB.out GEX.out) GEX.out) GEX.out⟩;clear hw HO8 HO9 HM BKI BKA BKX HB;have HO8:=HO8_;have HO9:=HO9_;have HM:=HM_;have BKI:=BKI_;have BKA:=BKA_;have BKX:=BKX_;have HB:=HB_;clear HO8_ HO9_ HM_ BKI_ BKA_ BKX_ HB_;(try clear hcza_0 hcza_1 hcza_2 hfza_0 hfza_1 hfza_2);have hczb_0:=bc BKX.out 0;have hczb_1:=bc BKX.out 1;have hczb_2:=bc BKX.out 2;have hfzb_0:=blk_frozen BKX.out 0;have hfzb_1:=blk_frozen BKX.out 1;have hfzb_2:=blk_frozen BKX.out 2;have hczc_0:=bc BKA.out 0;have hczc_1:=bc BKA.out 1;have hczc_2:=bc BKA.out 2;have hfzc_0:=blk_frozen BKA.out 0;have hfzc_1:=blk_frozen BKA.out 1;have hfzc_2:=blk_frozen BKA.out 2;have hczd_0:=bc BKI.out 0;have hczd_1:=bc BKI.out 1;have hfzd_0:=blk_frozen BKI.out 0;have hfzd_1:=blk_frozen BKI.out 1)|(at_lookup;refine wpList_lookup_own_ok_int _ rfl _ _ 58 rfl 3 3 .i64 impl_spoken.law3 Try.underlying58 Try.underlying3 (impl_spoken.zero3 _) w3.heap.size x8.length D rfl (by exact HM.out) _ _ rfl (Maps.keyOf_int_mk Try.underlying3 CW.out) ?_;intro c_ hat_ hwc_;rw[HS.out];obtain rfl:b_=c_:=(by have e_:=HV.out.symm.trans hat_;injection e_ with e_;injection e_)))
       go_quiet (fail)
       generalize hq_:wb.drewN _=wq
       replace HO8:=am (Kd.R_at hq_ HO8.out)
       replace HO9:=am (Kd.R_at hq_ HO9.out)
       replace BKI:=am (blk_at hq_ BKI.out)
       replace BKA:=am (blk_at hq_ BKA.out)
       replace BKX:=am (blk_at hq_ BKX.out)
       replace HB:=am (below_at hq_ HB.out)
       replace HM:=am (impl_spoken.map_to HM.out (show wq.heap[w3.heap.size]?=wb.heap[w3.heap.size]? from by rw[← hq_];rfl))
       clear hq_
       (try clear hczb_0 hczb_1 hczb_2 hfzb_0 hfzb_1 hfzb_2);(try clear hczc_0 hczc_1 hczc_2 hfzc_0 hfzc_1 hfzc_2);(try clear hczd_0 hczd_1 hfzd_0 hfzd_1)
       have hczg_0:=bc BKX.out 0;have hczg_1:=bc BKX.out 1;have hczg_2:=bc BKX.out 2;have hfzg_0:=blk_frozen BKX.out 0;have hfzg_1:=blk_frozen BKX.out 1;have hfzg_2:=blk_frozen BKX.out 2;have hczh_0:=bc BKA.out 0;have hczh_1:=bc BKA.out 1;have hczh_2:=bc BKA.out 2;have hfzh_0:=blk_frozen BKA.out 0;have hfzh_1:=blk_frozen BKA.out 1;have hfzh_2:=blk_frozen BKA.out 2;have hczi_0:=bc BKI.out 0;have hczi_1:=bc BKI.out 1;have hfzi_0:=blk_frozen BKI.out 0;have hfzi_1:=blk_frozen BKI.out 1
       go_wp2_with (first|((with_reducible refine gate_builtin (b := .append) (xs := #[.tmp 78,.tmp 80]) rfl ?_);at_builtin;refine Kd.R_append (Kd.int .i64) (w0:=w) w.heap.size rfl (.tmp 78) (.tmp 80) 22 3 (.int .i64 0) 8 rfl Try.underlying22 info3 rfl (by decide) (by omega) u9 x9 x22 [.int .i64 x22] (fun k_=>k_≠w3.heap.size) (fun _=>False) rfl (by first|(go_simp;done)|(go_simp;rfl)) ?aP (fun _ hk=>hk.elim) ?aF ?aO ?aB ?aS ?aL ?_;(case aP=>exact rfl);(case aB=>exact bl);(case aF=>exact(fun k_ hk_ e_=>by subst e_;exact absurd hk_ (Nat.not_le_of_lt (World.ownsMap.lt (by(with_reducible repeat(first|refine impl_spoken.map_drewN ?_ _|refine World.ownsMap.alloc ?_ _));exact HM.out)))));(case aO=>exact(rup HO9.out));(case aS=>exact(below_size bl));(case aL=>have:=CL.out;omega);intro va wc ho hb hg hat;replace HO8:=am (Kd.R_over' (rup HO8.out) (Kd.R_typed (rup HO9.out)) (by decide) hg);replace BKI:=am (blk_grown (g:=gbi) (o := .cells #[.slice A0 l0.length c0,.int .i64 a1] 24 (0,0)) (by exact bup BKI.out) hg (Kd.R_ne HO9.out BKI.out (by decide)));replace BKA:=am (blk_grown (g:=gba) (o := .cells #[.int .i64 a3,.int .i64 a4,.int .i64 a5] 28 (0,0)) (by exact bup BKA.out) hg (Kd.R_ne HO9.out BKA.out (by decide)));replace BKX:=am (blk_grown (g:=gbx) (o := .cells #[.int .i64 ((rd_T60 l2 x22).f0),.int .i64 ((rd_T60 l2 x22).f1),.int .i64 ((rd_T60 l2 x22).f2)] 60 (0,0)) (by exact bup BKX.out) hg (Kd.R_ne HO9.out BKX.out (by decide)));replace HM:=am (World.ownsMap.kept (by(with_reducible repeat(first|refine impl_spoken.map_drewN ?_ _|refine World.ownsMap.alloc ?_ _));exact HM.out) hg (fun e_=>HO9.out.1 _ e_.symm rfl));replace HB:=am (hb);replace HO9:=am (ho);clear ho hb hg hat))
       go_roundg k1
       case measure=>have:=HK1.out;omega
       case rel=>exact⟨x8,x9 ++ [x22],la,(wrap64 (x22+1)),D,fin2,H',⟨by have:=HK1.out;omega⟩,⟨rup HO8.out⟩,⟨rup HO9.out⟩,⟨by(with_reducible repeat(first|refine impl_spoken.map_drewN ?_ _|refine World.ownsMap.alloc ?_ _));exact HM.out⟩,HG,⟨by exact bup BKI.out⟩,⟨by exact bup BKA.out⟩,⟨bl⟩⟩
      ·by_cases c3:wrap64 ((rd_T60 l2 x22).f1 - b_)<wrap64 (2*a1)
       ·have hv3:wrap64 ((rd_T60 l2 x22).f1 - (la (rd_T60 l2 x22).f0).getD 0)<wrap64 (2*a1):=by rw[hlb];exact c3
        rw[if_pos (show impl_spoken.bad l0 a1 a3 a4 a5 la (rd_T60 l2 x22) from Or.inr (Or.inr (Or.inl ⟨hso,hv3⟩)))] at H
        obtain⟨cl,H⟩:=ifp H
        have CL:=am cl
        clear cl
        have H':=am H
        clear H
        have c1b:decide ((l0.length:Int)≤(rd_T60 l2 x22).f0)=false:=decide_eq_false c1
        have c2b:decide (wrap64 ((rd_T60 l2 x22).f2 - (rd_T60 l2 x22).f1)<a5)=false:=decide_eq_false c2
        have c3b:decide (wrap64 ((rd_T60 l2 x22).f1 - b_)<wrap64 (2*a1))=true:=decide_eq_true c3
        clear c9 c10 c1 c2 c3 hv3
        (try clear hso)
        have p_:0≤(x22:Int):=od
        have q_:x22<(l2.length:Int):=od
        obtain⟨adh,eh,hxh_0,hxh_1,hxh_2⟩:=at_T60 HR2.out x22 p_ q_
        cases eh
        replace hxh_0:=(HB.out.cell (World.block_lt_of_cell? w _ hxh_0)).trans hxh_0
        replace hxh_1:=(HB.out.cell (World.block_lt_of_cell? w _ hxh_1)).trans hxh_1
        replace hxh_2:=(HB.out.cell (World.block_lt_of_cell? w _ hxh_2)).trans hxh_2
        replace p_:=eq_true p_
        replace q_:=eq_true q_
        go_wp2_with (first|((with_reducible refine gate_dst (N:=12) rfl ?_);refine box_event ?hg (N:=12) ?hd (cs := #[.int .i64 0,.int .i64 0,.int .i64 0]) (t:=60) ?hr ?_;(case hd=>rfl);(case hg=>rfl);(case hr=>first|(go_simp;done)|(go_simp;rfl));intro gbx hg wa hbox hb;replace HO8:=am (Kd.R_below (rup HO8.out) hb);replace HO9:=am (Kd.R_below (rup HO9.out) hb);have BKX:=am (hbox);have GEX:=am (ge_ bl hg);replace HB:=am (below_step bl hb);have NXI:=am ((by rw[hg];exact Nat.ne_of_lt (blk_lt (g:=gbi) (o := .cells #[.slice A0 l0.length c0,.int .i64 a1] 24 (0,0)) (by exact bup BKI.out)):gbi≠gbx));replace BKI:=am (blk_below (g:=gbi) (o := .cells #[.slice A0 l0.length c0,.int .i64 a1] 24 (0,0)) (by exact bup BKI.out) hb);have NXA:=am ((by rw[hg];exact Nat.ne_of_lt (blk_lt (g:=gba) (o := .cells #[.int .i64 a3,.int .i64 a4,.int .i64 a5] 28 (0,0)) (by exact bup BKA.out)):gba≠gbx));replace BKA:=am (blk_below (g:=gba) (o := .cells #[.int .i64 a3,.int .i64 a4,.int .i64 a5] 28 (0,0)) (by exact bup BKA.out) hb);have NXM:=am ((by rw[hg];exact Nat.ne_of_lt (World.ownsMap.lt (by(with_reducible repeat(first|refine impl_spoken.map_drewN ?_ _|refine World.ownsMap.alloc ?_ _));exact HM.out)):w3.heap.size≠gbx));replace HM:=am (impl_spoken.map_below (by(with_reducible repeat(first|refine impl_spoken.map_drewN ?_ _|refine World.ownsMap.alloc ?_ _));exact HM.out) hb);clear hb hbox hg;have hcza_0:=bc BKX.out 0;have hcza_1:=bc BKX.out 1;have hcza_2:=bc BKX.out 2;have hfza_0:=blk_frozen BKX.out 0;have hfza_1:=blk_frozen BKX.out 1;have hfza_2:=blk_frozen BKX.out 2)|((with_reducible refine gate_store (t:=60) (p:=12) rfl ?_);refine store_event (t:=60) (p:=12) (v:=?vo) (w1:=(((wa.setCell ⟨gbx,0,none⟩ (.int .i64 ((rd_T60 l2 x22).f0))).setCell ⟨gbx,1,none⟩ (.int .i64 ((rd_T60 l2 x22).f1))).setCell ⟨gbx,2,none⟩ (.int .i64 ((rd_T60 l2 x22).f2)))) ?hg ?ho ?hn ?hr ?_;(case ho=>rfl);(case hg=>rfl);(case hn=>rfl);(case hr=>first|(go_simp;done)|(go_simp;rfl));intro wb hw;have HO8_:Aside0 (Kd.R k37 37 wb w.heap.size (fun k_=>k_≠w3.heap.size) u8 x8):=⟨(by rw[hw];exact Kd.R_mono (Kd.R_far (p:=⟨gbx,2,none⟩) (Kd.R_far (p:=⟨gbx,1,none⟩) (Kd.R_far (p:=⟨gbx,0,none⟩) (Kd.R_types HO8.out BKX.out (by decide)) (fun _ hk=>hk.2) (.int .i64 ((rd_T60 l2 x22).f0))) (fun _ hk=>hk.2) (.int .i64 ((rd_T60 l2 x22).f1))) (fun _ hk=>hk.2) (.int .i64 ((rd_T60 l2 x22).f2))) (fun _ hk=>hk.1))⟩;have HO9_:Aside0 (Kd.R (Kd.int .i64) 3 wb w.heap.size (fun k_=>k_≠w3.heap.size) u9 x9):=⟨(by rw[hw];exact Kd.R_mono (Kd.R_far (p:=⟨gbx,2,none⟩) (Kd.R_far (p:=⟨gbx,1,none⟩) (Kd.R_far (p:=⟨gbx,0,none⟩) (Kd.R_types HO9.out BKX.out (by decide)) (fun _ hk=>hk.2) (.int .i64 ((rd_T60 l2 x22).f0))) (fun _ hk=>hk.2) (.int .i64 ((rd_T60 l2 x22).f1))) (fun _ hk=>hk.2) (.int .i64 ((rd_T60 l2 x22).f2))) (fun _ hk=>hk.1))⟩;have HM_:Aside0 (wb.ownsMap Try.prog 3 (plainElem Try.prog 3) w3.heap.size x8.length D):=⟨by rw[hw];exact impl_spoken.map_far (impl_spoken.map_far (impl_spoken.map_far HM.out NXM.out) NXM.out) NXM.out⟩;have BKI_:Aside0 (wb.heap[gbi]?=some (.cells #[.slice A0 l0.length c0,.int .i64 a1] 24 (0,0))):=⟨by rw[hw];refine blk_far ?_ NXI.out _;refine blk_far ?_ NXI.out _;refine blk_far ?_ NXI.out _;exact BKI.out⟩;have BKA_:Aside0 (wb.heap[gba]?=some (.cells #[.int .i64 a3,.int .i64 a4,.int .i64 a5] 28 (0,0))):=⟨by rw[hw];refine blk_far ?_ NXA.out _;refine blk_far ?_ NXA.out _;refine blk_far ?_ NXA.out _;exact BKA.out⟩;have BKX_:Aside0 (wb.heap[gbx]?=some (.cells #[.int .i64 ((rd_T60 l2 x22).f0),.int .i64 ((rd_T60 l2 x22).f1),.int .i64 ((rd_T60 l2 x22).f2)] 60 (0,0))):=⟨by rw[hw];refine blk_put (cs := #[.int .i64 ((rd_T60 l2 x22).f0),.int .i64 ((rd_T60 l2 x22).f1),.int .i64 0]) ?_ 2 _ rfl;refine blk_put (cs := #[.int .i64 ((rd_T60 l2 x22).f0),.int .i64 0,.int .i64 0]) ?_ 1 _ rfl;refine blk_put (cs := #[.int .i64 0,.int .i64 0,.int .i64 0]) ?_ 0 _ rfl;exact BKX.out⟩;have HB_:Aside0 (Below w.heap.size w wb):=⟨by rw[hw];exact below_set (below_set (below_set HB.out GEX.out) GEX.out) GEX.out⟩;clear hw HO8 HO9 HM BKI BKA BKX HB;have HO8:=HO8_;have HO9:=HO9_;have HM:=HM_;have BKI:=BKI_;have BKA:=BKA_;have BKX:=BKX_;have HB:=HB_;clear HO8_ HO9_ HM_ BKI_ BKA_ BKX_ HB_;(try clear hcza_0 hcza_1 hcza_2 hfza_0 hfza_1 hfza_2);have hczb_0:=bc BKX.out 0;have hczb_1:=bc BKX.out 1;have hczb_2:=bc BKX.out 2;have hfzb_0:=blk_frozen BKX.out 0;have hfzb_1:=blk_frozen BKX.out 1;have hfzb_2:=blk_frozen BKX.out 2;have hczc_0:=bc BKA.out 0;have hczc_1:=bc BKA.out 1;have hczc_2:=bc BKA.out 2;have hfzc_0:=blk_frozen BKA.out 0;have hfzc_1:=blk_frozen BKA.out 1;have hfzc_2:=blk_frozen BKA.out 2;have hczd_0:=bc BKI.out 0;have hczd_1:=bc BKI.out 1;have hfzd_0:=blk_frozen BKI.out 0;have hfzd_1:=blk_frozen BKI.out 1)|(at_lookup;refine wpList_lookup_own_ok_int _ rfl _ _ 58 rfl 3 3 .i64 impl_spoken.law3 Try.underlying58 Try.underlying3 (impl_spoken.zero3 _) w3.heap.size x8.length D rfl (by exact HM.out) _ _ rfl (Maps.keyOf_int_mk Try.underlying3 CW.out) ?_;intro c_ hat_ hwc_;rw[HS.out];obtain rfl:b_=c_:=(by have e_:=HV.out.symm.trans hat_;injection e_ with e_;injection e_)))
        go_quiet (fail)
        generalize hq_:wb.drewN _=wq
        replace HO8:=am (Kd.R_at hq_ HO8.out)
        replace HO9:=am (Kd.R_at hq_ HO9.out)
        replace BKI:=am (blk_at hq_ BKI.out)
        replace BKA:=am (blk_at hq_ BKA.out)
        replace BKX:=am (blk_at hq_ BKX.out)
        replace HB:=am (below_at hq_ HB.out)
        replace HM:=am (impl_spoken.map_to HM.out (show wq.heap[w3.heap.size]?=wb.heap[w3.heap.size]? from by rw[← hq_];rfl))
        clear hq_
        (try clear hczb_0 hczb_1 hczb_2 hfzb_0 hfzb_1 hfzb_2);(try clear hczc_0 hczc_1 hczc_2 hfzc_0 hfzc_1 hfzc_2);(try clear hczd_0 hczd_1 hfzd_0 hfzd_1)
        have hczg_0:=bc BKX.out 0;have hczg_1:=bc BKX.out 1;have hczg_2:=bc BKX.out 2;have hfzg_0:=blk_frozen BKX.out 0;have hfzg_1:=blk_frozen BKX.out 1;have hfzg_2:=blk_frozen BKX.out 2;have hczh_0:=bc BKA.out 0;have hczh_1:=bc BKA.out 1;have hczh_2:=bc BKA.out 2;have hfzh_0:=blk_frozen BKA.out 0;have hfzh_1:=blk_frozen BKA.out 1;have hfzh_2:=blk_frozen BKA.out 2;have hczi_0:=bc BKI.out 0;have hczi_1:=bc BKI.out 1;have hfzi_0:=blk_frozen BKI.out 0;have hfzi_1:=blk_frozen BKI.out 1
        go_wp2_with (first|((with_reducible refine gate_builtin (b := .append) (xs := #[.tmp 78,.tmp 80]) rfl ?_);at_builtin;refine Kd.R_append (Kd.int .i64) (w0:=w) w.heap.size rfl (.tmp 78) (.tmp 80) 22 3 (.int .i64 0) 8 rfl Try.underlying22 info3 rfl (by decide) (by omega) u9 x9 x22 [.int .i64 x22] (fun k_=>k_≠w3.heap.size) (fun _=>False) rfl (by first|(go_simp;done)|(go_simp;rfl)) ?aP (fun _ hk=>hk.elim) ?aF ?aO ?aB ?aS ?aL ?_;(case aP=>exact rfl);(case aB=>exact bl);(case aF=>exact(fun k_ hk_ e_=>by subst e_;exact absurd hk_ (Nat.not_le_of_lt (World.ownsMap.lt (by(with_reducible repeat(first|refine impl_spoken.map_drewN ?_ _|refine World.ownsMap.alloc ?_ _));exact HM.out)))));(case aO=>exact(rup HO9.out));(case aS=>exact(below_size bl));(case aL=>have:=CL.out;omega);intro va wc ho hb hg hat;replace HO8:=am (Kd.R_over' (rup HO8.out) (Kd.R_typed (rup HO9.out)) (by decide) hg);replace BKI:=am (blk_grown (g:=gbi) (o := .cells #[.slice A0 l0.length c0,.int .i64 a1] 24 (0,0)) (by exact bup BKI.out) hg (Kd.R_ne HO9.out BKI.out (by decide)));replace BKA:=am (blk_grown (g:=gba) (o := .cells #[.int .i64 a3,.int .i64 a4,.int .i64 a5] 28 (0,0)) (by exact bup BKA.out) hg (Kd.R_ne HO9.out BKA.out (by decide)));replace BKX:=am (blk_grown (g:=gbx) (o := .cells #[.int .i64 ((rd_T60 l2 x22).f0),.int .i64 ((rd_T60 l2 x22).f1),.int .i64 ((rd_T60 l2 x22).f2)] 60 (0,0)) (by exact bup BKX.out) hg (Kd.R_ne HO9.out BKX.out (by decide)));replace HM:=am (World.ownsMap.kept (by(with_reducible repeat(first|refine impl_spoken.map_drewN ?_ _|refine World.ownsMap.alloc ?_ _));exact HM.out) hg (fun e_=>HO9.out.1 _ e_.symm rfl));replace HB:=am (hb);replace HO9:=am (ho);clear ho hb hg hat))
        go_roundg k1
        case measure=>have:=HK1.out;omega
        case rel=>exact⟨x8,x9 ++ [x22],la,(wrap64 (x22+1)),D,fin2,H',⟨by have:=HK1.out;omega⟩,⟨rup HO8.out⟩,⟨rup HO9.out⟩,⟨by(with_reducible repeat(first|refine impl_spoken.map_drewN ?_ _|refine World.ownsMap.alloc ?_ _));exact HM.out⟩,HG,⟨by exact bup BKI.out⟩,⟨by exact bup BKA.out⟩,⟨bl⟩⟩
       ·have hv3:¬ wrap64 ((rd_T60 l2 x22).f1 - (la (rd_T60 l2 x22).f0).getD 0)<wrap64 (2*a1):=by rw[hlb];exact c3
        by_cases c4:wrap64 ((rd_T60 l2 x22).f1+a3)≥wrap64 ((rd_T60 l2 x22).f2+a4)
        ·rw[if_pos (show impl_spoken.bad l0 a1 a3 a4 a5 la (rd_T60 l2 x22) from Or.inr (Or.inr (Or.inr c4)))] at H
         obtain⟨cl,H⟩:=ifp H
         have CL:=am cl
         clear cl
         have H':=am H
         clear H
         have c1b:decide ((l0.length:Int)≤(rd_T60 l2 x22).f0)=false:=decide_eq_false c1
         have c2b:decide (wrap64 ((rd_T60 l2 x22).f2 - (rd_T60 l2 x22).f1)<a5)=false:=decide_eq_false c2
         have c3b:decide (wrap64 ((rd_T60 l2 x22).f1 - b_)<wrap64 (2*a1))=false:=decide_eq_false c3
         have c4b:decide (wrap64 ((rd_T60 l2 x22).f2+a4)≤wrap64 ((rd_T60 l2 x22).f1+a3))=true:=decide_eq_true c4
         clear c9 c10 c1 c2 c3 hv3 c4
         have p_:0≤(x22:Int):=od
         have q_:x22<(l2.length:Int):=od
         obtain⟨adh,eh,hxh_0,hxh_1,hxh_2⟩:=at_T60 HR2.out x22 p_ q_
         cases eh
         replace hxh_0:=(HB.out.cell (World.block_lt_of_cell? w _ hxh_0)).trans hxh_0
         replace hxh_1:=(HB.out.cell (World.block_lt_of_cell? w _ hxh_1)).trans hxh_1
         replace hxh_2:=(HB.out.cell (World.block_lt_of_cell? w _ hxh_2)).trans hxh_2
         replace p_:=eq_true p_
         replace q_:=eq_true q_
         go_wp2_with (first|((with_reducible refine gate_dst (N:=12) rfl ?_);refine box_event ?hg (N:=12) ?hd (cs := #[.int .i64 0,.int .i64 0,.int .i64 0]) (t:=60) ?hr ?_;(case hd=>rfl);(case hg=>rfl);(case hr=>first|(go_simp;done)|(go_simp;rfl));intro gbx hg wa hbox hb;replace HO8:=am (Kd.R_below (rup HO8.out) hb);replace HO9:=am (Kd.R_below (rup HO9.out) hb);have BKX:=am (hbox);have GEX:=am (ge_ bl hg);replace HB:=am (below_step bl hb);have NXI:=am ((by rw[hg];exact Nat.ne_of_lt (blk_lt (g:=gbi) (o := .cells #[.slice A0 l0.length c0,.int .i64 a1] 24 (0,0)) (by exact bup BKI.out)):gbi≠gbx));replace BKI:=am (blk_below (g:=gbi) (o := .cells #[.slice A0 l0.length c0,.int .i64 a1] 24 (0,0)) (by exact bup BKI.out) hb);have NXA:=am ((by rw[hg];exact Nat.ne_of_lt (blk_lt (g:=gba) (o := .cells #[.int .i64 a3,.int .i64 a4,.int .i64 a5] 28 (0,0)) (by exact bup BKA.out)):gba≠gbx));replace BKA:=am (blk_below (g:=gba) (o := .cells #[.int .i64 a3,.int .i64 a4,.int .i64 a5] 28 (0,0)) (by exact bup BKA.out) hb);have NXM:=am ((by rw[hg];exact Nat.ne_of_lt (World.ownsMap.lt (by(with_reducible repeat(first|refine impl_spoken.map_drewN ?_ _|refine World.ownsMap.alloc ?_ _));exact HM.out)):w3.heap.size≠gbx));replace HM:=am (impl_spoken.map_below (by(with_reducible repeat(first|refine impl_spoken.map_drewN ?_ _|refine World.ownsMap.alloc ?_ _));exact HM.out) hb);clear hb hbox hg;have hcza_0:=bc BKX.out 0;have hcza_1:=bc BKX.out 1;have hcza_2:=bc BKX.out 2;have hfza_0:=blk_frozen BKX.out 0;have hfza_1:=blk_frozen BKX.out 1;have hfza_2:=blk_frozen BKX.out 2)|((with_reducible refine gate_store (t:=60) (p:=12) rfl ?_);refine store_event (t:=60) (p:=12) (v:=?vo) (w1:=(((wa.setCell ⟨gbx,0,none⟩ (.int .i64 ((rd_T60 l2 x22).f0))).setCell ⟨gbx,1,none⟩ (.int .i64 ((rd_T60 l2 x22).f1))).setCell ⟨gbx,2,none⟩ (.int .i64 ((rd_T60 l2 x22).f2)))) ?hg ?ho ?hn ?hr ?_;(case ho=>rfl);(case hg=>rfl);(case hn=>rfl);(case hr=>first|(go_simp;done)|(go_simp;rfl));intro wb hw;have HO8_:Aside0 (Kd.R k37 37 wb w.heap.size (fun k_=>k_≠w3.heap.size) u8 x8):=⟨(by rw[hw];exact Kd.R_mono (Kd.R_far (p:=⟨gbx,2,none⟩) (Kd.R_far (p:=⟨gbx,1,none⟩) (Kd.R_far (p:=⟨gbx,0,none⟩) (Kd.R_types HO8.out BKX.out (by decide)) (fun _ hk=>hk.2) (.int .i64 ((rd_T60 l2 x22).f0))) (fun _ hk=>hk.2) (.int .i64 ((rd_T60 l2 x22).f1))) (fun _ hk=>hk.2) (.int .i64 ((rd_T60 l2 x22).f2))) (fun _ hk=>hk.1))⟩;have HO9_:Aside0 (Kd.R (Kd.int .i64) 3 wb w.heap.size (fun k_=>k_≠w3.heap.size) u9 x9):=⟨(by rw[hw];exact Kd.R_mono (Kd.R_far (p:=⟨gbx,2,none⟩) (Kd.R_far (p:=⟨gbx,1,none⟩) (Kd.R_far (p:=⟨gbx,0,none⟩) (Kd.R_types HO9.out BKX.out (by decide)) (fun _ hk=>hk.2) (.int .i64 ((rd_T60 l2 x22).f0))) (fun _ hk=>hk.2) (.int .i64 ((rd_T60 l2 x22).f1))) (fun _ hk=>hk.2) (.int .i64 ((rd_T60 l2 x22).f2))) (fun _ hk=>hk.1))⟩;have HM_:Aside0 (wb.ownsMap Try.prog 3 (plainElem Try.prog 3) w3.heap.size x8.length D):=⟨by rw[hw];exact impl_spoken.map_far (impl_spoken.map_far (impl_spoken.map_far HM.out NXM.out) NXM.out) NXM.out⟩;have BKI_:Aside0 (wb.heap[gbi]?=some (.cells #[.slice A0 l0.length c0,.int .i64 a1] 24 (0,0))):=⟨by rw[hw];refine blk_far ?_ NXI.out _;refine blk_far ?_ NXI.out _;refine blk_far ?_ NXI.out _;exact BKI.out⟩;have BKA_:Aside0 (wb.heap[gba]?=some (.cells #[.int .i64 a3,.int .i64 a4,.int .i64 a5] 28 (0,0))):=⟨by rw[hw];refine blk_far ?_ NXA.out _;refine blk_far ?_ NXA.out _;refine blk_far ?_ NXA.out _;exact BKA.out⟩;have BKX_:Aside0 (wb.heap[gbx]?=some (.cells #[.int .i64 ((rd_T60 l2 x22).f0),.int .i64 ((rd_T60 l2 x22).f1),.int .i64 ((rd_T60 l2 x22).f2)] 60 (0,0))):=⟨by rw[hw];refine blk_put (cs := #[.int .i64 ((rd_T60 l2 x22).f0),.int .i64 ((rd_T60 l2 x22).f1),.int .i64 0]) ?_ 2 _ rfl;refine blk_put (cs := #[.int .i64 ((rd_T60 l2 x22).f0),.int .i64 0,.int .i64 0]) ?_ 1 _ rfl;refine blk_put (cs := #[.int .i64 0,.int .i64 0,.int .i64 0]) ?_ 0 _ rfl;exact BKX.out⟩;have HB_:Aside0 (Below w.heap.size w wb):=⟨by rw[hw];exact below_set (below_set (below_set HB.out GEX.out) GEX.out) GEX.out⟩;clear hw HO8 HO9 HM BKI BKA BKX HB;have HO8:=HO8_;have HO9:=HO9_;have HM:=HM_;have BKI:=BKI_;have BKA:=BKA_;have BKX:=BKX_;have HB:=HB_;clear HO8_ HO9_ HM_ BKI_ BKA_ BKX_ HB_;(try clear hcza_0 hcza_1 hcza_2 hfza_0 hfza_1 hfza_2);have hczb_0:=bc BKX.out 0;have hczb_1:=bc BKX.out 1;have hczb_2:=bc BKX.out 2;have hfzb_0:=blk_frozen BKX.out 0;have hfzb_1:=blk_frozen BKX.out 1;have hfzb_2:=blk_frozen BKX.out 2;have hczc_0:=bc BKA.out 0;have hczc_1:=bc BKA.out 1;have hczc_2:=bc BKA.out 2;have hfzc_0:=blk_frozen BKA.out 0;have hfzc_1:=blk_frozen BKA.out 1;have hfzc_2:=blk_frozen BKA.out 2;have hczd_0:=bc BKI.out 0;have hczd_1:=bc BKI.out 1;have hfzd_0:=blk_frozen BKI.out 0;have hfzd_1:=blk_frozen BKI.out 1)|(at_lookup;refine wpList_lookup_own_ok_int _ rfl _ _ 58 rfl 3 3 .i64 impl_spoken.law3 Try.underlying58 Try.underlying3 (impl_spoken.zero3 _) w3.heap.size x8.length D rfl (by exact HM.out) _ _ rfl (Maps.keyOf_int_mk Try.underlying3 CW.out) ?_;intro c_ hat_ hwc_;rw[HS.out];obtain rfl:b_=c_:=(by have e_:=HV.out.symm.trans hat_;injection e_ with e_;injection e_)))
         go_quiet (fail)
         generalize hq_:wb.drewN _=wq
         replace HO8:=am (Kd.R_at hq_ HO8.out)
         replace HO9:=am (Kd.R_at hq_ HO9.out)
         replace BKI:=am (blk_at hq_ BKI.out)
         replace BKA:=am (blk_at hq_ BKA.out)
         replace BKX:=am (blk_at hq_ BKX.out)
         replace HB:=am (below_at hq_ HB.out)
         replace HM:=am (impl_spoken.map_to HM.out (show wq.heap[w3.heap.size]?=wb.heap[w3.heap.size]? from by rw[← hq_];rfl))
         clear hq_
         (try clear hczb_0 hczb_1 hczb_2 hfzb_0 hfzb_1 hfzb_2);(try clear hczc_0 hczc_1 hczc_2 hfzc_0 hfzc_1 hfzc_2);(try clear hczd_0 hczd_1 hfzd_0 hfzd_1)
         have hczg_0:=bc BKX.out 0;have hczg_1:=bc BKX.out 1;have hczg_2:=bc BKX.out 2;have hfzg_0:=blk_frozen BKX.out 0;have hfzg_1:=blk_frozen BKX.out 1;have hfzg_2:=blk_frozen BKX.out 2;have hczh_0:=bc BKA.out 0;have hczh_1:=bc BKA.out 1;have hczh_2:=bc BKA.out 2;have hfzh_0:=blk_frozen BKA.out 0;have hfzh_1:=blk_frozen BKA.out 1;have hfzh_2:=blk_frozen BKA.out 2;have hczi_0:=bc BKI.out 0;have hczi_1:=bc BKI.out 1;have hfzi_0:=blk_frozen BKI.out 0;have hfzi_1:=blk_frozen BKI.out 1
         go_wp2_with (first|((with_reducible refine gate_builtin (b := .append) (xs := #[.tmp 78,.tmp 80]) rfl ?_);at_builtin;refine Kd.R_append (Kd.int .i64) (w0:=w) w.heap.size rfl (.tmp 78) (.tmp 80) 22 3 (.int .i64 0) 8 rfl Try.underlying22 info3 rfl (by decide) (by omega) u9 x9 x22 [.int .i64 x22] (fun k_=>k_≠w3.heap.size) (fun _=>False) rfl (by first|(go_simp;done)|(go_simp;rfl)) ?aP (fun _ hk=>hk.elim) ?aF ?aO ?aB ?aS ?aL ?_;(case aP=>exact rfl);(case aB=>exact bl);(case aF=>exact(fun k_ hk_ e_=>by subst e_;exact absurd hk_ (Nat.not_le_of_lt (World.ownsMap.lt (by(with_reducible repeat(first|refine impl_spoken.map_drewN ?_ _|refine World.ownsMap.alloc ?_ _));exact HM.out)))));(case aO=>exact(rup HO9.out));(case aS=>exact(below_size bl));(case aL=>have:=CL.out;omega);intro va wc ho hb hg hat;replace HO8:=am (Kd.R_over' (rup HO8.out) (Kd.R_typed (rup HO9.out)) (by decide) hg);replace BKI:=am (blk_grown (g:=gbi) (o := .cells #[.slice A0 l0.length c0,.int .i64 a1] 24 (0,0)) (by exact bup BKI.out) hg (Kd.R_ne HO9.out BKI.out (by decide)));replace BKA:=am (blk_grown (g:=gba) (o := .cells #[.int .i64 a3,.int .i64 a4,.int .i64 a5] 28 (0,0)) (by exact bup BKA.out) hg (Kd.R_ne HO9.out BKA.out (by decide)));replace BKX:=am (blk_grown (g:=gbx) (o := .cells #[.int .i64 ((rd_T60 l2 x22).f0),.int .i64 ((rd_T60 l2 x22).f1),.int .i64 ((rd_T60 l2 x22).f2)] 60 (0,0)) (by exact bup BKX.out) hg (Kd.R_ne HO9.out BKX.out (by decide)));replace HM:=am (World.ownsMap.kept (by(with_reducible repeat(first|refine impl_spoken.map_drewN ?_ _|refine World.ownsMap.alloc ?_ _));exact HM.out) hg (fun e_=>HO9.out.1 _ e_.symm rfl));replace HB:=am (hb);replace HO9:=am (ho);clear ho hb hg hat))
         go_roundg k1
         case measure=>have:=HK1.out;omega
         case rel=>exact⟨x8,x9 ++ [x22],la,(wrap64 (x22+1)),D,fin2,H',⟨by have:=HK1.out;omega⟩,⟨rup HO8.out⟩,⟨rup HO9.out⟩,⟨by(with_reducible repeat(first|refine impl_spoken.map_drewN ?_ _|refine World.ownsMap.alloc ?_ _));exact HM.out⟩,HG,⟨by exact bup BKI.out⟩,⟨by exact bup BKA.out⟩,⟨bl⟩⟩
        ·rw[if_neg (show ¬ impl_spoken.bad l0 a1 a3 a4 a5 la (rd_T60 l2 x22) from fun hb_=>by rcases hb_ with h_|h_|h_|h_;exact c1 h_;exact c2 h_;exact hv3 h_.2;exact c4 h_)] at H
         have CP:=am (show(rd_T60 l2 x22).f0<(l0.length:Int) from by omega)
         obtain⟨cl_,H⟩:=ifp H
         have CV:=am cl_.1
         have cf0:decide (0≤(rd_T60 l2 x22).f0)=true:=decide_eq_true cl_.2.1
         have cf1:decide ((rd_T60 l2 x22).f0<(l0.length:Int))=true:=decide_eq_true CP.out
         have cl:=cl_.2.2
         clear cl_
         have CL:=am cl
         clear cl
         have H':=am H
         clear H
         have c1b:decide ((l0.length:Int)≤(rd_T60 l2 x22).f0)=false:=decide_eq_false c1
         have c2b:decide (wrap64 ((rd_T60 l2 x22).f2 - (rd_T60 l2 x22).f1)<a5)=false:=decide_eq_false c2
         have c3b:decide (wrap64 ((rd_T60 l2 x22).f1 - b_)<wrap64 (2*a1))=false:=decide_eq_false c3
         have c4b:decide (wrap64 ((rd_T60 l2 x22).f2+a4)≤wrap64 ((rd_T60 l2 x22).f1+a3))=false:=decide_eq_false c4
         clear c9 c10 c1 c2 c3 hv3 c4
         have p_:0≤(x22:Int):=od
         have q_:x22<(l2.length:Int):=od
         obtain⟨adh,eh,hxh_0,hxh_1,hxh_2⟩:=at_T60 HR2.out x22 p_ q_
         cases eh
         replace hxh_0:=(HB.out.cell (World.block_lt_of_cell? w _ hxh_0)).trans hxh_0
         replace hxh_1:=(HB.out.cell (World.block_lt_of_cell? w _ hxh_1)).trans hxh_1
         replace hxh_2:=(HB.out.cell (World.block_lt_of_cell? w _ hxh_2)).trans hxh_2
         replace p_:=eq_true p_
         replace q_:=eq_true q_
         go_wp2_with (first|((with_reducible refine gate_dst (N:=12) rfl ?_);refine box_event ?hg (N:=12) ?hd (cs := #[.int .i64 0,.int .i64 0,.int .i64 0]) (t:=60) ?hr ?_;(case hd=>rfl);(case hg=>rfl);(case hr=>first|(go_simp;done)|(go_simp;rfl));intro gbx hg wa hbox hb;replace HO8:=am (Kd.R_below (rup HO8.out) hb);replace HO9:=am (Kd.R_below (rup HO9.out) hb);have BKX:=am (hbox);have GEX:=am (ge_ bl hg);replace HB:=am (below_step bl hb);have NXI:=am ((by rw[hg];exact Nat.ne_of_lt (blk_lt (g:=gbi) (o := .cells #[.slice A0 l0.length c0,.int .i64 a1] 24 (0,0)) (by exact bup BKI.out)):gbi≠gbx));replace BKI:=am (blk_below (g:=gbi) (o := .cells #[.slice A0 l0.length c0,.int .i64 a1] 24 (0,0)) (by exact bup BKI.out) hb);have NXA:=am ((by rw[hg];exact Nat.ne_of_lt (blk_lt (g:=gba) (o := .cells #[.int .i64 a3,.int .i64 a4,.int .i64 a5] 28 (0,0)) (by exact bup BKA.out)):gba≠gbx));replace BKA:=am (blk_below (g:=gba) (o := .cells #[.int .i64 a3,.int .i64 a4,.int .i64 a5] 28 (0,0)) (by exact bup BKA.out) hb);have NXM:=am ((by rw[hg];exact Nat.ne_of_lt (World.ownsMap.lt (by(with_reducible repeat(first|refine impl_spoken.map_drewN ?_ _|refine World.ownsMap.alloc ?_ _));exact HM.out)):w3.heap.size≠gbx));replace HM:=am (impl_spoken.map_below (by(with_reducible repeat(first|refine impl_spoken.map_drewN ?_ _|refine World.ownsMap.alloc ?_ _));exact HM.out) hb);clear hb hbox hg;have hcza_0:=bc BKX.out 0;have hcza_1:=bc BKX.out 1;have hcza_2:=bc BKX.out 2;have hfza_0:=blk_frozen BKX.out 0;have hfza_1:=blk_frozen BKX.out 1;have hfza_2:=blk_frozen BKX.out 2)|((with_reducible refine gate_store (t:=60) (p:=12) rfl ?_);refine store_event (t:=60) (p:=12) (v:=?vo) (w1:=(((wa.setCell ⟨gbx,0,none⟩ (.int .i64 ((rd_T60 l2 x22).f0))).setCell ⟨gbx,1,none⟩ (.int .i64 ((rd_T60 l2 x22).f1))).setCell ⟨gbx,2,none⟩ (.int .i64 ((rd_T60 l2 x22).f2)))) ?hg ?ho ?hn ?hr ?_;(case ho=>rfl);(case hg=>rfl);(case hn=>rfl);(case hr=>first|(go_simp;done)|(go_simp;rfl));intro wb hw;have HO8_:Aside0 (Kd.R k37 37 wb w.heap.size (fun k_=>k_≠w3.heap.size) u8 x8):=⟨(by rw[hw];exact Kd.R_mono (Kd.R_far (p:=⟨gbx,2,none⟩) (Kd.R_far (p:=⟨gbx,1,none⟩) (Kd.R_far (p:=⟨gbx,0,none⟩) (Kd.R_types HO8.out BKX.out (by decide)) (fun _ hk=>hk.2) (.int .i64 ((rd_T60 l2 x22).f0))) (fun _ hk=>hk.2) (.int .i64 ((rd_T60 l2 x22).f1))) (fun _ hk=>hk.2) (.int .i64 ((rd_T60 l2 x22).f2))) (fun _ hk=>hk.1))⟩;have HO9_:Aside0 (Kd.R (Kd.int .i64) 3 wb w.heap.size (fun k_=>k_≠w3.heap.size) u9 x9):=⟨(by rw[hw];exact Kd.R_mono (Kd.R_far (p:=⟨gbx,2,none⟩) (Kd.R_far (p:=⟨gbx,1,none⟩) (Kd.R_far (p:=⟨gbx,0,none⟩) (Kd.R_types HO9.out BKX.out (by decide)) (fun _ hk=>hk.2) (.int .i64 ((rd_T60 l2 x22).f0))) (fun _ hk=>hk.2) (.int .i64 ((rd_T60 l2 x22).f1))) (fun _ hk=>hk.2) (.int .i64 ((rd_T60 l2 x22).f2))) (fun _ hk=>hk.1))⟩;have HM_:Aside0 (wb.ownsMap Try.prog 3 (plainElem Try.prog 3) w3.heap.size x8.length D):=⟨by rw[hw];exact impl_spoken.map_far (impl_spoken.map_far (impl_spoken.map_far HM.out NXM.out) NXM.out) NXM.out⟩;have BKI_:Aside0 (wb.heap[gbi]?=some (.cells #[.slice A0 l0.length c0,.int .i64 a1] 24 (0,0))):=⟨by rw[hw];refine blk_far ?_ NXI.out _;refine blk_far ?_ NXI.out _;refine blk_far ?_ NXI.out _;exact BKI.out⟩;have BKA_:Aside0 (wb.heap[gba]?=some (.cells #[.int .i64 a3,.int .i64 a4,.int .i64 a5] 28 (0,0))):=⟨by rw[hw];refine blk_far ?_ NXA.out _;refine blk_far ?_ NXA.out _;refine blk_far ?_ NXA.out _;exact BKA.out⟩;have BKX_:Aside0 (wb.heap[gbx]?=some (.cells #[.int .i64 ((rd_T60 l2 x22).f0),.int .i64 ((rd_T60 l2 x22).f1),.int .i64 ((rd_T60 l2 x22).f2)] 60 (0,0))):=⟨by rw[hw];refine blk_put (cs := #[.int .i64 ((rd_T60 l2 x22).f0),.int .i64 ((rd_T60 l2 x22).f1),.int .i64 0]) ?_ 2 _ rfl;refine blk_put (cs := #[.int .i64 ((rd_T60 l2 x22).f0),.int .i64 0,.int .i64 0]) ?_ 1 _ rfl;refine blk_put (cs := #[.int .i64 0,.int .i64 0,.int .i64 0]) ?_ 0 _ rfl;exact BKX.out⟩;have HB_:Aside0 (Below w.heap.size w wb):=⟨by rw[hw];exact below_set (below_set (below_set HB.out GEX.out) GEX.out) GEX.out⟩;clear hw HO8 HO9 HM BKI BKA BKX HB;have HO8:=HO8_;have HO9:=HO9_;have HM:=HM_;have BKI:=BKI_;have BKA:=BKA_;have BKX:=BKX_;have HB:=HB_;clear HO8_ HO9_ HM_ BKI_ BKA_ BKX_ HB_;(try clear hcza_0 hcza_1 hcza_2 hfza_0 hfza_1 hfza_2);have hczb_0:=bc BKX.out 0;have hczb_1:=bc BKX.out 1;have hczb_2:=bc BKX.out 2;have hfzb_0:=blk_frozen BKX.out 0;have hfzb_1:=blk_frozen BKX.out 1;have hfzb_2:=blk_frozen BKX.out 2;have hczc_0:=bc BKA.out 0;have hczc_1:=bc BKA.out 1;have hczc_2:=bc BKA.out 2;have hfzc_0:=blk_frozen BKA.out 0;have hfzc_1:=blk_frozen BKA.out 1;have hfzc_2:=blk_frozen BKA.out 2;have hczd_0:=bc BKI.out 0;have hczd_1:=bc BKI.out 1;have hfzd_0:=blk_frozen BKI.out 0;have hfzd_1:=blk_frozen BKI.out 1)|(at_lookup;refine wpList_lookup_own_ok_int _ rfl _ _ 58 rfl 3 3 .i64 impl_spoken.law3 Try.underlying58 Try.underlying3 (impl_spoken.zero3 _) w3.heap.size x8.length D rfl (by exact HM.out) _ _ rfl (Maps.keyOf_int_mk Try.underlying3 CW.out) ?_;intro c_ hat_ hwc_;rw[HS.out];obtain rfl:b_=c_:=(by have e_:=HV.out.symm.trans hat_;injection e_ with e_;injection e_)))
         go_quiet (fail)
         generalize hq_:wb.drewN _=wq
         replace HO8:=am (Kd.R_at hq_ HO8.out)
         replace HO9:=am (Kd.R_at hq_ HO9.out)
         replace BKI:=am (blk_at hq_ BKI.out)
         replace BKA:=am (blk_at hq_ BKA.out)
         replace BKX:=am (blk_at hq_ BKX.out)
         replace HB:=am (below_at hq_ HB.out)
         replace HM:=am (impl_spoken.map_to HM.out (show wq.heap[w3.heap.size]?=wb.heap[w3.heap.size]? from by rw[← hq_];rfl))
         clear hq_
         (try clear hczb_0 hczb_1 hczb_2 hfzb_0 hfzb_1 hfzb_2);(try clear hczc_0 hczc_1 hczc_2 hfzc_0 hfzc_1 hfzc_2);(try clear hczd_0 hczd_1 hfzd_0 hfzd_1)
         have hczg_0:=bc BKX.out 0;have hczg_1:=bc BKX.out 1;have hczg_2:=bc BKX.out 2;have hfzg_0:=blk_frozen BKX.out 0;have hfzg_1:=blk_frozen BKX.out 1;have hfzg_2:=blk_frozen BKX.out 2;have hczh_0:=bc BKA.out 0;have hczh_1:=bc BKA.out 1;have hczh_2:=bc BKA.out 2;have hfzh_0:=blk_frozen BKA.out 0;have hfzh_1:=blk_frozen BKA.out 1;have hfzh_2:=blk_frozen BKA.out 2;have hczi_0:=bc BKI.out 0;have hczi_1:=bc BKI.out 1;have hfzi_0:=blk_frozen BKI.out 0;have hfzi_1:=blk_frozen BKI.out 1
         go_wp2_with (first|(at_mapUpdate;refine wpList_mapUpdate_own _ rfl _ _ _ 58 rfl 3 3 impl_spoken.law3 Try.underlying58 _ w3.heap.size x8.length D rfl (by exact HM.out) (by have:=CL.out;unfold maxLen;omega) _ _ _ rfl rfl (Maps.keyOf_int_mk Try.underlying3 CW.out) _ [] (plainElem_int Try.underlying3 CV.out) ?_;intro wc hown1 hgrow1;replace HM:=am (hown1);replace HO8:=am (Kd.R_grown (ok:=fun k_=>k_≠w3.heap.size) (rup HO8.out) hgrow1 (fun k_ hk_ e_=>hk_ (by injection e_)));replace HO9:=am (Kd.R_grown (ok:=fun k_=>k_≠w3.heap.size) (rup HO9.out) hgrow1 (fun k_ hk_ e_=>hk_ (by injection e_)));replace BKI:=am (blk_grown (g:=gbi) (o := .cells #[.slice A0 l0.length c0,.int .i64 a1] 24 (0,0)) (by exact bup BKI.out) hgrow1 (fun e_=>absurd (by injection e_) NMI.out));replace BKA:=am (blk_grown (g:=gba) (o := .cells #[.int .i64 a3,.int .i64 a4,.int .i64 a5] 28 (0,0)) (by exact bup BKA.out) hgrow1 (fun e_=>absurd (by injection e_) NMA.out));replace BKX:=am (blk_grown (g:=gbx) (o := .cells #[.int .i64 ((rd_T60 l2 x22).f0),.int .i64 ((rd_T60 l2 x22).f1),.int .i64 ((rd_T60 l2 x22).f2)] 60 (0,0)) (by exact bup BKX.out) hgrow1 (fun e_=>absurd (by injection e_) (Ne.symm NXM.out)));replace HB:=am ((show Below w.heap.size w _ from bl).grown hgrow1 (below_size HB.out) (fun j hj=>by cases hj;exact BGE.out));clear hown1 hgrow1;have hcze_0:=bc BKX.out 0;have hcze_1:=bc BKX.out 1;have hcze_2:=bc BKX.out 2;have hfze_0:=blk_frozen BKX.out 0;have hfze_1:=blk_frozen BKX.out 1;have hfze_2:=blk_frozen BKX.out 2;have hczf_0:=bc BKI.out 0;have hczf_1:=bc BKI.out 1;have hfzf_0:=blk_frozen BKI.out 0;have hfzf_1:=blk_frozen BKI.out 1;have p_:0≤(((rd_T60 l2 x22).f0):Int):=od;have q_:((rd_T60 l2 x22).f0)<(l0.length:Int):=CP.out;obtain⟨adp,ep,hxp⟩:=Kd.at_int HR0.out ((rd_T60 l2 x22).f0) p_ q_;cases ep;replace hxp:=(HB.out.cell (World.block_lt_of_cell? w _ hxp)).trans hxp;replace p_:=eq_true p_;replace q_:=eq_true q_)|((with_reducible refine gate_builtin (b := .append) (xs := #[.tmp 87,.tmp 97]) rfl ?_);at_builtin;refine Kd.R_append k37 (w0:=w) w.heap.size rfl (.tmp 87) (.tmp 97) 31 37 (.agg #[(.int .i64 0),(.int .i64 0),(.int .i64 0)]) 24 rfl Try.underlying31 info37 rfl (by decide) (by omega) u8 x8 (⟨rd l0 ((rd_T60 l2 x22).f0),wrap64 ((rd_T60 l2 x22).f1+a3),wrap64 ((rd_T60 l2 x22).f2+a4)⟩:S37) [.int .i64 (rd l0 ((rd_T60 l2 x22).f0)),.int .i64 (wrap64 ((rd_T60 l2 x22).f1+a3)),.int .i64 (wrap64 ((rd_T60 l2 x22).f2+a4))] (fun k_=>k_≠w3.heap.size) (fun _=>False) rfl rfl ?aP (fun _ hk=>hk.elim) ?aF ?aO ?aB ?aS ?aL ?_;(case aP=>exact k37_mkM _ _ _ (⟨rd l0 ((rd_T60 l2 x22).f0),wrap64 ((rd_T60 l2 x22).f1+a3),wrap64 ((rd_T60 l2 x22).f2+a4)⟩:S37));(case aB=>exact bl);(case aF=>exact(fun k_ hk_ e_=>by subst e_;exact absurd hk_ (Nat.not_le_of_lt (World.ownsMap.lt (by(with_reducible repeat(first|refine impl_spoken.map_drewN ?_ _|refine World.ownsMap.alloc ?_ _));exact HM.out)))));(case aO=>exact(rup HO8.out));(case aS=>exact(below_size bl));(case aL=>have:=CL.out;omega);intro va wd ho hb hg hat;replace HO9:=am (Kd.R_over' (rup HO9.out) (Kd.R_typed (rup HO8.out)) (by decide) hg);replace BKI:=am (blk_grown (g:=gbi) (o := .cells #[.slice (some adp) l0.length c0,.int .i64 a1] 24 (0,0)) (by exact bup BKI.out) hg (Kd.R_ne HO8.out BKI.out (by decide)));replace BKA:=am (blk_grown (g:=gba) (o := .cells #[.int .i64 a3,.int .i64 a4,.int .i64 a5] 28 (0,0)) (by exact bup BKA.out) hg (Kd.R_ne HO8.out BKA.out (by decide)));replace BKX:=am (blk_grown (g:=gbx) (o := .cells #[.int .i64 ((rd_T60 l2 x22).f0),.int .i64 ((rd_T60 l2 x22).f1),.int .i64 ((rd_T60 l2 x22).f2)] 60 (0,0)) (by exact bup BKX.out) hg (Kd.R_ne HO8.out BKX.out (by decide)));replace HM:=am (World.ownsMap.kept (by(with_reducible repeat(first|refine impl_spoken.map_drewN ?_ _|refine World.ownsMap.alloc ?_ _));exact HM.out) hg (fun e_=>HO8.out.1 _ e_.symm rfl));replace HB:=am (hb);replace HO8:=am (ho);clear ho hb hg hat))
         go_roundg k1
         case measure=>have:=HK1.out;omega
         case rel=>exact⟨x8 ++ [(⟨rd l0 ((rd_T60 l2 x22).f0),wrap64 ((rd_T60 l2 x22).f1+a3),wrap64 ((rd_T60 l2 x22).f2+a4)⟩:S37)],x9,impl_spoken.upd la ((rd_T60 l2 x22).f0) ((rd_T60 l2 x22).f1),(wrap64 (x22+1)),_,fin2,H',⟨by have:=HK1.out;omega⟩,⟨rup HO8.out⟩,⟨rup HO9.out⟩,⟨by rw[List.length_append];(with_reducible repeat(first|refine impl_spoken.map_drewN ?_ _|refine World.ownsMap.alloc ?_ _));exact HM.out⟩,⟨impl_spoken.agree_put HG.out _ _⟩,⟨by exact bup BKI.out⟩,⟨by exact bup BKA.out⟩,⟨bl⟩⟩
    | false =>
     rw[hso] at hs_
     have HS:=am hs_
     clear hs_
     by_cases c1:(rd_T60 l2 x22).f0≥(l0.length:Int)
     ·rw[if_pos (show impl_spoken.bad l0 a1 a3 a4 a5 la (rd_T60 l2 x22) from Or.inl c1)] at H
      obtain⟨cl,H⟩:=ifp H
      have CL:=am cl
      clear cl
      have H':=am H
      clear H
      have c1b:decide ((l0.length:Int)≤(rd_T60 l2 x22).f0)=true:=decide_eq_true c1
      clear c9 c10 c1
      (try clear hso)
      have p_:0≤(x22:Int):=od
      have q_:x22<(l2.length:Int):=od
      obtain⟨adh,eh,hxh_0,hxh_1,hxh_2⟩:=at_T60 HR2.out x22 p_ q_
      cases eh
      replace hxh_0:=(HB.out.cell (World.block_lt_of_cell? w _ hxh_0)).trans hxh_0
      replace hxh_1:=(HB.out.cell (World.block_lt_of_cell? w _ hxh_1)).trans hxh_1
      replace hxh_2:=(HB.out.cell (World.block_lt_of_cell? w _ hxh_2)).trans hxh_2
      replace p_:=eq_true p_
      replace q_:=eq_true q_
      go_wp2_with (first|((with_reducible refine gate_dst (N:=12) rfl ?_);refine box_event ?hg (N:=12) ?hd (cs := #[.int .i64 0,.int .i64 0,.int .i64 0]) (t:=60) ?hr ?_;(case hd=>rfl);(case hg=>rfl);(case hr=>first|(go_simp;done)|(go_simp;rfl));intro gbx hg wa hbox hb;replace HO8:=am (Kd.R_below (rup HO8.out) hb);replace HO9:=am (Kd.R_below (rup HO9.out) hb);have BKX:=am (hbox);have GEX:=am (ge_ bl hg);replace HB:=am (below_step bl hb);have NXI:=am ((by rw[hg];exact Nat.ne_of_lt (blk_lt (g:=gbi) (o := .cells #[.slice A0 l0.length c0,.int .i64 a1] 24 (0,0)) (by exact bup BKI.out)):gbi≠gbx));replace BKI:=am (blk_below (g:=gbi) (o := .cells #[.slice A0 l0.length c0,.int .i64 a1] 24 (0,0)) (by exact bup BKI.out) hb);have NXA:=am ((by rw[hg];exact Nat.ne_of_lt (blk_lt (g:=gba) (o := .cells #[.int .i64 a3,.int .i64 a4,.int .i64 a5] 28 (0,0)) (by exact bup BKA.out)):gba≠gbx));replace BKA:=am (blk_below (g:=gba) (o := .cells #[.int .i64 a3,.int .i64 a4,.int .i64 a5] 28 (0,0)) (by exact bup BKA.out) hb);have NXM:=am ((by rw[hg];exact Nat.ne_of_lt (World.ownsMap.lt (by(with_reducible repeat(first|refine impl_spoken.map_drewN ?_ _|refine World.ownsMap.alloc ?_ _));exact HM.out)):w3.heap.size≠gbx));replace HM:=am (impl_spoken.map_below (by(with_reducible repeat(first|refine impl_spoken.map_drewN ?_ _|refine World.ownsMap.alloc ?_ _));exact HM.out) hb);clear hb hbox hg;have hcza_0:=bc BKX.out 0;have hcza_1:=bc BKX.out 1;have hcza_2:=bc BKX.out 2;have hfza_0:=blk_frozen BKX.out 0;have hfza_1:=blk_frozen BKX.out 1;have hfza_2:=blk_frozen BKX.out 2)|((with_reducible refine gate_store (t:=60) (p:=12) rfl ?_);refine store_event (t:=60) (p:=12) (v:=?vo) (w1:=(((wa.setCell ⟨gbx,0,none⟩ (.int .i64 ((rd_T60 l2 x22).f0))).setCell ⟨gbx,1,none⟩ (.int .i64 ((rd_T60 l2 x22).f1))).setCell ⟨gbx,2,none⟩ (.int .i64 ((rd_T60 l2 x22).f2)))) ?hg ?ho ?hn ?hr ?_;(case ho=>rfl);(case hg=>rfl);(case hn=>rfl);(case hr=>first|(go_simp;done)|(go_simp;rfl));intro wb hw;have HO8_:Aside0 (Kd.R k37 37 wb w.heap.size (fun k_=>k_≠w3.heap.size) u8 x8):=⟨(by rw[hw];exact Kd.R_mono (Kd.R_far (p:=⟨gbx,2,none⟩) (Kd.R_far (p:=⟨gbx,1,none⟩) (Kd.R_far (p:=⟨gbx,0,none⟩) (Kd.R_types HO8.out BKX.out (by decide)) (fun _ hk=>hk.2) (.int .i64 ((rd_T60 l2 x22).f0))) (fun _ hk=>hk.2) (.int .i64 ((rd_T60 l2 x22).f1))) (fun _ hk=>hk.2) (.int .i64 ((rd_T60 l2 x22).f2))) (fun _ hk=>hk.1))⟩;have HO9_:Aside0 (Kd.R (Kd.int .i64) 3 wb w.heap.size (fun k_=>k_≠w3.heap.size) u9 x9):=⟨(by rw[hw];exact Kd.R_mono (Kd.R_far (p:=⟨gbx,2,none⟩) (Kd.R_far (p:=⟨gbx,1,none⟩) (Kd.R_far (p:=⟨gbx,0,none⟩) (Kd.R_types HO9.out BKX.out (by decide)) (fun _ hk=>hk.2) (.int .i64 ((rd_T60 l2 x22).f0))) (fun _ hk=>hk.2) (.int .i64 ((rd_T60 l2 x22).f1))) (fun _ hk=>hk.2) (.int .i64 ((rd_T60 l2 x22).f2))) (fun _ hk=>hk.1))⟩;have HM_:Aside0 (wb.ownsMap Try.prog 3 (plainElem Try.prog 3) w3.heap.size x8.length D):=⟨by rw[hw];exact impl_spoken.map_far (impl_spoken.map_far (impl_spoken.map_far HM.out NXM.out) NXM.out) NXM.out⟩;have BKI_:Aside0 (wb.heap[gbi]?=some (.cells #[.slice A0 l0.length c0,.int .i64 a1] 24 (0,0))):=⟨by rw[hw];refine blk_far ?_ NXI.out _;refine blk_far ?_ NXI.out _;refine blk_far ?_ NXI.out _;exact BKI.out⟩;have BKA_:Aside0 (wb.heap[gba]?=some (.cells #[.int .i64 a3,.int .i64 a4,.int .i64 a5] 28 (0,0))):=⟨by rw[hw];refine blk_far ?_ NXA.out _;refine blk_far ?_ NXA.out _;refine blk_far ?_ NXA.out _;exact BKA.out⟩;have BKX_:Aside0 (wb.heap[gbx]?=some (.cells #[.int .i64 ((rd_T60 l2 x22).f0),.int .i64 ((rd_T60 l2 x22).f1),.int .i64 ((rd_T60 l2 x22).f2)] 60 (0,0))):=⟨by rw[hw];refine blk_put (cs := #[.int .i64 ((rd_T60 l2 x22).f0),.int .i64 ((rd_T60 l2 x22).f1),.int .i64 0]) ?_ 2 _ rfl;refine blk_put (cs := #[.int .i64 ((rd_T60 l2 x22).f0),.int .i64 0,.int .i64 0]) ?_ 1 _ rfl;refine blk_put (cs := #[.int .i64 0,.int .i64 0,.int .i64 0]) ?_ 0 _ rfl;exact BKX.out⟩;have HB_:Aside0 (Below w.heap.size w wb):=⟨by rw[hw];exact below_set (below_set (below_set HB.out GEX.out) GEX.out) GEX.out⟩;clear hw HO8 HO9 HM BKI BKA BKX HB;have HO8:=HO8_;have HO9:=HO9_;have HM:=HM_;have BKI:=BKI_;have BKA:=BKA_;have BKX:=BKX_;have HB:=HB_;clear HO8_ HO9_ HM_ BKI_ BKA_ BKX_ HB_;(try clear hcza_0 hcza_1 hcza_2 hfza_0 hfza_1 hfza_2);have hczb_0:=bc BKX.out 0;have hczb_1:=bc BKX.out 1;have hczb_2:=bc BKX.out 2;have hfzb_0:=blk_frozen BKX.out 0;have hfzb_1:=blk_frozen BKX.out 1;have hfzb_2:=blk_frozen BKX.out 2;have hczc_0:=bc BKA.out 0;have hczc_1:=bc BKA.out 1;have hczc_2:=bc BKA.out 2;have hfzc_0:=blk_frozen BKA.out 0;have hfzc_1:=blk_frozen BKA.out 1;have hfzc_2:=blk_frozen BKA.out 2;have hczd_0:=bc BKI.out 0;have hczd_1:=bc BKI.out 1;have hfzd_0:=blk_frozen BKI.out 0;have hfzd_1:=blk_frozen BKI.out 1)|(at_lookup;refine wpList_lookup_own_ok_int _ rfl _ _ 58 rfl 3 3 .i64 impl_spoken.law3 Try.underlying58 Try.underlying3 (impl_spoken.zero3 _) w3.heap.size x8.length D rfl (by exact HM.out) _ _ rfl (Maps.keyOf_int_mk Try.underlying3 CW.out) ?_;intro c_ hat_ hwc_;rw[HS.out]))
      go_quiet (fail)
      generalize hq_:wb.drewN _=wq
      replace HO8:=am (Kd.R_at hq_ HO8.out)
      replace HO9:=am (Kd.R_at hq_ HO9.out)
      replace BKI:=am (blk_at hq_ BKI.out)
      replace BKA:=am (blk_at hq_ BKA.out)
      replace BKX:=am (blk_at hq_ BKX.out)
      replace HB:=am (below_at hq_ HB.out)
      replace HM:=am (impl_spoken.map_to HM.out (show wq.heap[w3.heap.size]?=wb.heap[w3.heap.size]? from by rw[← hq_];rfl))
      clear hq_
      (try clear hczb_0 hczb_1 hczb_2 hfzb_0 hfzb_1 hfzb_2);(try clear hczc_0 hczc_1 hczc_2 hfzc_0 hfzc_1 hfzc_2);(try clear hczd_0 hczd_1 hfzd_0 hfzd_1)
      have hczg_0:=bc BKX.out 0;have hczg_1:=bc BKX.out 1;have hczg_2:=bc BKX.out 2;have hfzg_0:=blk_frozen BKX.out 0;have hfzg_1:=blk_frozen BKX.out 1;have hfzg_2:=blk_frozen BKX.out 2;have hczh_0:=bc BKA.out 0;have hczh_1:=bc BKA.out 1;have hczh_2:=bc BKA.out 2;have hfzh_0:=blk_frozen BKA.out 0;have hfzh_1:=blk_frozen BKA.out 1;have hfzh_2:=blk_frozen BKA.out 2;have hczi_0:=bc BKI.out 0;have hczi_1:=bc BKI.out 1;have hfzi_0:=blk_frozen BKI.out 0;have hfzi_1:=blk_frozen BKI.out 1
      go_wp2_with (first|((with_reducible refine gate_builtin (b := .append) (xs := #[.tmp 78,.tmp 80]) rfl ?_);at_builtin;refine Kd.R_append (Kd.int .i64) (w0:=w) w.heap.size rfl (.tmp 78) (.tmp 80) 22 3 (.int .i64 0) 8 rfl Try.underlying22 info3 rfl (by decide) (by omega) u9 x9 x22 [.int .i64 x22] (fun k_=>k_≠w3.heap.size) (fun _=>False) rfl (by first|(go_simp;done)|(go_simp;rfl)) ?aP (fun _ hk=>hk.elim) ?aF ?aO ?aB ?aS ?aL ?_;(case aP=>exact rfl);(case aB=>exact bl);(case aF=>exact(fun k_ hk_ e_=>by subst e_;exact absurd hk_ (Nat.not_le_of_lt (World.ownsMap.lt (by(with_reducible repeat(first|refine impl_spoken.map_drewN ?_ _|refine World.ownsMap.alloc ?_ _));exact HM.out)))));(case aO=>exact(rup HO9.out));(case aS=>exact(below_size bl));(case aL=>have:=CL.out;omega);intro va wc ho hb hg hat;replace HO8:=am (Kd.R_over' (rup HO8.out) (Kd.R_typed (rup HO9.out)) (by decide) hg);replace BKI:=am (blk_grown (g:=gbi) (o := .cells #[.slice A0 l0.length c0,.int .i64 a1] 24 (0,0)) (by exact bup BKI.out) hg (Kd.R_ne HO9.out BKI.out (by decide)));replace BKA:=am (blk_grown (g:=gba) (o := .cells #[.int .i64 a3,.int .i64 a4,.int .i64 a5] 28 (0,0)) (by exact bup BKA.out) hg (Kd.R_ne HO9.out BKA.out (by decide)));replace BKX:=am (blk_grown (g:=gbx) (o := .cells #[.int .i64 ((rd_T60 l2 x22).f0),.int .i64 ((rd_T60 l2 x22).f1),.int .i64 ((rd_T60 l2 x22).f2)] 60 (0,0)) (by exact bup BKX.out) hg (Kd.R_ne HO9.out BKX.out (by decide)));replace HM:=am (World.ownsMap.kept (by(with_reducible repeat(first|refine impl_spoken.map_drewN ?_ _|refine World.ownsMap.alloc ?_ _));exact HM.out) hg (fun e_=>HO9.out.1 _ e_.symm rfl));replace HB:=am (hb);replace HO9:=am (ho);clear ho hb hg hat))
      go_roundg k1
      case measure=>have:=HK1.out;omega
      case rel=>exact⟨x8,x9 ++ [x22],la,(wrap64 (x22+1)),D,fin2,H',⟨by have:=HK1.out;omega⟩,⟨rup HO8.out⟩,⟨rup HO9.out⟩,⟨by(with_reducible repeat(first|refine impl_spoken.map_drewN ?_ _|refine World.ownsMap.alloc ?_ _));exact HM.out⟩,HG,⟨by exact bup BKI.out⟩,⟨by exact bup BKA.out⟩,⟨bl⟩⟩
     ·by_cases c2:wrap64 ((rd_T60 l2 x22).f2 - (rd_T60 l2 x22).f1)<a5
      ·rw[if_pos (show impl_spoken.bad l0 a1 a3 a4 a5 la (rd_T60 l2 x22) from Or.inr (Or.inl c2))] at H
       obtain⟨cl,H⟩:=ifp H
       have CL:=am cl
       clear cl
       have H':=am H
       clear H
       have c1b:decide ((l0.length:Int)≤(rd_T60 l2 x22).f0)=false:=decide_eq_false c1
       have c2b:decide (wrap64 ((rd_T60 l2 x22).f2 - (rd_T60 l2 x22).f1)<a5)=true:=decide_eq_true c2
       clear c9 c10 c1 c2
       have p_:0≤(x22:Int):=od
       have q_:x22<(l2.length:Int):=od
       obtain⟨adh,eh,hxh_0,hxh_1,hxh_2⟩:=at_T60 HR2.out x22 p_ q_
       cases eh
       replace hxh_0:=(HB.out.cell (World.block_lt_of_cell? w _ hxh_0)).trans hxh_0
       replace hxh_1:=(HB.out.cell (World.block_lt_of_cell? w _ hxh_1)).trans hxh_1
       replace hxh_2:=(HB.out.cell (World.block_lt_of_cell? w _ hxh_2)).trans hxh_2
       replace p_:=eq_true p_
       replace q_:=eq_true q_
       go_wp2_with (first|((with_reducible refine gate_dst (N:=12) rfl ?_);refine box_event ?hg (N:=12) ?hd (cs := #[.int .i64 0,.int .i64 0,.int .i64 0]) (t:=60) ?hr ?_;(case hd=>rfl);(case hg=>rfl);(case hr=>first|(go_simp;done)|(go_simp;rfl));intro gbx hg wa hbox hb;replace HO8:=am (Kd.R_below (rup HO8.out) hb);replace HO9:=am (Kd.R_below (rup HO9.out) hb);have BKX:=am (hbox);have GEX:=am (ge_ bl hg);replace HB:=am (below_step bl hb);have NXI:=am ((by rw[hg];exact Nat.ne_of_lt (blk_lt (g:=gbi) (o := .cells #[.slice A0 l0.length c0,.int .i64 a1] 24 (0,0)) (by exact bup BKI.out)):gbi≠gbx));replace BKI:=am (blk_below (g:=gbi) (o := .cells #[.slice A0 l0.length c0,.int .i64 a1] 24 (0,0)) (by exact bup BKI.out) hb);have NXA:=am ((by rw[hg];exact Nat.ne_of_lt (blk_lt (g:=gba) (o := .cells #[.int .i64 a3,.int .i64 a4,.int .i64 a5] 28 (0,0)) (by exact bup BKA.out)):gba≠gbx));replace BKA:=am (blk_below (g:=gba) (o := .cells #[.int .i64 a3,.int .i64 a4,.int .i64 a5] 28 (0,0)) (by exact bup BKA.out) hb);have NXM:=am ((by rw[hg];exact Nat.ne_of_lt (World.ownsMap.lt (by(with_reducible repeat(first|refine impl_spoken.map_drewN ?_ _|refine World.ownsMap.alloc ?_ _));exact HM.out)):w3.heap.size≠gbx));replace HM:=am (impl_spoken.map_below (by(with_reducible repeat(first|refine impl_spoken.map_drewN ?_ _|refine World.ownsMap.alloc ?_ _));exact HM.out) hb);clear hb hbox hg;have hcza_0:=bc BKX.out 0;have hcza_1:=bc BKX.out 1;have hcza_2:=bc BKX.out 2;have hfza_0:=blk_frozen BKX.out 0;have hfza_1:=blk_frozen BKX.out 1;have hfza_2:=blk_frozen BKX.out 2)|((with_reducible refine gate_store (t:=60) (p:=12) rfl ?_);refine store_event (t:=60) (p:=12) (v:=?vo) (w1:=(((wa.setCell ⟨gbx,0,none⟩ (.int .i64 ((rd_T60 l2 x22).f0))).setCell ⟨gbx,1,none⟩ (.int .i64 ((rd_T60 l2 x22).f1))).setCell ⟨gbx,2,none⟩ (.int .i64 ((rd_T60 l2 x22).f2)))) ?hg ?ho ?hn ?hr ?_;(case ho=>rfl);(case hg=>rfl);(case hn=>rfl);(case hr=>first|(go_simp;done)|(go_simp;rfl));intro wb hw;have HO8_:Aside0 (Kd.R k37 37 wb w.heap.size (fun k_=>k_≠w3.heap.size) u8 x8):=⟨(by rw[hw];exact Kd.R_mono (Kd.R_far (p:=⟨gbx,2,none⟩) (Kd.R_far (p:=⟨gbx,1,none⟩) (Kd.R_far (p:=⟨gbx,0,none⟩) (Kd.R_types HO8.out BKX.out (by decide)) (fun _ hk=>hk.2) (.int .i64 ((rd_T60 l2 x22).f0))) (fun _ hk=>hk.2) (.int .i64 ((rd_T60 l2 x22).f1))) (fun _ hk=>hk.2) (.int .i64 ((rd_T60 l2 x22).f2))) (fun _ hk=>hk.1))⟩;have HO9_:Aside0 (Kd.R (Kd.int .i64) 3 wb w.heap.size (fun k_=>k_≠w3.heap.size) u9 x9):=⟨(by rw[hw];exact Kd.R_mono (Kd.R_far (p:=⟨gbx,2,none⟩) (Kd.R_far (p:=⟨gbx,1,none⟩) (Kd.R_far (p:=⟨gbx,0,none⟩) (Kd.R_types HO9.out BKX.out (by decide)) (fun _ hk=>hk.2) (.int .i64 ((rd_T60 l2 x22).f0))) (fun _ hk=>hk.2) (.int .i64 ((rd_T60 l2 x22).f1))) (fun _ hk=>hk.2) (.int .i64 ((rd_T60 l2 x22).f2))) (fun _ hk=>hk.1))⟩;have HM_:Aside0 (wb.ownsMap Try.prog 3 (plainElem Try.prog 3) w3.heap.size x8.length D):=⟨by rw[hw];exact impl_spoken.map_far (impl_spoken.map_far (impl_spoken.map_far HM.out NXM.out) NXM.out) NXM.out⟩;have BKI_:Aside0 (wb.heap[gbi]?=some (.cells #[.slice A0 l0.length c0,.int .i64 a1] 24 (0,0))):=⟨by rw[hw];refine blk_far ?_ NXI.out _;refine blk_far ?_ NXI.out _;refine blk_far ?_ NXI.out _;exact BKI.out⟩;have BKA_:Aside0 (wb.heap[gba]?=some (.cells #[.int .i64 a3,.int .i64 a4,.int .i64 a5] 28 (0,0))):=⟨by rw[hw];refine blk_far ?_ NXA.out _;refine blk_far ?_ NXA.out _;refine blk_far ?_ NXA.out _;exact BKA.out⟩;have BKX_:Aside0 (wb.heap[gbx]?=some (.cells #[.int .i64 ((rd_T60 l2 x22).f0),.int .i64 ((rd_T60 l2 x22).f1),.int .i64 ((rd_T60 l2 x22).f2)] 60 (0,0))):=⟨by rw[hw];refine blk_put (cs := #[.int .i64 ((rd_T60 l2 x22).f0),.int .i64 ((rd_T60 l2 x22).f1),.int .i64 0]) ?_ 2 _ rfl;refine blk_put (cs := #[.int .i64 ((rd_T60 l2 x22).f0),.int .i64 0,.int .i64 0]) ?_ 1 _ rfl;refine blk_put (cs := #[.int .i64 0,.int .i64 0,.int .i64 0]) ?_ 0 _ rfl;exact BKX.out⟩;have HB_:Aside0 (Below w.heap.size w wb):=⟨by rw[hw];exact below_set (below_set (below_set HB.out GEX.out) GEX.out) GEX.out⟩;clear hw HO8 HO9 HM BKI BKA BKX HB;have HO8:=HO8_;have HO9:=HO9_;have HM:=HM_;have BKI:=BKI_;have BKA:=BKA_;have BKX:=BKX_;have HB:=HB_;clear HO8_ HO9_ HM_ BKI_ BKA_ BKX_ HB_;(try clear hcza_0 hcza_1 hcza_2 hfza_0 hfza_1 hfza_2);have hczb_0:=bc BKX.out 0;have hczb_1:=bc BKX.out 1;have hczb_2:=bc BKX.out 2;have hfzb_0:=blk_frozen BKX.out 0;have hfzb_1:=blk_frozen BKX.out 1;have hfzb_2:=blk_frozen BKX.out 2;have hczc_0:=bc BKA.out 0;have hczc_1:=bc BKA.out 1;have hczc_2:=bc BKA.out 2;have hfzc_0:=blk_frozen BKA.out 0;have hfzc_1:=blk_frozen BKA.out 1;have hfzc_2:=blk_frozen BKA.out 2;have hczd_0:=bc BKI.out 0;have hczd_1:=bc BKI.out 1;have hfzd_0:=blk_frozen BKI.out 0;have hfzd_1:=blk_frozen BKI.out 1)|(at_lookup;refine wpList_lookup_own_ok_int _ rfl _ _ 58 rfl 3 3 .i64 impl_spoken.law3 Try.underlying58 Try.underlying3 (impl_spoken.zero3 _) w3.heap.size x8.length D rfl (by exact HM.out) _ _ rfl (Maps.keyOf_int_mk Try.underlying3 CW.out) ?_;intro c_ hat_ hwc_;rw[HS.out]))
       go_quiet (fail)
       generalize hq_:wb.drewN _=wq
       replace HO8:=am (Kd.R_at hq_ HO8.out)
       replace HO9:=am (Kd.R_at hq_ HO9.out)
       replace BKI:=am (blk_at hq_ BKI.out)
       replace BKA:=am (blk_at hq_ BKA.out)
       replace BKX:=am (blk_at hq_ BKX.out)
       replace HB:=am (below_at hq_ HB.out)
       replace HM:=am (impl_spoken.map_to HM.out (show wq.heap[w3.heap.size]?=wb.heap[w3.heap.size]? from by rw[← hq_];rfl))
       clear hq_
       (try clear hczb_0 hczb_1 hczb_2 hfzb_0 hfzb_1 hfzb_2);(try clear hczc_0 hczc_1 hczc_2 hfzc_0 hfzc_1 hfzc_2);(try clear hczd_0 hczd_1 hfzd_0 hfzd_1)
       have hczg_0:=bc BKX.out 0;have hczg_1:=bc BKX.out 1;have hczg_2:=bc BKX.out 2;have hfzg_0:=blk_frozen BKX.out 0;have hfzg_1:=blk_frozen BKX.out 1;have hfzg_2:=blk_frozen BKX.out 2;have hczh_0:=bc BKA.out 0;have hczh_1:=bc BKA.out 1;have hczh_2:=bc BKA.out 2;have hfzh_0:=blk_frozen BKA.out 0;have hfzh_1:=blk_frozen BKA.out 1;have hfzh_2:=blk_frozen BKA.out 2;have hczi_0:=bc BKI.out 0;have hczi_1:=bc BKI.out 1;have hfzi_0:=blk_frozen BKI.out 0;have hfzi_1:=blk_frozen BKI.out 1
       go_wp2_with (first|((with_reducible refine gate_builtin (b := .append) (xs := #[.tmp 78,.tmp 80]) rfl ?_);at_builtin;refine Kd.R_append (Kd.int .i64) (w0:=w) w.heap.size rfl (.tmp 78) (.tmp 80) 22 3 (.int .i64 0) 8 rfl Try.underlying22 info3 rfl (by decide) (by omega) u9 x9 x22 [.int .i64 x22] (fun k_=>k_≠w3.heap.size) (fun _=>False) rfl (by first|(go_simp;done)|(go_simp;rfl)) ?aP (fun _ hk=>hk.elim) ?aF ?aO ?aB ?aS ?aL ?_;(case aP=>exact rfl);(case aB=>exact bl);(case aF=>exact(fun k_ hk_ e_=>by subst e_;exact absurd hk_ (Nat.not_le_of_lt (World.ownsMap.lt (by(with_reducible repeat(first|refine impl_spoken.map_drewN ?_ _|refine World.ownsMap.alloc ?_ _));exact HM.out)))));(case aO=>exact(rup HO9.out));(case aS=>exact(below_size bl));(case aL=>have:=CL.out;omega);intro va wc ho hb hg hat;replace HO8:=am (Kd.R_over' (rup HO8.out) (Kd.R_typed (rup HO9.out)) (by decide) hg);replace BKI:=am (blk_grown (g:=gbi) (o := .cells #[.slice A0 l0.length c0,.int .i64 a1] 24 (0,0)) (by exact bup BKI.out) hg (Kd.R_ne HO9.out BKI.out (by decide)));replace BKA:=am (blk_grown (g:=gba) (o := .cells #[.int .i64 a3,.int .i64 a4,.int .i64 a5] 28 (0,0)) (by exact bup BKA.out) hg (Kd.R_ne HO9.out BKA.out (by decide)));replace BKX:=am (blk_grown (g:=gbx) (o := .cells #[.int .i64 ((rd_T60 l2 x22).f0),.int .i64 ((rd_T60 l2 x22).f1),.int .i64 ((rd_T60 l2 x22).f2)] 60 (0,0)) (by exact bup BKX.out) hg (Kd.R_ne HO9.out BKX.out (by decide)));replace HM:=am (World.ownsMap.kept (by(with_reducible repeat(first|refine impl_spoken.map_drewN ?_ _|refine World.ownsMap.alloc ?_ _));exact HM.out) hg (fun e_=>HO9.out.1 _ e_.symm rfl));replace HB:=am (hb);replace HO9:=am (ho);clear ho hb hg hat))
       go_roundg k1
       case measure=>have:=HK1.out;omega
       case rel=>exact⟨x8,x9 ++ [x22],la,(wrap64 (x22+1)),D,fin2,H',⟨by have:=HK1.out;omega⟩,⟨rup HO8.out⟩,⟨rup HO9.out⟩,⟨by(with_reducible repeat(first|refine impl_spoken.map_drewN ?_ _|refine World.ownsMap.alloc ?_ _));exact HM.out⟩,HG,⟨by exact bup BKI.out⟩,⟨by exact bup BKA.out⟩,⟨bl⟩⟩
      ·by_cases c4:wrap64 ((rd_T60 l2 x22).f1+a3)≥wrap64 ((rd_T60 l2 x22).f2+a4)
       ·rw[if_pos (show impl_spoken.bad l0 a1 a3 a4 a5 la (rd_T60 l2 x22) from Or.inr (Or.inr (Or.inr c4)))] at H
        obtain⟨cl,H⟩:=ifp H
        have CL:=am cl
        clear cl
        have H':=am H
        clear H
        have c1b:decide ((l0.length:Int)≤(rd_T60 l2 x22).f0)=false:=decide_eq_false c1
        have c2b:decide (wrap64 ((rd_T60 l2 x22).f2 - (rd_T60 l2 x22).f1)<a5)=false:=decide_eq_false c2
        have c4b:decide (wrap64 ((rd_T60 l2 x22).f2+a4)≤wrap64 ((rd_T60 l2 x22).f1+a3))=true:=decide_eq_true c4
        clear c9 c10 c1 c2 c4
        have p_:0≤(x22:Int):=od
        have q_:x22<(l2.length:Int):=od
        obtain⟨adh,eh,hxh_0,hxh_1,hxh_2⟩:=at_T60 HR2.out x22 p_ q_
        cases eh
        replace hxh_0:=(HB.out.cell (World.block_lt_of_cell? w _ hxh_0)).trans hxh_0
        replace hxh_1:=(HB.out.cell (World.block_lt_of_cell? w _ hxh_1)).trans hxh_1
        replace hxh_2:=(HB.out.cell (World.block_lt_of_cell? w _ hxh_2)).trans hxh_2
        replace p_:=eq_true p_
        replace q_:=eq_true q_
        go_wp2_with (first|((with_reducible refine gate_dst (N:=12) rfl ?_);refine box_event ?hg (N:=12) ?hd (cs := #[.int .i64 0,.int .i64 0,.int .i64 0]) (t:=60) ?hr ?_;(case hd=>rfl);(case hg=>rfl);(case hr=>first|(go_simp;done)|(go_simp;rfl));intro gbx hg wa hbox hb;replace HO8:=am (Kd.R_below (rup HO8.out) hb);replace HO9:=am (Kd.R_below (rup HO9.out) hb);have BKX:=am (hbox);have GEX:=am (ge_ bl hg);replace HB:=am (below_step bl hb);have NXI:=am ((by rw[hg];exact Nat.ne_of_lt (blk_lt (g:=gbi) (o := .cells #[.slice A0 l0.length c0,.int .i64 a1] 24 (0,0)) (by exact bup BKI.out)):gbi≠gbx));replace BKI:=am (blk_below (g:=gbi) (o := .cells #[.slice A0 l0.length c0,.int .i64 a1] 24 (0,0)) (by exact bup BKI.out) hb);have NXA:=am ((by rw[hg];exact Nat.ne_of_lt (blk_lt (g:=gba) (o := .cells #[.int .i64 a3,.int .i64 a4,.int .i64 a5] 28 (0,0)) (by exact bup BKA.out)):gba≠gbx));replace BKA:=am (blk_below (g:=gba) (o := .cells #[.int .i64 a3,.int .i64 a4,.int .i64 a5] 28 (0,0)) (by exact bup BKA.out) hb);have NXM:=am ((by rw[hg];exact Nat.ne_of_lt (World.ownsMap.lt (by(with_reducible repeat(first|refine impl_spoken.map_drewN ?_ _|refine World.ownsMap.alloc ?_ _));exact HM.out)):w3.heap.size≠gbx));replace HM:=am (impl_spoken.map_below (by(with_reducible repeat(first|refine impl_spoken.map_drewN ?_ _|refine World.ownsMap.alloc ?_ _));exact HM.out) hb);clear hb hbox hg;have hcza_0:=bc BKX.out 0;have hcza_1:=bc BKX.out 1;have hcza_2:=bc BKX.out 2;have hfza_0:=blk_frozen BKX.out 0;have hfza_1:=blk_frozen BKX.out 1;have hfza_2:=blk_frozen BKX.out 2)|((with_reducible refine gate_store (t:=60) (p:=12) rfl ?_);refine store_event (t:=60) (p:=12) (v:=?vo) (w1:=(((wa.setCell ⟨gbx,0,none⟩ (.int .i64 ((rd_T60 l2 x22).f0))).setCell ⟨gbx,1,none⟩ (.int .i64 ((rd_T60 l2 x22).f1))).setCell ⟨gbx,2,none⟩ (.int .i64 ((rd_T60 l2 x22).f2)))) ?hg ?ho ?hn ?hr ?_;(case ho=>rfl);(case hg=>rfl);(case hn=>rfl);(case hr=>first|(go_simp;done)|(go_simp;rfl));intro wb hw;have HO8_:Aside0 (Kd.R k37 37 wb w.heap.size (fun k_=>k_≠w3.heap.size) u8 x8):=⟨(by rw[hw];exact Kd.R_mono (Kd.R_far (p:=⟨gbx,2,none⟩) (Kd.R_far (p:=⟨gbx,1,none⟩) (Kd.R_far (p:=⟨gbx,0,none⟩) (Kd.R_types HO8.out BKX.out (by decide)) (fun _ hk=>hk.2) (.int .i64 ((rd_T60 l2 x22).f0))) (fun _ hk=>hk.2) (.int .i64 ((rd_T60 l2 x22).f1))) (fun _ hk=>hk.2) (.int .i64 ((rd_T60 l2 x22).f2))) (fun _ hk=>hk.1))⟩;have HO9_:Aside0 (Kd.R (Kd.int .i64) 3 wb w.heap.size (fun k_=>k_≠w3.heap.size) u9 x9):=⟨(by rw[hw];exact Kd.R_mono (Kd.R_far (p:=⟨gbx,2,none⟩) (Kd.R_far (p:=⟨gbx,1,none⟩) (Kd.R_far (p:=⟨gbx,0,none⟩) (Kd.R_types HO9.out BKX.out (by decide)) (fun _ hk=>hk.2) (.int .i64 ((rd_T60 l2 x22).f0))) (fun _ hk=>hk.2) (.int .i64 ((rd_T60 l2 x22).f1))) (fun _ hk=>hk.2) (.int .i64 ((rd_T60 l2 x22).f2))) (fun _ hk=>hk.1))⟩;have HM_:Aside0 (wb.ownsMap Try.prog 3 (plainElem Try.prog 3) w3.heap.size x8.length D):=⟨by rw[hw];exact impl_spoken.map_far (impl_spoken.map_far (impl_spoken.map_far HM.out NXM.out) NXM.out) NXM.out⟩;have BKI_:Aside0 (wb.heap[gbi]?=some (.cells #[.slice A0 l0.length c0,.int .i64 a1] 24 (0,0))):=⟨by rw[hw];refine blk_far ?_ NXI.out _;refine blk_far ?_ NXI.out _;refine blk_far ?_ NXI.out _;exact BKI.out⟩;have BKA_:Aside0 (wb.heap[gba]?=some (.cells #[.int .i64 a3,.int .i64 a4,.int .i64 a5] 28 (0,0))):=⟨by rw[hw];refine blk_far ?_ NXA.out _;refine blk_far ?_ NXA.out _;refine blk_far ?_ NXA.out _;exact BKA.out⟩;have BKX_:Aside0 (wb.heap[gbx]?=some (.cells #[.int .i64 ((rd_T60 l2 x22).f0),.int .i64 ((rd_T60 l2 x22).f1),.int .i64 ((rd_T60 l2 x22).f2)] 60 (0,0))):=⟨by rw[hw];refine blk_put (cs := #[.int .i64 ((rd_T60 l2 x22).f0),.int .i64 ((rd_T60 l2 x22).f1),.int .i64 0]) ?_ 2 _ rfl;refine blk_put (cs := #[.int .i64 ((rd_T60 l2 x22).f0),.int .i64 0,.int .i64 0]) ?_ 1 _ rfl;refine blk_put (cs := #[.int .i64 0,.int .i64 0,.int .i64 0]) ?_ 0 _ rfl;exact BKX.out⟩;have HB_:Aside0 (Below w.heap.size w wb):=⟨by rw[hw];exact below_set (below_set (below_set HB.out GEX.out) GEX.out) GEX.out⟩;clear hw HO8 HO9 HM BKI BKA BKX HB;have HO8:=HO8_;have HO9:=HO9_;have HM:=HM_;have BKI:=BKI_;have BKA:=BKA_;have BKX:=BKX_;have HB:=HB_;clear HO8_ HO9_ HM_ BKI_ BKA_ BKX_ HB_;(try clear hcza_0 hcza_1 hcza_2 hfza_0 hfza_1 hfza_2);have hczb_0:=bc BKX.out 0;have hczb_1:=bc BKX.out 1;have hczb_2:=bc BKX.out 2;have hfzb_0:=blk_frozen BKX.out 0;have hfzb_1:=blk_frozen BKX.out 1;have hfzb_2:=blk_frozen BKX.out 2;have hczc_0:=bc BKA.out 0;have hczc_1:=bc BKA.out 1;have hczc_2:=bc BKA.out 2;have hfzc_0:=blk_frozen BKA.out 0;have hfzc_1:=blk_frozen BKA.out 1;have hfzc_2:=blk_frozen BKA.out 2;have hczd_0:=bc BKI.out 0;have hczd_1:=bc BKI.out 1;have hfzd_0:=blk_frozen BKI.out 0;have hfzd_1:=blk_frozen BKI.out 1)|(at_lookup;refine wpList_lookup_own_ok_int _ rfl _ _ 58 rfl 3 3 .i64 impl_spoken.law3 Try.underlying58 Try.underlying3 (impl_spoken.zero3 _) w3.heap.size x8.length D rfl (by exact HM.out) _ _ rfl (Maps.keyOf_int_mk Try.underlying3 CW.out) ?_;intro c_ hat_ hwc_;rw[HS.out]))
        go_quiet (fail)
        generalize hq_:wb.drewN _=wq
        replace HO8:=am (Kd.R_at hq_ HO8.out)
        replace HO9:=am (Kd.R_at hq_ HO9.out)
        replace BKI:=am (blk_at hq_ BKI.out)
        replace BKA:=am (blk_at hq_ BKA.out)
        replace BKX:=am (blk_at hq_ BKX.out)
        replace HB:=am (below_at hq_ HB.out)
        replace HM:=am (impl_spoken.map_to HM.out (show wq.heap[w3.heap.size]?=wb.heap[w3.heap.size]? from by rw[← hq_];rfl))
        clear hq_
        (try clear hczb_0 hczb_1 hczb_2 hfzb_0 hfzb_1 hfzb_2);(try clear hczc_0 hczc_1 hczc_2 hfzc_0 hfzc_1 hfzc_2);(try clear hczd_0 hczd_1 hfzd_0 hfzd_1)
        have hczg_0:=bc BKX.out 0;have hczg_1:=bc BKX.out 1;have hczg_2:=bc BKX.out 2;have hfzg_0:=blk_frozen BKX.out 0;have hfzg_1:=blk_frozen BKX.out 1;have hfzg_2:=blk_frozen BKX.out 2;have hczh_0:=bc BKA.out 0;have hczh_1:=bc BKA.out 1;have hczh_2:=bc BKA.out 2;have hfzh_0:=blk_frozen BKA.out 0;have hfzh_1:=blk_frozen BKA.out 1;have hfzh_2:=blk_frozen BKA.out 2;have hczi_0:=bc BKI.out 0;have hczi_1:=bc BKI.out 1;have hfzi_0:=blk_frozen BKI.out 0;have hfzi_1:=blk_frozen BKI.out 1
        go_wp2_with (first|((with_reducible refine gate_builtin (b := .append) (xs := #[.tmp 78,.tmp 80]) rfl ?_);at_builtin;refine Kd.R_append (Kd.int .i64) (w0:=w) w.heap.size rfl (.tmp 78) (.tmp 80) 22 3 (.int .i64 0) 8 rfl Try.underlying22 info3 rfl (by decide) (by omega) u9 x9 x22 [.int .i64 x22] (fun k_=>k_≠w3.heap.size) (fun _=>False) rfl (by first|(go_simp;done)|(go_simp;rfl)) ?aP (fun _ hk=>hk.elim) ?aF ?aO ?aB ?aS ?aL ?_;(case aP=>exact rfl);(case aB=>exact bl);(case aF=>exact(fun k_ hk_ e_=>by subst e_;exact absurd hk_ (Nat.not_le_of_lt (World.ownsMap.lt (by(with_reducible repeat(first|refine impl_spoken.map_drewN ?_ _|refine World.ownsMap.alloc ?_ _));exact HM.out)))));(case aO=>exact(rup HO9.out));(case aS=>exact(below_size bl));(case aL=>have:=CL.out;omega);intro va wc ho hb hg hat;replace HO8:=am (Kd.R_over' (rup HO8.out) (Kd.R_typed (rup HO9.out)) (by decide) hg);replace BKI:=am (blk_grown (g:=gbi) (o := .cells #[.slice A0 l0.length c0,.int .i64 a1] 24 (0,0)) (by exact bup BKI.out) hg (Kd.R_ne HO9.out BKI.out (by decide)));replace BKA:=am (blk_grown (g:=gba) (o := .cells #[.int .i64 a3,.int .i64 a4,.int .i64 a5] 28 (0,0)) (by exact bup BKA.out) hg (Kd.R_ne HO9.out BKA.out (by decide)));replace BKX:=am (blk_grown (g:=gbx) (o := .cells #[.int .i64 ((rd_T60 l2 x22).f0),.int .i64 ((rd_T60 l2 x22).f1),.int .i64 ((rd_T60 l2 x22).f2)] 60 (0,0)) (by exact bup BKX.out) hg (Kd.R_ne HO9.out BKX.out (by decide)));replace HM:=am (World.ownsMap.kept (by(with_reducible repeat(first|refine impl_spoken.map_drewN ?_ _|refine World.ownsMap.alloc ?_ _));exact HM.out) hg (fun e_=>HO9.out.1 _ e_.symm rfl));replace HB:=am (hb);replace HO9:=am (ho);clear ho hb hg hat))
        go_roundg k1
        case measure=>have:=HK1.out;omega
        case rel=>exact⟨x8,x9 ++ [x22],la,(wrap64 (x22+1)),D,fin2,H',⟨by have:=HK1.out;omega⟩,⟨rup HO8.out⟩,⟨rup HO9.out⟩,⟨by(with_reducible repeat(first|refine impl_spoken.map_drewN ?_ _|refine World.ownsMap.alloc ?_ _));exact HM.out⟩,HG,⟨by exact bup BKI.out⟩,⟨by exact bup BKA.out⟩,⟨bl⟩⟩
       ·rw[if_neg (show ¬ impl_spoken.bad l0 a1 a3 a4 a5 la (rd_T60 l2 x22) from fun hb_=>by rcases hb_ with h_|h_|h_|h_;exact c1 h_;exact c2 h_;exact absurd h_.1 (by rw[hso];simp);exact c4 h_)] at H
        have CP:=am (show(rd_T60 l2 x22).f0<(l0.length:Int) from by omega)
        obtain⟨cl_,H⟩:=ifp H
        have CV:=am cl_.1
        have cf0:decide (0≤(rd_T60 l2 x22).f0)=true:=decide_eq_true cl_.2.1
        have cf1:decide ((rd_T60 l2 x22).f0<(l0.length:Int))=true:=decide_eq_true CP.out
        have cl:=cl_.2.2
        clear cl_
        have CL:=am cl
        clear cl
        have H':=am H
        clear H
        have c1b:decide ((l0.length:Int)≤(rd_T60 l2 x22).f0)=false:=decide_eq_false c1
        have c2b:decide (wrap64 ((rd_T60 l2 x22).f2 - (rd_T60 l2 x22).f1)<a5)=false:=decide_eq_false c2
        have c4b:decide (wrap64 ((rd_T60 l2 x22).f2+a4)≤wrap64 ((rd_T60 l2 x22).f1+a3))=false:=decide_eq_false c4
        clear c9 c10 c1 c2 c4
        (try clear hso)
        have p_:0≤(x22:Int):=od
        have q_:x22<(l2.length:Int):=od
        obtain⟨adh,eh,hxh_0,hxh_1,hxh_2⟩:=at_T60 HR2.out x22 p_ q_
        cases eh
        replace hxh_0:=(HB.out.cell (World.block_lt_of_cell? w _ hxh_0)).trans hxh_0
        replace hxh_1:=(HB.out.cell (World.block_lt_of_cell? w _ hxh_1)).trans hxh_1
        replace hxh_2:=(HB.out.cell (World.block_lt_of_cell? w _ hxh_2)).trans hxh_2
        replace p_:=eq_true p_
        replace q_:=eq_true q_
        go_wp2_with (first|((with_reducible refine gate_dst (N:=12) rfl ?_);refine box_event ?hg (N:=12) ?hd (cs := #[.int .i64 0,.int .i64 0,.int .i64 0]) (t:=60) ?hr ?_;(case hd=>rfl);(case hg=>rfl);(case hr=>first|(go_simp;done)|(go_simp;rfl));intro gbx hg wa hbox hb;replace HO8:=am (Kd.R_below (rup HO8.out) hb);replace HO9:=am (Kd.R_below (rup HO9.out) hb);have BKX:=am (hbox);have GEX:=am (ge_ bl hg);replace HB:=am (below_step bl hb);have NXI:=am ((by rw[hg];exact Nat.ne_of_lt (blk_lt (g:=gbi) (o := .cells #[.slice A0 l0.length c0,.int .i64 a1] 24 (0,0)) (by exact bup BKI.out)):gbi≠gbx));replace BKI:=am (blk_below (g:=gbi) (o := .cells #[.slice A0 l0.length c0,.int .i64 a1] 24 (0,0)) (by exact bup BKI.out) hb);have NXA:=am ((by rw[hg];exact Nat.ne_of_lt (blk_lt (g:=gba) (o := .cells #[.int .i64 a3,.int .i64 a4,.int .i64 a5] 28 (0,0)) (by exact bup BKA.out)):gba≠gbx));replace BKA:=am (blk_below (g:=gba) (o := .cells #[.int .i64 a3,.int .i64 a4,.int .i64 a5] 28 (0,0)) (by exact bup BKA.out) hb);have NXM:=am ((by rw[hg];exact Nat.ne_of_lt (World.ownsMap.lt (by(with_reducible repeat(first|refine impl_spoken.map_drewN ?_ _|refine World.ownsMap.alloc ?_ _));exact HM.out)):w3.heap.size≠gbx));replace HM:=am (impl_spoken.map_below (by(with_reducible repeat(first|refine impl_spoken.map_drewN ?_ _|refine World.ownsMap.alloc ?_ _));exact HM.out) hb);clear hb hbox hg;have hcza_0:=bc BKX.out 0;have hcza_1:=bc BKX.out 1;have hcza_2:=bc BKX.out 2;have hfza_0:=blk_frozen BKX.out 0;have hfza_1:=blk_frozen BKX.out 1;have hfza_2:=blk_frozen BKX.out 2)|((with_reducible refine gate_store (t:=60) (p:=12) rfl ?_);refine store_event (t:=60) (p:=12) (v:=?vo) (w1:=(((wa.setCell ⟨gbx,0,none⟩ (.int .i64 ((rd_T60 l2 x22).f0))).setCell ⟨gbx,1,none⟩ (.int .i64 ((rd_T60 l2 x22).f1))).setCell ⟨gbx,2,none⟩ (.int .i64 ((rd_T60 l2 x22).f2)))) ?hg ?ho ?hn ?hr ?_;(case ho=>rfl);(case hg=>rfl);(case hn=>rfl);(case hr=>first|(go_simp;done)|(go_simp;rfl));intro wb hw;have HO8_:Aside0 (Kd.R k37 37 wb w.heap.size (fun k_=>k_≠w3.heap.size) u8 x8):=⟨(by rw[hw];exact Kd.R_mono (Kd.R_far (p:=⟨gbx,2,none⟩) (Kd.R_far (p:=⟨gbx,1,none⟩) (Kd.R_far (p:=⟨gbx,0,none⟩) (Kd.R_types HO8.out BKX.out (by decide)) (fun _ hk=>hk.2) (.int .i64 ((rd_T60 l2 x22).f0))) (fun _ hk=>hk.2) (.int .i64 ((rd_T60 l2 x22).f1))) (fun _ hk=>hk.2) (.int .i64 ((rd_T60 l2 x22).f2))) (fun _ hk=>hk.1))⟩;have HO9_:Aside0 (Kd.R (Kd.int .i64) 3 wb w.heap.size (fun k_=>k_≠w3.heap.size) u9 x9):=⟨(by rw[hw];exact Kd.R_mono (Kd.R_far (p:=⟨gbx,2,none⟩) (Kd.R_far (p:=⟨gbx,1,none⟩) (Kd.R_far (p:=⟨gbx,0,none⟩) (Kd.R_types HO9.out BKX.out (by decide)) (fun _ hk=>hk.2) (.int .i64 ((rd_T60 l2 x22).f0))) (fun _ hk=>hk.2) (.int .i64 ((rd_T60 l2 x22).f1))) (fun _ hk=>hk.2) (.int .i64 ((rd_T60 l2 x22).f2))) (fun _ hk=>hk.1))⟩;have HM_:Aside0 (wb.ownsMap Try.prog 3 (plainElem Try.prog 3) w3.heap.size x8.length D):=⟨by rw[hw];exact impl_spoken.map_far (impl_spoken.map_far (impl_spoken.map_far HM.out NXM.out) NXM.out) NXM.out⟩;have BKI_:Aside0 (wb.heap[gbi]?=some (.cells #[.slice A0 l0.length c0,.int .i64 a1] 24 (0,0))):=⟨by rw[hw];refine blk_far ?_ NXI.out _;refine blk_far ?_ NXI.out _;refine blk_far ?_ NXI.out _;exact BKI.out⟩;have BKA_:Aside0 (wb.heap[gba]?=some (.cells #[.int .i64 a3,.int .i64 a4,.int .i64 a5] 28 (0,0))):=⟨by rw[hw];refine blk_far ?_ NXA.out _;refine blk_far ?_ NXA.out _;refine blk_far ?_ NXA.out _;exact BKA.out⟩;have BKX_:Aside0 (wb.heap[gbx]?=some (.cells #[.int .i64 ((rd_T60 l2 x22).f0),.int .i64 ((rd_T60 l2 x22).f1),.int .i64 ((rd_T60 l2 x22).f2)] 60 (0,0))):=⟨by rw[hw];refine blk_put (cs := #[.int .i64 ((rd_T60 l2 x22).f0),.int .i64 ((rd_T60 l2 x22).f1),.int .i64 0]) ?_ 2 _ rfl;refine blk_put (cs := #[.int .i64 ((rd_T60 l2 x22).f0),.int .i64 0,.int .i64 0]) ?_ 1 _ rfl;refine blk_put (cs := #[.int .i64 0,.int .i64 0,.int .i64 0]) ?_ 0 _ rfl;exact BKX.out⟩;have HB_:Aside0 (Below w.heap.size w wb):=⟨by rw[hw];exact below_set (below_set (below_set HB.out GEX.out) GEX.out) GEX.out⟩;clear hw HO8 HO9 HM BKI BKA BKX HB;have HO8:=HO8_;have HO9:=HO9_;have HM:=HM_;have BKI:=BKI_;have BKA:=BKA_;have BKX:=BKX_;have HB:=HB_;clear HO8_ HO9_ HM_ BKI_ BKA_ BKX_ HB_;(try clear hcza_0 hcza_1 hcza_2 hfza_0 hfza_1 hfza_2);have hczb_0:=bc BKX.out 0;have hczb_1:=bc BKX.out 1;have hczb_2:=bc BKX.out 2;have hfzb_0:=blk_frozen BKX.out 0;have hfzb_1:=blk_frozen BKX.out 1;have hfzb_2:=blk_frozen BKX.out 2;have hczc_0:=bc BKA.out 0;have hczc_1:=bc BKA.out 1;have hczc_2:=bc BKA.out 2;have hfzc_0:=blk_frozen BKA.out 0;have hfzc_1:=blk_frozen BKA.out 1;have hfzc_2:=blk_frozen BKA.out 2;have hczd_0:=bc BKI.out 0;have hczd_1:=bc BKI.out 1;have hfzd_0:=blk_frozen BKI.out 0;have hfzd_1:=blk_frozen BKI.out 1)|(at_lookup;refine wpList_lookup_own_ok_int _ rfl _ _ 58 rfl 3 3 .i64 impl_spoken.law3 Try.underlying58 Try.underlying3 (impl_spoken.zero3 _) w3.heap.size x8.length D rfl (by exact HM.out) _ _ rfl (Maps.keyOf_int_mk Try.underlying3 CW.out) ?_;intro c_ hat_ hwc_;rw[HS.out]))
        go_quiet (fail)
        generalize hq_:wb.drewN _=wq
        replace HO8:=am (Kd.R_at hq_ HO8.out)
        replace HO9:=am (Kd.R_at hq_ HO9.out)
        replace BKI:=am (blk_at hq_ BKI.out)
        replace BKA:=am (blk_at hq_ BKA.out)
        replace BKX:=am (blk_at hq_ BKX.out)
        replace HB:=am (below_at hq_ HB.out)
        replace HM:=am (impl_spoken.map_to HM.out (show wq.heap[w3.heap.size]?=wb.heap[w3.heap.size]? from by rw[← hq_];rfl))
        clear hq_
        (try clear hczb_0 hczb_1 hczb_2 hfzb_0 hfzb_1 hfzb_2);(try clear hczc_0 hczc_1 hczc_2 hfzc_0 hfzc_1 hfzc_2);(try clear hczd_0 hczd_1 hfzd_0 hfzd_1)
        have hczg_0:=bc BKX.out 0;have hczg_1:=bc BKX.out 1;have hczg_2:=bc BKX.out 2;have hfzg_0:=blk_frozen BKX.out 0;have hfzg_1:=blk_frozen BKX.out 1;have hfzg_2:=blk_frozen BKX.out 2;have hczh_0:=bc BKA.out 0;have hczh_1:=bc BKA.out 1;have hczh_2:=bc BKA.out 2;have hfzh_0:=blk_frozen BKA.out 0;have hfzh_1:=blk_frozen BKA.out 1;have hfzh_2:=blk_frozen BKA.out 2;have hczi_0:=bc BKI.out 0;have hczi_1:=bc BKI.out 1;have hfzi_0:=blk_frozen BKI.out 0;have hfzi_1:=blk_frozen BKI.out 1
        go_wp2_with (first|(at_mapUpdate;refine wpList_mapUpdate_own _ rfl _ _ _ 58 rfl 3 3 impl_spoken.law3 Try.underlying58 _ w3.heap.size x8.length D rfl (by exact HM.out) (by have:=CL.out;unfold maxLen;omega) _ _ _ rfl rfl (Maps.keyOf_int_mk Try.underlying3 CW.out) _ [] (plainElem_int Try.underlying3 CV.out) ?_;intro wc hown1 hgrow1;replace HM:=am (hown1);replace HO8:=am (Kd.R_grown (ok:=fun k_=>k_≠w3.heap.size) (rup HO8.out) hgrow1 (fun k_ hk_ e_=>hk_ (by injection e_)));replace HO9:=am (Kd.R_grown (ok:=fun k_=>k_≠w3.heap.size) (rup HO9.out) hgrow1 (fun k_ hk_ e_=>hk_ (by injection e_)));replace BKI:=am (blk_grown (g:=gbi) (o := .cells #[.slice A0 l0.length c0,.int .i64 a1] 24 (0,0)) (by exact bup BKI.out) hgrow1 (fun e_=>absurd (by injection e_) NMI.out));replace BKA:=am (blk_grown (g:=gba) (o := .cells #[.int .i64 a3,.int .i64 a4,.int .i64 a5] 28 (0,0)) (by exact bup BKA.out) hgrow1 (fun e_=>absurd (by injection e_) NMA.out));replace BKX:=am (blk_grown (g:=gbx) (o := .cells #[.int .i64 ((rd_T60 l2 x22).f0),.int .i64 ((rd_T60 l2 x22).f1),.int .i64 ((rd_T60 l2 x22).f2)] 60 (0,0)) (by exact bup BKX.out) hgrow1 (fun e_=>absurd (by injection e_) (Ne.symm NXM.out)));replace HB:=am ((show Below w.heap.size w _ from bl).grown hgrow1 (below_size HB.out) (fun j hj=>by cases hj;exact BGE.out));clear hown1 hgrow1;have hcze_0:=bc BKX.out 0;have hcze_1:=bc BKX.out 1;have hcze_2:=bc BKX.out 2;have hfze_0:=blk_frozen BKX.out 0;have hfze_1:=blk_frozen BKX.out 1;have hfze_2:=blk_frozen BKX.out 2;have hczf_0:=bc BKI.out 0;have hczf_1:=bc BKI.out 1;have hfzf_0:=blk_frozen BKI.out 0;have hfzf_1:=blk_frozen BKI.out 1;have p_:0≤(((rd_T60 l2 x22).f0):Int):=od;have q_:((rd_T60 l2 x22).f0)<(l0.length:Int):=CP.out;obtain⟨adp,ep,hxp⟩:=Kd.at_int HR0.out ((rd_T60 l2 x22).f0) p_ q_;cases ep;replace hxp:=(HB.out.cell (World.block_lt_of_cell? w _ hxp)).trans hxp;replace p_:=eq_true p_;replace q_:=eq_true q_)|((with_reducible refine gate_builtin (b := .append) (xs := #[.tmp 87,.tmp 97]) rfl ?_);at_builtin;refine Kd.R_append k37 (w0:=w) w.heap.size rfl (.tmp 87) (.tmp 97) 31 37 (.agg #[(.int .i64 0),(.int .i64 0),(.int .i64 0)]) 24 rfl Try.underlying31 info37 rfl (by decide) (by omega) u8 x8 (⟨rd l0 ((rd_T60 l2 x22).f0),wrap64 ((rd_T60 l2 x22).f1+a3),wrap64 ((rd_T60 l2 x22).f2+a4)⟩:S37) [.int .i64 (rd l0 ((rd_T60 l2 x22).f0)),.int .i64 (wrap64 ((rd_T60 l2 x22).f1+a3)),.int .i64 (wrap64 ((rd_T60 l2 x22).f2+a4))] (fun k_=>k_≠w3.heap.size) (fun _=>False) rfl rfl ?aP (fun _ hk=>hk.elim) ?aF ?aO ?aB ?aS ?aL ?_;(case aP=>exact k37_mkM _ _ _ (⟨rd l0 ((rd_T60 l2 x22).f0),wrap64 ((rd_T60 l2 x22).f1+a3),wrap64 ((rd_T60 l2 x22).f2+a4)⟩:S37));(case aB=>exact bl);(case aF=>exact(fun k_ hk_ e_=>by subst e_;exact absurd hk_ (Nat.not_le_of_lt (World.ownsMap.lt (by(with_reducible repeat(first|refine impl_spoken.map_drewN ?_ _|refine World.ownsMap.alloc ?_ _));exact HM.out)))));(case aO=>exact(rup HO8.out));(case aS=>exact(below_size bl));(case aL=>have:=CL.out;omega);intro va wd ho hb hg hat;replace HO9:=am (Kd.R_over' (rup HO9.out) (Kd.R_typed (rup HO8.out)) (by decide) hg);replace BKI:=am (blk_grown (g:=gbi) (o := .cells #[.slice (some adp) l0.length c0,.int .i64 a1] 24 (0,0)) (by exact bup BKI.out) hg (Kd.R_ne HO8.out BKI.out (by decide)));replace BKA:=am (blk_grown (g:=gba) (o := .cells #[.int .i64 a3,.int .i64 a4,.int .i64 a5] 28 (0,0)) (by exact bup BKA.out) hg (Kd.R_ne HO8.out BKA.out (by decide)));replace BKX:=am (blk_grown (g:=gbx) (o := .cells #[.int .i64 ((rd_T60 l2 x22).f0),.int .i64 ((rd_T60 l2 x22).f1),.int .i64 ((rd_T60 l2 x22).f2)] 60 (0,0)) (by exact bup BKX.out) hg (Kd.R_ne HO8.out BKX.out (by decide)));replace HM:=am (World.ownsMap.kept (by(with_reducible repeat(first|refine impl_spoken.map_drewN ?_ _|refine World.ownsMap.alloc ?_ _));exact HM.out) hg (fun e_=>HO8.out.1 _ e_.symm rfl));replace HB:=am (hb);replace HO8:=am (ho);clear ho hb hg hat))
        go_roundg k1
        case measure=>have:=HK1.out;omega
        case rel=>exact⟨x8 ++ [(⟨rd l0 ((rd_T60 l2 x22).f0),wrap64 ((rd_T60 l2 x22).f1+a3),wrap64 ((rd_T60 l2 x22).f2+a4)⟩:S37)],x9,impl_spoken.upd la ((rd_T60 l2 x22).f0) ((rd_T60 l2 x22).f1),(wrap64 (x22+1)),_,fin2,H',⟨by have:=HK1.out;omega⟩,⟨rup HO8.out⟩,⟨rup HO9.out⟩,⟨by rw[List.length_append];(with_reducible repeat(first|refine impl_spoken.map_drewN ?_ _|refine World.ownsMap.alloc ?_ _));exact HM.out⟩,⟨impl_spoken.agree_put HG.out _ _⟩,⟨by exact bup BKI.out⟩,⟨by exact bup BKA.out⟩,⟨bl⟩⟩
   ·have c9b0:=decide_eq_false c9
    clear c9
    simp only[Option.some.injEq,Prod.mk.injEq] at H
    obtain⟨rfl,rfl⟩:=H
    go_wp2
    repeat(go_quiet (fail);try go_wp2)
    go_ret2
    exact⟨_,_,by first|rfl|(simp;done)|(simp [*];done),rup (Kd.R_mono HO8.out (fun _ _=>trivial)),rup (Kd.R_mono HO9.out (fun _ _=>trivial)),bl⟩

def slices_Index_int_int.l0:Nat→List Int→Int→Int→Int→Option (Int)
 | 0,_,_,_,_=>none
 | k+1,x0,x1,x7,x8=>if x8<x7 then(if 0≤x8 then(if x8<(x0.length:Int) then(if x1=(rd x0 x8) then(some x8) else(slices_Index_int_int.l0 k x0 x1 x7 (wrap64 (x8+1)))) else(none)) else(none)) else(some (-1))
def slices_Index_int_int.f (k:Nat) (l0:List Int) (a1:Int):Option (Int):=slices_Index_int_int.l0 k l0 a1 (l0.length:Int) 0
set_option maxHeartbeats 8000000 in
set_option maxRecDepth 100000 in
theorem slices_Index_int_int.calls (k:Nat) (A0:Option Addr) (c0:Nat) (l0:List Int) (a1:Int) (r:Int) (w:World) (hr0:Kd.C (Kd.int .i64) w A0 l0.length l0) (hc0:l0.length≤c0) (h:slices_Index_int_int.f k l0 a1=some r) :
  Calls Try.prog 44 #[.slice A0 l0.length c0,.int .i64 a1] w fun e w'=>e = .returned (.int .i64 r)∧Drawn0 w w':=by
 have HR0:=am hr0
 have HC0:=am hc0
 clear hr0 hc0
 have H:(slices_Index_int_int.l0 k l0 a1 (l0.length:Int) 0)=some r:=h
 clear h
 have H':=am H
 clear H
 go_enter Try.func44,Try.ntmps44
 go_wp2
 go_loopg [8] k (fun kq v8 w'=>∃(x8_1:Int),v8 = .int .i64 x8_1∧Aside0 (slices_Index_int_int.l0 kq l0 a1 (l0.length:Int) x8_1=some r)∧Aside0 (kq≤k)∧Drawn0 w w')
 case atStart=>exact⟨(0),fin2,H',⟨Nat.le_refl _⟩,by repeat(first|exact Drawn0.refl _|apply Drawn0.step)⟩
 case round =>
  clear H'
  obtain⟨x8_1,rfl,HA,HK1,⟨m1,rfl⟩⟩:=hrel
  cases gk with
  | zero=>exact absurd HA.out (by simp [slices_Index_int_int.l0])
  | succ k1 =>
   have H:=HA.out
   clear HA
   simp only[slices_Index_int_int.l0] at H
   rcases itc H with⟨c3,H⟩|⟨c3,H⟩
   ·have c3b0:=decide_eq_true c3
    clear c3
    obtain⟨c4b0,H⟩:=ifb H
    obtain⟨c5b0,H⟩:=ifb H
    rcases itc H with⟨c6,H⟩|⟨c6,H⟩
    ·have c6b0:(a1 == (rd l0 x8_1))=true:=beq_iff_eq.mpr c6
     have c6b1:(a1 != (rd l0 x8_1))=false:=bne_eq_false_iff_eq.mpr c6
     clear c6
     obtain rfl:=Option.some.inj H
     have p141:0≤(x8_1:Int):=od
     have q141:x8_1<(l0.length:Int):=od
     obtain⟨ad141,e141,hx141_0⟩:=Kd.at_int HR0.out x8_1 p141 q141
     cases e141
     replace p141:=eq_true p141
     replace q141:=eq_true q141
     go_wp2
     go_ret
     exact⟨by first|rfl|(simp;done)|(simp [*];done),by repeat(first|exact Drawn0.refl _|apply Drawn0.step)⟩
    ·have c6b0:(a1 == (rd l0 x8_1))=false:=beq_eq_false_iff_ne.mpr c6
     have c6b1:(a1 != (rd l0 x8_1))=true:=bne_iff_ne.mpr c6
     have H':=am H
     clear H
     have p141:0≤(x8_1:Int):=od
     have q141:x8_1<(l0.length:Int):=od
     obtain⟨ad141,e141,hx141_0⟩:=Kd.at_int HR0.out x8_1 p141 q141
     cases e141
     replace p141:=eq_true p141
     replace q141:=eq_true q141
     go_wp2
     go_roundg k1
     case measure=>have:=HK1.out;omega
     case rel=>exact⟨(wrap64 (x8_1+1)),fin2,H',⟨by have:=HK1.out;omega⟩,by repeat(first|exact Drawn0.refl _|apply Drawn0.step)⟩
   ·have c3b0:=decide_eq_false c3
    clear c3
    obtain rfl:=Option.some.inj H
    go_wp2
    go_ret
    exact⟨by first|rfl|(simp;done)|(simp [*];done),by repeat(first|exact Drawn0.refl _|apply Drawn0.step)⟩

end Go.Proofs.Ytdcchnfndhkfaaa.PFnPassesPlays
