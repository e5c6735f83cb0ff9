/- Walks of functions that FnPassesPlays reaches. No conditions beyond the arguments' being read. -/
import Derived.Test.YtdcchnfndhkfaaaSFnPassesPlays0
namespace Go.Proofs.Ytdcchnfndhkfaaa.PFnPassesPlays
open Go.RowKit Go.Proofs.YtdcchnfndhkfaaaW.PrintWords Go.Proofs.YtdcchnfndhkfaaaW.PrintLast Go.Proofs.YtdcchnfndhkfaaaW.PrintMore
attribute [local go_sem] max2_int min2_int max_two min_two max_three min_three max_four min_four
set_option linter.unusedVariables false
set_option linter.unusedSimpArgs false

def impl_isTrack.f (a0:Int):Option (Bool):=if a0≥0 then(some (decide (a0<20))) else(some false)
set_option maxHeartbeats 8000000 in
set_option maxRecDepth 100000 in
theorem impl_isTrack.calls (a0:Int) (r:Bool) (w:World) (h:impl_isTrack.f a0=some r) :
  Calls Try.prog 52 #[.int .i64 a0] w fun e w'=>e = .returned (.bool r)∧Drawn0 w w':=by
 have H:(if a0≥0 then(some (decide (a0<20))) else(some false))=some r:=h
 clear h
 rcases itc H with⟨c2,H⟩|⟨c2,H⟩
 ·have c2b0:decide (0≤a0)=true:=decide_eq_true c2
  clear c2
  obtain rfl:=Option.some.inj H
  go_enter Try.func52,Try.ntmps52
  go_wp2
  go_ret
  exact⟨by first|rfl|(simp;done)|(simp [*];done),by repeat(first|exact Drawn0.refl _|apply Drawn0.step)⟩
 ·have c2b0:decide (0≤a0)=false:=decide_eq_false c2
  clear c2
  obtain rfl:=Option.some.inj H
  go_enter Try.func52,Try.ntmps52
  go_wp2
  go_ret
  exact⟨by first|rfl|(simp;done)|(simp [*];done),by repeat(first|exact Drawn0.refl _|apply Drawn0.step)⟩

def impl_IsHole.f (a0_0:Int) (a0_1:Int) (a0_2:Int):Option (Bool):=(impl_isTrack.f a0_0).bind fun t122=>(if t122=true then(if a0_1≥0 then(if a0_1<a0_2 then(some (decide (a0_2≤2000))) else(some false)) else(some false)) else(some false))
set_option maxHeartbeats 8000000 in
set_option maxRecDepth 100000 in
theorem impl_IsHole.calls (a0_0:Int) (a0_1:Int) (a0_2:Int) (r:Bool) (w:World) (h:impl_IsHole.f a0_0 a0_1 a0_2=some r) :
  Calls Try.prog 42 #[.agg #[.int .i64 a0_0,.int .i64 a0_1,.int .i64 a0_2]] w fun e w'=>e = .returned (.bool r)∧Below w.heap.size w w':=by
 have hu60:=Try.underlying60
 have HB:=am (Below.refl w.heap.size w)
 have H:((impl_isTrack.f a0_0).bind fun t122=>(if t122=true then(if a0_1≥0 then(if a0_1<a0_2 then(some (decide (a0_2≤2000))) else(some false)) else(some false)) else(some false)))=some r:=h
 clear h
 obtain⟨t122,A2,H⟩:=bnd H
 by_cases c3:t122=true
 ·subst c3
  replace H:=(if_pos rfl).symm.trans H
  rcases itc H with⟨c4,H⟩|⟨c4,H⟩
  ·have c4b0:decide (0≤a0_1)=true:=decide_eq_true c4
   clear c4
   rcases itc H with⟨c5,H⟩|⟨c5,H⟩
   ·have c5b0:=decide_eq_true c5
    clear c5
    obtain rfl:=Option.some.inj H
    go_enter Try.func42,Try.ntmps42
    go_wp2_with (first|((with_reducible refine gate_dst (N:=1) rfl ?_);refine box_event ?hg (N:=1) ?hd (cs := #[.int .i64 a0_0,.int .i64 a0_1,.int .i64 a0_2]) (t:=60) ?hr ?_;(case hd=>rfl);(case hg=>rfl);(case hr=>first|(go_simp;done)|(go_simp;rfl));intro gb121 hg w6 hbox hb;have BK121:=am (hbox);have GW121:=am (ge_ bl hg);have GE121:=am (ge_ bl hg);replace HB:=am (below_step bl hb);clear hb hbox hg;have hcz7_0:=bc BK121.out 0;have hcz7_1:=bc BK121.out 1;have hcz7_2:=bc BK121.out 2;have hfz7_0:=blk_frozen BK121.out 0;have hfz7_1:=blk_frozen BK121.out 1;have hfz7_2:=blk_frozen BK121.out 2)|((with_reducible refine gate_callee (f:=52) rfl ?_);refine goesL_ (some 5) rfl rfl Try.func52 (by kernel_rfl) rfl #[.int .i64 a0_0] rfl tl ?_;(with_reducible refine(impl_isTrack.calls a0_0 true _ A2.out).mono ?_);rintro e w' ⟨rfl,⟨nd,rfl⟩⟩;refine⟨_,rfl,?_⟩))
    go_ret
    exact⟨fin1,bl⟩
   ·have c5b0:=decide_eq_false c5
    clear c5
    obtain rfl:=Option.some.inj H
    go_enter Try.func42,Try.ntmps42
    go_wp2_with (first|((with_reducible refine gate_dst (N:=1) rfl ?_);refine box_event ?hg (N:=1) ?hd (cs := #[.int .i64 a0_0,.int .i64 a0_1,.int .i64 a0_2]) (t:=60) ?hr ?_;(case hd=>rfl);(case hg=>rfl);(case hr=>first|(go_simp;done)|(go_simp;rfl));intro gb121 hg w8 hbox hb;have BK121:=am (hbox);have GW121:=am (ge_ bl hg);have GE121:=am (ge_ bl hg);replace HB:=am (below_step bl hb);clear hb hbox hg;have hcz9_0:=bc BK121.out 0;have hcz9_1:=bc BK121.out 1;have hcz9_2:=bc BK121.out 2;have hfz9_0:=blk_frozen BK121.out 0;have hfz9_1:=blk_frozen BK121.out 1;have hfz9_2:=blk_frozen BK121.out 2)|((with_reducible refine gate_callee (f:=52) rfl ?_);refine goesL_ (some 5) rfl rfl Try.func52 (by kernel_rfl) rfl #[.int .i64 a0_0] rfl tl ?_;(with_reducible refine(impl_isTrack.calls a0_0 true _ A2.out).mono ?_);rintro e w' ⟨rfl,⟨nd,rfl⟩⟩;refine⟨_,rfl,?_⟩))
    go_ret
    exact⟨fin1,bl⟩
  ·have c4b0:decide (0≤a0_1)=false:=decide_eq_false c4
   clear c4
   obtain rfl:=Option.some.inj H
   go_enter Try.func42,Try.ntmps42
   go_wp2_with (first|((with_reducible refine gate_dst (N:=1) rfl ?_);refine box_event ?hg (N:=1) ?hd (cs := #[.int .i64 a0_0,.int .i64 a0_1,.int .i64 a0_2]) (t:=60) ?hr ?_;(case hd=>rfl);(case hg=>rfl);(case hr=>first|(go_simp;done)|(go_simp;rfl));intro gb121 hg w10 hbox hb;have BK121:=am (hbox);have GW121:=am (ge_ bl hg);have GE121:=am (ge_ bl hg);replace HB:=am (below_step bl hb);clear hb hbox hg;have hcz11_0:=bc BK121.out 0;have hcz11_1:=bc BK121.out 1;have hcz11_2:=bc BK121.out 2;have hfz11_0:=blk_frozen BK121.out 0;have hfz11_1:=blk_frozen BK121.out 1;have hfz11_2:=blk_frozen BK121.out 2)|((with_reducible refine gate_callee (f:=52) rfl ?_);refine goesL_ (some 5) rfl rfl Try.func52 (by kernel_rfl) rfl #[.int .i64 a0_0] rfl tl ?_;(with_reducible refine(impl_isTrack.calls a0_0 true _ A2.out).mono ?_);rintro e w' ⟨rfl,⟨nd,rfl⟩⟩;refine⟨_,rfl,?_⟩))
   go_ret
   exact⟨fin1,bl⟩
 ·replace c3:=Bool.eq_false_iff.mpr c3
  subst c3
  replace H:=(if_neg Bool.false_ne_true).symm.trans H
  obtain rfl:=Option.some.inj H
  go_enter Try.func42,Try.ntmps42
  go_wp2_with (first|((with_reducible refine gate_dst (N:=1) rfl ?_);refine box_event ?hg (N:=1) ?hd (cs := #[.int .i64 a0_0,.int .i64 a0_1,.int .i64 a0_2]) (t:=60) ?hr ?_;(case hd=>rfl);(case hg=>rfl);(case hr=>first|(go_simp;done)|(go_simp;rfl));intro gb121 hg w12 hbox hb;have BK121:=am (hbox);have GW121:=am (ge_ bl hg);have GE121:=am (ge_ bl hg);replace HB:=am (below_step bl hb);clear hb hbox hg;have hcz13_0:=bc BK121.out 0;have hcz13_1:=bc BK121.out 1;have hcz13_2:=bc BK121.out 2;have hfz13_0:=blk_frozen BK121.out 0;have hfz13_1:=blk_frozen BK121.out 1;have hfz13_2:=blk_frozen BK121.out 2)|((with_reducible refine gate_callee (f:=52) rfl ?_);refine goesL_ (some 5) rfl rfl Try.func52 (by kernel_rfl) rfl #[.int .i64 a0_0] rfl tl ?_;(with_reducible refine(impl_isTrack.calls a0_0 false _ A2.out).mono ?_);rintro e w' ⟨rfl,⟨nd,rfl⟩⟩;refine⟨_,rfl,?_⟩))
  go_ret
  exact⟨fin1,bl⟩

def impl_holeLess.f (a0_0:Int) (a0_1:Int) (a0_2:Int) (a1_0:Int) (a1_1:Int) (a1_2:Int):Option (Bool):=if a0_1=a1_1 then(some (decide (a0_0<a1_0))) else(some (decide (a0_1<a1_1)))
set_option maxHeartbeats 8000000 in
set_option maxRecDepth 100000 in
theorem impl_holeLess.calls (a0_0:Int) (a0_1:Int) (a0_2:Int) (a1_0:Int) (a1_1:Int) (a1_2:Int) (r:Bool) (w:World) (h:impl_holeLess.f a0_0 a0_1 a0_2 a1_0 a1_1 a1_2=some r) :
  Calls Try.prog 43 #[.agg #[.int .i64 a0_0,.int .i64 a0_1,.int .i64 a0_2],.agg #[.int .i64 a1_0,.int .i64 a1_1,.int .i64 a1_2]] w fun e w'=>e = .returned (.bool r)∧Below w.heap.size w w':=by
 have hu60:=Try.underlying60
 have HB:=am (Below.refl w.heap.size w)
 have H:(if a0_1=a1_1 then(some (decide (a0_0<a1_0))) else(some (decide (a0_1<a1_1))))=some r:=h
 clear h
 rcases itc H with⟨c3,H⟩|⟨c3,H⟩
 ·have c3b0:(a0_1 == a1_1)=true:=beq_iff_eq.mpr c3
  have c3b1:(a0_1 != a1_1)=false:=bne_eq_false_iff_eq.mpr c3
  clear c3
  obtain rfl:=Option.some.inj H
  go_enter Try.func43,Try.ntmps43
  go_wp2_with (first|((with_reducible refine gate_dst (N:=2) rfl ?_);refine box_event ?hg (N:=2) ?hd (cs := #[.int .i64 a0_0,.int .i64 a0_1,.int .i64 a0_2]) (t:=60) ?hr ?_;(case hd=>rfl);(case hg=>rfl);(case hr=>first|(go_simp;done)|(go_simp;rfl));intro gb123 hg w4 hbox hb;have BK123:=am (hbox);have GW123:=am (ge_ bl hg);have GE123:=am (ge_ bl hg);replace HB:=am (below_step bl hb);clear hb hbox hg)|((with_reducible refine gate_dst (N:=3) rfl ?_);refine box_event ?hg (N:=3) ?hd (cs := #[.int .i64 a1_0,.int .i64 a1_1,.int .i64 a1_2]) (t:=60) ?hr ?_;(case hd=>rfl);(case hg=>rfl);(case hr=>first|(go_simp;done)|(go_simp;rfl));intro gb124 hg w5 hbox hb;have BK124:=am (hbox);have GW124:=am (ge_ bl hg);have GE124:=am (ge_ bl hg);replace HB:=am (below_step bl hb);have NB123_124:=am (nl (bup BK123.out) hg);have NB124_123:=am (ng (bup BK123.out) hg);replace BK123:=am (blk_below (bup BK123.out) hb);clear hb hbox hg;have hnb6:=NB123_124.out;have hnc6:=NB124_123.out;have hcz7_0:=bc BK123.out 0;have hcz7_1:=bc BK123.out 1;have hcz7_2:=bc BK123.out 2;have hfz7_0:=blk_frozen BK123.out 0;have hfz7_1:=blk_frozen BK123.out 1;have hfz7_2:=blk_frozen BK123.out 2;have hcz8_0:=bc BK124.out 0;have hcz8_1:=bc BK124.out 1;have hcz8_2:=bc BK124.out 2;have hfz8_0:=blk_frozen BK124.out 0;have hfz8_1:=blk_frozen BK124.out 1;have hfz8_2:=blk_frozen BK124.out 2))
  go_ret
  exact⟨fin1,bl⟩
 ·have c3b0:(a0_1 == a1_1)=false:=beq_eq_false_iff_ne.mpr c3
  have c3b1:(a0_1 != a1_1)=true:=bne_iff_ne.mpr c3
  obtain rfl:=Option.some.inj H
  go_enter Try.func43,Try.ntmps43
  go_wp2_with (first|((with_reducible refine gate_dst (N:=2) rfl ?_);refine box_event ?hg (N:=2) ?hd (cs := #[.int .i64 a0_0,.int .i64 a0_1,.int .i64 a0_2]) (t:=60) ?hr ?_;(case hd=>rfl);(case hg=>rfl);(case hr=>first|(go_simp;done)|(go_simp;rfl));intro gb123 hg w9 hbox hb;have BK123:=am (hbox);have GW123:=am (ge_ bl hg);have GE123:=am (ge_ bl hg);replace HB:=am (below_step bl hb);clear hb hbox hg)|((with_reducible refine gate_dst (N:=3) rfl ?_);refine box_event ?hg (N:=3) ?hd (cs := #[.int .i64 a1_0,.int .i64 a1_1,.int .i64 a1_2]) (t:=60) ?hr ?_;(case hd=>rfl);(case hg=>rfl);(case hr=>first|(go_simp;done)|(go_simp;rfl));intro gb124 hg w10 hbox hb;have BK124:=am (hbox);have GW124:=am (ge_ bl hg);have GE124:=am (ge_ bl hg);replace HB:=am (below_step bl hb);have NB123_124:=am (nl (bup BK123.out) hg);have NB124_123:=am (ng (bup BK123.out) hg);replace BK123:=am (blk_below (bup BK123.out) hb);clear hb hbox hg;have hnb11:=NB123_124.out;have hnc11:=NB124_123.out;have hcz12_0:=bc BK123.out 0;have hcz12_1:=bc BK123.out 1;have hcz12_2:=bc BK123.out 2;have hfz12_0:=blk_frozen BK123.out 0;have hfz12_1:=blk_frozen BK123.out 1;have hfz12_2:=blk_frozen BK123.out 2;have hcz13_0:=bc BK124.out 0;have hcz13_1:=bc BK124.out 1;have hcz13_2:=bc BK124.out 2;have hfz13_0:=blk_frozen BK124.out 0;have hfz13_1:=blk_frozen BK124.out 1;have hfz13_2:=blk_frozen BK124.out 2))
  go_ret
  exact⟨fin1,bl⟩

end Go.Proofs.Ytdcchnfndhkfaaa.PFnPassesPlays
