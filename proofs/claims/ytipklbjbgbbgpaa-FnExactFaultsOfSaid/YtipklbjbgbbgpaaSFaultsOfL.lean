/- The walk of the law FnExactFaultsOf, for the answer true. Laid by a program of this session over the contracts of the functions that it calls. No conditions beyond the arguments' being read. -/
import Derived.Test.YtipklbjbgbbgpaaSFaultsOf0
import Derived.Test.YtipklbjbgbbgpaaSFaultsOf1
import Derived.Test.YtipklbjbgbbgpaaSFaultsOf2
import Derived.Test.YtipklbjbgbbgpaaSFaultsOf3
import Derived.Test.YtipklbjbgbbgpaaSFaultsOf4
import Derived.Test.YtipklbjbgbbgpaaSFaultsOf5
import Derived.Test.YtipklbjbgbbgpaaSFaultsOf6
import Derived.Test.YtipklbjbgbbgpaaSFaultsOf7
import Derived.Test.YtipklbjbgbbgpaaSFaultsOf8
import Derived.Test.YtipklbjbgbbgpaaSFaultsOf9
import Derived.Test.YtipklbjbgbbgpaaSFaultsOf10
import Derived.Test.YtipklbjbgbbgpaaSFaultsOf11
import Derived.Test.YtipklbjbgbbgpaaSFaultsOf12
import Derived.Test.YtipklbjbgbbgpaaSFaultsOf13
import Derived.Test.YtipklbjbgbbgpaaSFaultsOf14
import Derived.Test.YtipklbjbgbbgpaaSFaultsOf15
import Derived.Test.YtipklbjbgbbgpaaSFaultsOf16
import Derived.Test.YtipklbjbgbbgpaaSFaultsOf17
import Derived.Test.YtipklbjbgbbgpaaSFaultsOf18
import Derived.Test.YtipklbjbgbbgpaaSFaultsOf19
import Derived.Test.YtipklbjbgbbgpaaSFaultsOf20
import Derived.Test.YtipklbjbgbbgpaaSFaultsOfM
namespace Go.Proofs.Ytipklbjbgbbgpaa.PFnExactFaultsOf
open Go Go.RowKit Go.Proofs.YtipklbjbgbbgpaaW.PrintWords Go.Proofs.YtipklbjbgbbgpaaW.PrintLast Go.Proofs.YtipklbjbgbbgpaaW.PrintMore
set_option linter.unusedVariables false
set_option linter.unusedSimpArgs false
def laws_FnExactFaultsOf.f (k:Nat) (l0_0:List (Int)) (a0_1:Int) (l1:List (S64)) (l2:List (S68)) (a3_0:Int) (a3_1:Int) (a3_2:Int) (a4:Int):Option Bool:=(laws_szInstrument.f l0_0 a0_1 1048576).bind fun t5=>(if t5<0 then some true else((laws_szNoteS.f l1 t5).bind fun t8=>(if t8<0 then some true else((laws_szHoleS.f l2 t8).bind fun t11=>(if t11<0 then some true else((laws_toInstrument.f k l0_0 a0_1).bind fun qA14=>((laws_toNoteS.f k l1).bind fun t20=>((laws_toHoleS.f k l2).bind fun t24=>((laws_toAction.f a3_0 a3_1 a3_2).bind fun qA27=>((spec_FaultsOf.f k qA14.1 qA14.2 t20 t24 qA27.1 qA27.2.1 qA27.2.2 a4).bind fun qA32=>((laws_toInstrument.f k l0_0 a0_1).bind fun qA37=>((laws_toNoteS.f k l1).bind fun t45=>((laws_toHoleS.f k l2).bind fun t49=>((laws_toAction.f a3_0 a3_1 a3_2).bind fun qA53=>((impl_FaultsOf.f k qA37.1 qA37.2 t45 t49 qA53.1 qA53.2.1 qA53.2.2 a4).bind fun qA58=>((laws_eqIntSS.f k qA58.1 qA32.1).bind fun t64=>(if t64=true then(if qA58.2=qA32.2 then((laws_toInstrument.f k l0_0 a0_1).bind fun qA67=>((laws_eqInstrument.f k qA37.1 qA37.2 qA67.1 qA67.2).bind fun t73=>(if t73=true then((laws_toNoteS.f k l1).bind fun t76=>((laws_eqNoteS.f k t45 t76).bind fun t80=>(if t80=true then((laws_toHoleS.f k l2).bind fun t83=>((laws_eqHoleS.f k t49 t83).bind fun t87=>(if t87=true then((laws_markInstrument.f k qA37.1 qA37.2 1).bind fun qA89=>((laws_markNoteS.f k t45 qA89.1).bind fun qA94=>((laws_markHoleS.f k t49 qA94.1).bind fun qA99=>(if qA99.1<0 then none else((laws_eqIntSS.f k qA58.1 qA32.1).bind fun t105=>(if t105=true then((laws_markIntSS.f k qA58.1 1).bind fun qA107=>((laws_heldIntSS.f k qA107.2 1).bind fun t113=>(if t113<0 then none else(if t113=qA107.1 then((laws_toInstrument.f k l0_0 a0_1).bind fun qA116=>((laws_toNoteS.f k l1).bind fun t122=>((laws_toHoleS.f k l2).bind fun t126=>((laws_toAction.f a3_0 a3_1 a3_2).bind fun qA129=>((impl_FaultsOf.f k qA116.1 qA116.2 t122 t126 qA129.1 qA129.2.1 qA129.2.2 a4).bind fun qA134=>((laws_eqIntSS.f k qA134.1 qA32.1).bind fun t140=>(if t140=true then(if qA134.2=qA58.2 then((laws_heldIntSS.f k qA107.2 1).bind fun t143=>(if t143<0 then none else(if t143=t113 then(some true) else none))) else none) else none))))))) else none)))) else none)))))) else none))) else none))) else none))) else none) else none)))))))))))))))))
set_option maxHeartbeats 16000000 in
set_option maxRecDepth 100000 in
theorem laws_FnExactFaultsOf.calls (k:Nat) (A0_0:Option Addr) (c0_0:Nat) (l0_0:List (Int)) (a0_1:Int) (A1:Option Addr) (c1:Nat) (l1:List (S64)) (A2:Option Addr) (c2:Nat) (l2:List (S68)) (a3_0:Int) (a3_1:Int) (a3_2:Int) (a4:Int) (r:Bool) (w:World) (hr0_0:Kd.C (Kd.int .i64) w A0_0 l0_0.length l0_0) (hc0_0:l0_0.length≤c0_0) (hr1:Kd.C k64 w A1 l1.length l1) (hc1:l1.length≤c1) (hr2:Kd.C k68 w A2 l2.length l2) (hc2:l2.length≤c2) (h:laws_FnExactFaultsOf.f k l0_0 a0_1 l1 l2 a3_0 a3_1 a3_2 a4=some r) :
  Calls Try.prog 5 #[.agg #[.slice A0_0 l0_0.length c0_0,.int .i64 a0_1],.slice A1 l1.length c1,.slice A2 l2.length c2,.agg #[.int .i64 a3_0,.int .i64 a3_1,.int .i64 a3_2],.int .i64 a4] w fun e w'=>e = .returned (.bool r)∧Below w.heap.size w w':=by
 have hu24:=Try.underlying24
 have hu28:=Try.underlying28
 have hu34:=Try.underlying34
 have HR0_0:=am hr0_0
 have HC0_0:=am hc0_0
 clear hr0_0 hc0_0
 have HR1:=am hr1
 have HC1:=am hc1
 clear hr1 hc1
 have HR2:=am hr2
 have HC2:=am hc2
 clear hr2 hc2
 have HB:=am (Below.refl w.heap.size w)
 unfold laws_FnExactFaultsOf.f at h
 have H:=h
 clear h
 replace H:=Option.bind_eq_some_iff.mp H
 obtain⟨t5,A0_,H⟩:=H
 have A4:=am A0_
 clear A0_
 rcases itc H with⟨ct1,H⟩|⟨ct1,H⟩
 ·have cb1:decide (t5<0)=true:=decide_eq_true ct1
  clear ct1
  obtain rfl:=Option.some.inj H
  clear H
  go_enter Try.func5,Try.ntmps5
  go_wp2_with (first|((with_reducible refine gate_dst (N:=5) rfl ?_);refine box_event ?hg (N:=5) ?hd (cs := #[.slice A0_0 l0_0.length c0_0,.int .i64 a0_1]) (t:=24) ?hr ?_;(case hd=>rfl);(case hg=>rfl);(case hr=>first|(go_simp;done)|(go_simp;rfl));intro gb5 hg w1 hbox hb;have BK5:=am (hbox);have GP5:=am ((hg:gb5=w.heap.size));have GE5:=am ((by rw[hg];exact below_size HB.out:w.heap.size≤gb5));replace HB:=am (below_step HB.out hb);have HMw1:=am ((hb.size:w.heap.size≤w1.heap.size));have HG5:=am ((blk_lt hbox:gb5<w1.heap.size));clear hb hbox hg;have hczw1_0:=bc BK5.out 0;have hczw1_1:=bc BK5.out 1;have hfzw1_0:=blk_frozen BK5.out 0;have hfzw1_1:=blk_frozen BK5.out 1)|((with_reducible refine gate_dst (N:=8) rfl ?_);refine box_event ?hg (N:=8) ?hd (cs := #[.int .i64 a3_0,.int .i64 a3_1,.int .i64 a3_2]) (t:=28) ?hr ?_;(case hd=>rfl);(case hg=>rfl);(case hr=>first|(go_simp;done)|(go_simp;rfl));intro gb8 hg w2 hbox hb;replace BK5:=am (blk_below BK5.out hb);have BK8:=am (hbox);have GP8:=am ((hg:gb8=w1.heap.size));have GE8:=am ((by rw[hg];exact below_size HB.out:w.heap.size≤gb8));replace HB:=am (below_step HB.out hb);have HMw2:=am ((hb.size:w1.heap.size≤w2.heap.size));have HG8:=am ((blk_lt hbox:gb8<w2.heap.size));clear hb hbox hg;have hczw2_0:=bc BK5.out 0;have hczw2_1:=bc BK5.out 1;have hfzw2_0:=blk_frozen BK5.out 0;have hfzw2_1:=blk_frozen BK5.out 1;have hczw2_0:=bc BK8.out 0;have hczw2_1:=bc BK8.out 1;have hczw2_2:=bc BK8.out 2;have hfzw2_0:=blk_frozen BK8.out 0;have hfzw2_1:=blk_frozen BK8.out 1;have hfzw2_2:=blk_frozen BK8.out 2)|((with_reducible refine gate_callee (f:=6) rfl ?_);refine goesL_ (some 26) rfl rfl Try.func6 (by kernel_rfl) rfl #[.agg #[.slice A0_0 l0_0.length c0_0,.int .i64 a0_1],.int .i64 1048576] rfl (by(try simp only[List.map_toArray,List.map_cons,List.map_nil]);first|done|rfl) ?_;(with_reducible refine(laws_szInstrument.calls _ _ l0_0 a0_1 1048576 t5 _ ?side1 ?side2 A4.out).mono ?_);(case side1=>exact Kd.C_below HR0_0.out HB.out);(case side2=>exact HC0_0.out);rintro e w3 ⟨rfl,hb0_⟩;have hb:=hb0_;clear hb0_;refine⟨_,rfl,?_⟩;replace BK5:=am (blk_below BK5.out hb);replace BK8:=am (blk_below BK8.out hb);replace HB:=am (below_step HB.out hb);have HMw3:=am ((hb.size:w2.heap.size≤w3.heap.size));(try clear hb);have hczw3_0:=bc BK5.out 0;have hczw3_1:=bc BK5.out 1;have hfzw3_0:=blk_frozen BK5.out 0;have hfzw3_1:=blk_frozen BK5.out 1;have hczw3_0:=bc BK8.out 0;have hczw3_1:=bc BK8.out 1;have hczw3_2:=bc BK8.out 2;have hfzw3_0:=blk_frozen BK8.out 0;have hfzw3_1:=blk_frozen BK8.out 1;have hfzw3_2:=blk_frozen BK8.out 2))
  go_ret
  exact⟨rfl,HB.out⟩
 ·have cb1:decide (t5<0)=false:=decide_eq_false ct1
  clear ct1
  replace H:=Option.bind_eq_some_iff.mp H
  obtain⟨t8,A0_,H⟩:=H
  have A7:=am A0_
  clear A0_
  rcases itc H with⟨ct2,H⟩|⟨ct2,H⟩
  ·have cb2:decide (t8<0)=true:=decide_eq_true ct2
   clear ct2
   obtain rfl:=Option.some.inj H
   clear H
   go_enter Try.func5,Try.ntmps5
   go_wp2_with (first|((with_reducible refine gate_dst (N:=5) rfl ?_);refine box_event ?hg (N:=5) ?hd (cs := #[.slice A0_0 l0_0.length c0_0,.int .i64 a0_1]) (t:=24) ?hr ?_;(case hd=>rfl);(case hg=>rfl);(case hr=>first|(go_simp;done)|(go_simp;rfl));intro gb5 hg w1 hbox hb;have BK5:=am (hbox);have GP5:=am ((hg:gb5=w.heap.size));have GE5:=am ((by rw[hg];exact below_size HB.out:w.heap.size≤gb5));replace HB:=am (below_step HB.out hb);have HMw1:=am ((hb.size:w.heap.size≤w1.heap.size));have HG5:=am ((blk_lt hbox:gb5<w1.heap.size));clear hb hbox hg;have hczw1_0:=bc BK5.out 0;have hczw1_1:=bc BK5.out 1;have hfzw1_0:=blk_frozen BK5.out 0;have hfzw1_1:=blk_frozen BK5.out 1)|((with_reducible refine gate_dst (N:=8) rfl ?_);refine box_event ?hg (N:=8) ?hd (cs := #[.int .i64 a3_0,.int .i64 a3_1,.int .i64 a3_2]) (t:=28) ?hr ?_;(case hd=>rfl);(case hg=>rfl);(case hr=>first|(go_simp;done)|(go_simp;rfl));intro gb8 hg w2 hbox hb;replace BK5:=am (blk_below BK5.out hb);have BK8:=am (hbox);have GP8:=am ((hg:gb8=w1.heap.size));have GE8:=am ((by rw[hg];exact below_size HB.out:w.heap.size≤gb8));replace HB:=am (below_step HB.out hb);have HMw2:=am ((hb.size:w1.heap.size≤w2.heap.size));have HG8:=am ((blk_lt hbox:gb8<w2.heap.size));clear hb hbox hg;have hczw2_0:=bc BK5.out 0;have hczw2_1:=bc BK5.out 1;have hfzw2_0:=blk_frozen BK5.out 0;have hfzw2_1:=blk_frozen BK5.out 1;have hczw2_0:=bc BK8.out 0;have hczw2_1:=bc BK8.out 1;have hczw2_2:=bc BK8.out 2;have hfzw2_0:=blk_frozen BK8.out 0;have hfzw2_1:=blk_frozen BK8.out 1;have hfzw2_2:=blk_frozen BK8.out 2)|((with_reducible refine gate_callee (f:=6) rfl ?_);refine goesL_ (some 26) rfl rfl Try.func6 (by kernel_rfl) rfl #[.agg #[.slice A0_0 l0_0.length c0_0,.int .i64 a0_1],.int .i64 1048576] rfl (by(try simp only[List.map_toArray,List.map_cons,List.map_nil]);first|done|rfl) ?_;(with_reducible refine(laws_szInstrument.calls _ _ l0_0 a0_1 1048576 t5 _ ?side1 ?side2 A4.out).mono ?_);(case side1=>exact Kd.C_below HR0_0.out HB.out);(case side2=>exact HC0_0.out);rintro e w3 ⟨rfl,hb0_⟩;have hb:=hb0_;clear hb0_;refine⟨_,rfl,?_⟩;replace BK5:=am (blk_below BK5.out hb);replace BK8:=am (blk_below BK8.out hb);replace HB:=am (below_step HB.out hb);have HMw3:=am ((hb.size:w2.heap.size≤w3.heap.size));(try clear hb);have hczw3_0:=bc BK5.out 0;have hczw3_1:=bc BK5.out 1;have hfzw3_0:=blk_frozen BK5.out 0;have hfzw3_1:=blk_frozen BK5.out 1;have hczw3_0:=bc BK8.out 0;have hczw3_1:=bc BK8.out 1;have hczw3_2:=bc BK8.out 2;have hfzw3_0:=blk_frozen BK8.out 0;have hfzw3_1:=blk_frozen BK8.out 1;have hfzw3_2:=blk_frozen BK8.out 2)|((with_reducible refine gate_callee (f:=7) rfl ?_);refine goesL_ (some 31) rfl rfl Try.func7 (by kernel_rfl) rfl #[.slice A1 l1.length c1,.int .i64 t5] rfl (by(try simp only[List.map_toArray,List.map_cons,List.map_nil]);first|done|rfl) ?_;(with_reducible refine(laws_szNoteS.calls _ _ l1 t5 t8 _ ?side1 ?side2 A7.out).mono ?_);(case side1=>exact Kd.C_below HR1.out HB.out);(case side2=>exact HC1.out);rintro e w6 ⟨rfl,hb0_⟩;have hb:=hb0_.below;clear hb0_;refine⟨_,rfl,?_⟩;replace BK5:=am (blk_below BK5.out hb);replace BK8:=am (blk_below BK8.out hb);replace HB:=am (below_step HB.out hb);have HMw6:=am ((hb.size:w3.heap.size≤w6.heap.size));(try clear hb);have hczw6_0:=bc BK5.out 0;have hczw6_1:=bc BK5.out 1;have hfzw6_0:=blk_frozen BK5.out 0;have hfzw6_1:=blk_frozen BK5.out 1;have hczw6_0:=bc BK8.out 0;have hczw6_1:=bc BK8.out 1;have hczw6_2:=bc BK8.out 2;have hfzw6_0:=blk_frozen BK8.out 0;have hfzw6_1:=blk_frozen BK8.out 1;have hfzw6_2:=blk_frozen BK8.out 2))
   go_ret
   exact⟨rfl,HB.out⟩
  ·have cb2:decide (t8<0)=false:=decide_eq_false ct2
   clear ct2
   replace H:=Option.bind_eq_some_iff.mp H
   obtain⟨t11,A0_,H⟩:=H
   have A10:=am A0_
   clear A0_
   rcases itc H with⟨ct3,H⟩|⟨ct3,H⟩
   ·have cb3:decide (t11<0)=true:=decide_eq_true ct3
    clear ct3
    obtain rfl:=Option.some.inj H
    clear H
    go_enter Try.func5,Try.ntmps5
    go_wp2_with (first|((with_reducible refine gate_dst (N:=5) rfl ?_);refine box_event ?hg (N:=5) ?hd (cs := #[.slice A0_0 l0_0.length c0_0,.int .i64 a0_1]) (t:=24) ?hr ?_;(case hd=>rfl);(case hg=>rfl);(case hr=>first|(go_simp;done)|(go_simp;rfl));intro gb5 hg w1 hbox hb;have BK5:=am (hbox);have GP5:=am ((hg:gb5=w.heap.size));have GE5:=am ((by rw[hg];exact below_size HB.out:w.heap.size≤gb5));replace HB:=am (below_step HB.out hb);have HMw1:=am ((hb.size:w.heap.size≤w1.heap.size));have HG5:=am ((blk_lt hbox:gb5<w1.heap.size));clear hb hbox hg;have hczw1_0:=bc BK5.out 0;have hczw1_1:=bc BK5.out 1;have hfzw1_0:=blk_frozen BK5.out 0;have hfzw1_1:=blk_frozen BK5.out 1)|((with_reducible refine gate_dst (N:=8) rfl ?_);refine box_event ?hg (N:=8) ?hd (cs := #[.int .i64 a3_0,.int .i64 a3_1,.int .i64 a3_2]) (t:=28) ?hr ?_;(case hd=>rfl);(case hg=>rfl);(case hr=>first|(go_simp;done)|(go_simp;rfl));intro gb8 hg w2 hbox hb;replace BK5:=am (blk_below BK5.out hb);have BK8:=am (hbox);have GP8:=am ((hg:gb8=w1.heap.size));have GE8:=am ((by rw[hg];exact below_size HB.out:w.heap.size≤gb8));replace HB:=am (below_step HB.out hb);have HMw2:=am ((hb.size:w1.heap.size≤w2.heap.size));have HG8:=am ((blk_lt hbox:gb8<w2.heap.size));clear hb hbox hg;have hczw2_0:=bc BK5.out 0;have hczw2_1:=bc BK5.out 1;have hfzw2_0:=blk_frozen BK5.out 0;have hfzw2_1:=blk_frozen BK5.out 1;have hczw2_0:=bc BK8.out 0;have hczw2_1:=bc BK8.out 1;have hczw2_2:=bc BK8.out 2;have hfzw2_0:=blk_frozen BK8.out 0;have hfzw2_1:=blk_frozen BK8.out 1;have hfzw2_2:=blk_frozen BK8.out 2)|((with_reducible refine gate_callee (f:=6) rfl ?_);refine goesL_ (some 26) rfl rfl Try.func6 (by kernel_rfl) rfl #[.agg #[.slice A0_0 l0_0.length c0_0,.int .i64 a0_1],.int .i64 1048576] rfl (by(try simp only[List.map_toArray,List.map_cons,List.map_nil]);first|done|rfl) ?_;(with_reducible refine(laws_szInstrument.calls _ _ l0_0 a0_1 1048576 t5 _ ?side1 ?side2 A4.out).mono ?_);(case side1=>exact Kd.C_below HR0_0.out HB.out);(case side2=>exact HC0_0.out);rintro e w3 ⟨rfl,hb0_⟩;have hb:=hb0_;clear hb0_;refine⟨_,rfl,?_⟩;replace BK5:=am (blk_below BK5.out hb);replace BK8:=am (blk_below BK8.out hb);replace HB:=am (below_step HB.out hb);have HMw3:=am ((hb.size:w2.heap.size≤w3.heap.size));(try clear hb);have hczw3_0:=bc BK5.out 0;have hczw3_1:=bc BK5.out 1;have hfzw3_0:=blk_frozen BK5.out 0;have hfzw3_1:=blk_frozen BK5.out 1;have hczw3_0:=bc BK8.out 0;have hczw3_1:=bc BK8.out 1;have hczw3_2:=bc BK8.out 2;have hfzw3_0:=blk_frozen BK8.out 0;have hfzw3_1:=blk_frozen BK8.out 1;have hfzw3_2:=blk_frozen BK8.out 2)|((with_reducible refine gate_callee (f:=7) rfl ?_);refine goesL_ (some 31) rfl rfl Try.func7 (by kernel_rfl) rfl #[.slice A1 l1.length c1,.int .i64 t5] rfl (by(try simp only[List.map_toArray,List.map_cons,List.map_nil]);first|done|rfl) ?_;(with_reducible refine(laws_szNoteS.calls _ _ l1 t5 t8 _ ?side1 ?side2 A7.out).mono ?_);(case side1=>exact Kd.C_below HR1.out HB.out);(case side2=>exact HC1.out);rintro e w6 ⟨rfl,hb0_⟩;have hb:=hb0_.below;clear hb0_;refine⟨_,rfl,?_⟩;replace BK5:=am (blk_below BK5.out hb);replace BK8:=am (blk_below BK8.out hb);replace HB:=am (below_step HB.out hb);have HMw6:=am ((hb.size:w3.heap.size≤w6.heap.size));(try clear hb);have hczw6_0:=bc BK5.out 0;have hczw6_1:=bc BK5.out 1;have hfzw6_0:=blk_frozen BK5.out 0;have hfzw6_1:=blk_frozen BK5.out 1;have hczw6_0:=bc BK8.out 0;have hczw6_1:=bc BK8.out 1;have hczw6_2:=bc BK8.out 2;have hfzw6_0:=blk_frozen BK8.out 0;have hfzw6_1:=blk_frozen BK8.out 1;have hfzw6_2:=blk_frozen BK8.out 2)|((with_reducible refine gate_callee (f:=8) rfl ?_);refine goesL_ (some 36) rfl rfl Try.func8 (by kernel_rfl) rfl #[.slice A2 l2.length c2,.int .i64 t8] rfl (by(try simp only[List.map_toArray,List.map_cons,List.map_nil]);first|done|rfl) ?_;(with_reducible refine(laws_szHoleS.calls _ _ l2 t8 t11 _ ?side1 ?side2 A10.out).mono ?_);(case side1=>exact Kd.C_below HR2.out HB.out);(case side2=>exact HC2.out);rintro e w9 ⟨rfl,hb0_⟩;have hb:=hb0_.below;clear hb0_;refine⟨_,rfl,?_⟩;replace BK5:=am (blk_below BK5.out hb);replace BK8:=am (blk_below BK8.out hb);replace HB:=am (below_step HB.out hb);have HMw9:=am ((hb.size:w6.heap.size≤w9.heap.size));(try clear hb);have hczw9_0:=bc BK5.out 0;have hczw9_1:=bc BK5.out 1;have hfzw9_0:=blk_frozen BK5.out 0;have hfzw9_1:=blk_frozen BK5.out 1;have hczw9_0:=bc BK8.out 0;have hczw9_1:=bc BK8.out 1;have hczw9_2:=bc BK8.out 2;have hfzw9_0:=blk_frozen BK8.out 0;have hfzw9_1:=blk_frozen BK8.out 1;have hfzw9_2:=blk_frozen BK8.out 2))
    go_ret
    exact⟨rfl,HB.out⟩
   ·have cb3:decide (t11<0)=false:=decide_eq_false ct3
    clear ct3
    replace H:=Option.bind_eq_some_iff.mp H
    obtain⟨⟨t15,t16⟩,A0_,H⟩:=H
    have A14:=am A0_
    clear A0_
    dsimp only at H
    replace H:=Option.bind_eq_some_iff.mp H
    obtain⟨t20,A0_,H⟩:=H
    have A19:=am A0_
    clear A0_
    replace H:=Option.bind_eq_some_iff.mp H
    obtain⟨t24,A0_,H⟩:=H
    have A23:=am A0_
    clear A0_
    replace H:=Option.bind_eq_some_iff.mp H
    obtain⟨⟨t28,t29,t30⟩,A0_,H⟩:=H
    have A27:=am A0_
    clear A0_
    dsimp only at H
    replace H:=Option.bind_eq_some_iff.mp H
    obtain⟨⟨t33,t34⟩,A0_,H⟩:=H
    have A32:=am A0_
    clear A0_
    dsimp only at H
    replace H:=Option.bind_eq_some_iff.mp H
    obtain⟨⟨t38,t39⟩,A0_,H⟩:=H
    have A37:=am A0_
    clear A0_
    dsimp only at H
    replace H:=Option.bind_eq_some_iff.mp H
    obtain⟨t45,A0_,H⟩:=H
    have A44:=am A0_
    clear A0_
    replace H:=Option.bind_eq_some_iff.mp H
    obtain⟨t49,A0_,H⟩:=H
    have A48:=am A0_
    clear A0_
    replace H:=Option.bind_eq_some_iff.mp H
    obtain⟨⟨t54,t55,t56⟩,A0_,H⟩:=H
    have A53:=am A0_
    clear A0_
    dsimp only at H
    replace H:=Option.bind_eq_some_iff.mp H
    obtain⟨⟨t59,t60⟩,A0_,H⟩:=H
    have A58:=am A0_
    clear A0_
    dsimp only at H
    replace H:=Option.bind_eq_some_iff.mp H
    obtain⟨t64,A0_,H⟩:=H
    have A63:=am A0_
    clear A0_
    by_cases ct4:t64=true
    rotate_left
    ·rw[if_neg ct4] at H;cases H
    rw[if_pos ct4] at H
    subst ct4
    by_cases ct5:t60=t34
    rotate_left
    ·rw[if_neg ct5] at H;cases H
    rw[if_pos ct5] at H
    subst ct5
    replace H:=Option.bind_eq_some_iff.mp H
    obtain⟨⟨t68,t69⟩,A0_,H⟩:=H
    have A67:=am A0_
    clear A0_
    dsimp only at H
    replace H:=Option.bind_eq_some_iff.mp H
    obtain⟨t73,A0_,H⟩:=H
    have A72:=am A0_
    clear A0_
    by_cases ct6:t73=true
    rotate_left
    ·rw[if_neg ct6] at H;cases H
    rw[if_pos ct6] at H
    subst ct6
    replace H:=Option.bind_eq_some_iff.mp H
    obtain⟨t76,A0_,H⟩:=H
    have A75:=am A0_
    clear A0_
    replace H:=Option.bind_eq_some_iff.mp H
    obtain⟨t80,A0_,H⟩:=H
    have A79:=am A0_
    clear A0_
    by_cases ct7:t80=true
    rotate_left
    ·rw[if_neg ct7] at H;cases H
    rw[if_pos ct7] at H
    subst ct7
    replace H:=Option.bind_eq_some_iff.mp H
    obtain⟨t83,A0_,H⟩:=H
    have A82:=am A0_
    clear A0_
    replace H:=Option.bind_eq_some_iff.mp H
    obtain⟨t87,A0_,H⟩:=H
    have A86:=am A0_
    clear A0_
    by_cases ct8:t87=true
    rotate_left
    ·rw[if_neg ct8] at H;cases H
    rw[if_pos ct8] at H
    subst ct8
    replace H:=Option.bind_eq_some_iff.mp H
    obtain⟨⟨t90,t91⟩,A0_,H⟩:=H
    have A89:=am A0_
    clear A0_
    dsimp only at H
    replace H:=Option.bind_eq_some_iff.mp H
    obtain⟨⟨t95,t96⟩,A0_,H⟩:=H
    have A94:=am A0_
    clear A0_
    dsimp only at H
    replace H:=Option.bind_eq_some_iff.mp H
    obtain⟨⟨t100,t101⟩,A0_,H⟩:=H
    have A99:=am A0_
    clear A0_
    dsimp only at H
    by_cases ct9:t100<0
    ·rw[if_pos ct9] at H;cases H
    rw[if_neg ct9] at H
    have cb9:decide (t100<0)=false:=decide_eq_false ct9
    clear ct9
    replace H:=Option.bind_eq_some_iff.mp H
    obtain⟨t105,A0_,H⟩:=H
    have A104:=am A0_
    clear A0_
    by_cases ct10:t105=true
    rotate_left
    ·rw[if_neg ct10] at H;cases H
    rw[if_pos ct10] at H
    subst ct10
    replace H:=Option.bind_eq_some_iff.mp H
    obtain⟨⟨t108,t109⟩,A0_,H⟩:=H
    have A107:=am A0_
    clear A0_
    dsimp only at H
    replace H:=Option.bind_eq_some_iff.mp H
    obtain⟨t113,A0_,H⟩:=H
    have A112:=am A0_
    clear A0_
    by_cases ct11:t113<0
    ·rw[if_pos ct11] at H;cases H
    rw[if_neg ct11] at H
    have cb11:decide (t113<0)=false:=decide_eq_false ct11
    clear ct11
    by_cases ct12:t113=t108
    rotate_left
    ·rw[if_neg ct12] at H;cases H
    rw[if_pos ct12] at H
    subst ct12
    replace H:=Option.bind_eq_some_iff.mp H
    obtain⟨⟨t117,t118⟩,A0_,H⟩:=H
    have A116:=am A0_
    clear A0_
    dsimp only at H
    replace H:=Option.bind_eq_some_iff.mp H
    obtain⟨t122,A0_,H⟩:=H
    have A121:=am A0_
    clear A0_
    replace H:=Option.bind_eq_some_iff.mp H
    obtain⟨t126,A0_,H⟩:=H
    have A125:=am A0_
    clear A0_
    replace H:=Option.bind_eq_some_iff.mp H
    obtain⟨⟨t130,t131,t132⟩,A0_,H⟩:=H
    have A129:=am A0_
    clear A0_
    dsimp only at H
    replace H:=Option.bind_eq_some_iff.mp H
    obtain⟨⟨t135,t136⟩,A0_,H⟩:=H
    have A134:=am A0_
    clear A0_
    dsimp only at H
    replace H:=Option.bind_eq_some_iff.mp H
    obtain⟨t140,A0_,H⟩:=H
    have A139:=am A0_
    clear A0_
    by_cases ct13:t140=true
    rotate_left
    ·rw[if_neg ct13] at H;cases H
    rw[if_pos ct13] at H
    subst ct13
    by_cases ct14:t136=t60
    rotate_left
    ·rw[if_neg ct14] at H;cases H
    rw[if_pos ct14] at H
    subst ct14
    replace H:=Option.bind_eq_some_iff.mp H
    obtain⟨t143,A0_,H⟩:=H
    have A142:=am A0_
    clear A0_
    by_cases ct15:t143<0
    ·rw[if_pos ct15] at H;cases H
    rw[if_neg ct15] at H
    have cb15:decide (t143<0)=false:=decide_eq_false ct15
    clear ct15
    by_cases ct16:t143=t113
    rotate_left
    ·rw[if_neg ct16] at H;cases H
    rw[if_pos ct16] at H
    subst ct16
    obtain rfl:=Option.some.inj H
    clear H
    have hx0:(t136 != t136)=false:=by simp
    have hx1:decide (t143=t143)=true:=by simp
    have hx2:(t136 != t136)=false:=by simp
    have hx3:decide (t143=t143)=true:=by simp
    go_enter Try.func5,Try.ntmps5
    go_wp2_with (first|((with_reducible refine gate_dst (N:=5) rfl ?_);refine box_event ?hg (N:=5) ?hd (cs := #[.slice A0_0 l0_0.length c0_0,.int .i64 a0_1]) (t:=24) ?hr ?_;(case hd=>rfl);(case hg=>rfl);(case hr=>first|(go_simp;done)|(go_simp;rfl));intro gb5 hg w1 hbox hb;have BK5:=am (hbox);have GP5:=am ((hg:gb5=w.heap.size));have GE5:=am ((by rw[hg];exact below_size HB.out:w.heap.size≤gb5));replace HB:=am (below_step HB.out hb);have HMw1:=am ((hb.size:w.heap.size≤w1.heap.size));have HG5:=am ((blk_lt hbox:gb5<w1.heap.size));clear hb hbox hg;have hczw1_0:=bc BK5.out 0;have hczw1_1:=bc BK5.out 1;have hfzw1_0:=blk_frozen BK5.out 0;have hfzw1_1:=blk_frozen BK5.out 1)|((with_reducible refine gate_dst (N:=8) rfl ?_);refine box_event ?hg (N:=8) ?hd (cs := #[.int .i64 a3_0,.int .i64 a3_1,.int .i64 a3_2]) (t:=28) ?hr ?_;(case hd=>rfl);(case hg=>rfl);(case hr=>first|(go_simp;done)|(go_simp;rfl));intro gb8 hg w2 hbox hb;replace BK5:=am (blk_below BK5.out hb);have BK8:=am (hbox);have GP8:=am ((hg:gb8=w1.heap.size));have GE8:=am ((by rw[hg];exact below_size HB.out:w.heap.size≤gb8));replace HB:=am (below_step HB.out hb);have HMw2:=am ((hb.size:w1.heap.size≤w2.heap.size));have HG8:=am ((blk_lt hbox:gb8<w2.heap.size));clear hb hbox hg;have hczw2_0:=bc BK5.out 0;have hczw2_1:=bc BK5.out 1;have hfzw2_0:=blk_frozen BK5.out 0;have hfzw2_1:=blk_frozen BK5.out 1;have hczw2_0:=bc BK8.out 0;have hczw2_1:=bc BK8.out 1;have hczw2_2:=bc BK8.out 2;have hfzw2_0:=blk_frozen BK8.out 0;have hfzw2_1:=blk_frozen BK8.out 1;have hfzw2_2:=blk_frozen BK8.out 2)|((with_reducible refine gate_callee (f:=6) rfl ?_);refine goesL_ (some 26) rfl rfl Try.func6 (by kernel_rfl) rfl #[.agg #[.slice A0_0 l0_0.length c0_0,.int .i64 a0_1],.int .i64 1048576] rfl (by(try simp only[List.map_toArray,List.map_cons,List.map_nil]);first|done|rfl) ?_;(with_reducible refine(laws_szInstrument.calls _ _ l0_0 a0_1 1048576 t5 _ ?side1 ?side2 A4.out).mono ?_);(case side1=>exact Kd.C_below HR0_0.out HB.out);(case side2=>exact HC0_0.out);rintro e w3 ⟨rfl,hb0_⟩;have hb:=hb0_;clear hb0_;refine⟨_,rfl,?_⟩;replace BK5:=am (blk_below BK5.out hb);replace BK8:=am (blk_below BK8.out hb);replace HB:=am (below_step HB.out hb);have HMw3:=am ((hb.size:w2.heap.size≤w3.heap.size));(try clear hb);have hczw3_0:=bc BK5.out 0;have hczw3_1:=bc BK5.out 1;have hfzw3_0:=blk_frozen BK5.out 0;have hfzw3_1:=blk_frozen BK5.out 1;have hczw3_0:=bc BK8.out 0;have hczw3_1:=bc BK8.out 1;have hczw3_2:=bc BK8.out 2;have hfzw3_0:=blk_frozen BK8.out 0;have hfzw3_1:=blk_frozen BK8.out 1;have hfzw3_2:=blk_frozen BK8.out 2)|((with_reducible refine gate_callee (f:=7) rfl ?_);refine goesL_ (some 31) rfl rfl Try.func7 (by kernel_rfl) rfl #[.slice A1 l1.length c1,.int .i64 t5] rfl (by(try simp only[List.map_toArray,List.map_cons,List.map_nil]);first|done|rfl) ?_;(with_reducible refine(laws_szNoteS.calls _ _ l1 t5 t8 _ ?side1 ?side2 A7.out).mono ?_);(case side1=>exact Kd.C_below HR1.out HB.out);(case side2=>exact HC1.out);rintro e w6 ⟨rfl,hb0_⟩;have hb:=hb0_.below;clear hb0_;refine⟨_,rfl,?_⟩;replace BK5:=am (blk_below BK5.out hb);replace BK8:=am (blk_below BK8.out hb);replace HB:=am (below_step HB.out hb);have HMw6:=am ((hb.size:w3.heap.size≤w6.heap.size));(try clear hb);have hczw6_0:=bc BK5.out 0;have hczw6_1:=bc BK5.out 1;have hfzw6_0:=blk_frozen BK5.out 0;have hfzw6_1:=blk_frozen BK5.out 1;have hczw6_0:=bc BK8.out 0;have hczw6_1:=bc BK8.out 1;have hczw6_2:=bc BK8.out 2;have hfzw6_0:=blk_frozen BK8.out 0;have hfzw6_1:=blk_frozen BK8.out 1;have hfzw6_2:=blk_frozen BK8.out 2)|((with_reducible refine gate_callee (f:=8) rfl ?_);refine goesL_ (some 36) rfl rfl Try.func8 (by kernel_rfl) rfl #[.slice A2 l2.length c2,.int .i64 t8] rfl (by(try simp only[List.map_toArray,List.map_cons,List.map_nil]);first|done|rfl) ?_;(with_reducible refine(laws_szHoleS.calls _ _ l2 t8 t11 _ ?side1 ?side2 A10.out).mono ?_);(case side1=>exact Kd.C_below HR2.out HB.out);(case side2=>exact HC2.out);rintro e w9 ⟨rfl,hb0_⟩;have hb:=hb0_.below;clear hb0_;refine⟨_,rfl,?_⟩;replace BK5:=am (blk_below BK5.out hb);replace BK8:=am (blk_below BK8.out hb);replace HB:=am (below_step HB.out hb);have HMw9:=am ((hb.size:w6.heap.size≤w9.heap.size));(try clear hb);have hczw9_0:=bc BK5.out 0;have hczw9_1:=bc BK5.out 1;have hfzw9_0:=blk_frozen BK5.out 0;have hfzw9_1:=blk_frozen BK5.out 1;have hczw9_0:=bc BK8.out 0;have hczw9_1:=bc BK8.out 1;have hczw9_2:=bc BK8.out 2;have hfzw9_0:=blk_frozen BK8.out 0;have hfzw9_1:=blk_frozen BK8.out 1;have hfzw9_2:=blk_frozen BK8.out 2))
    try go_wp2
    have hbd_:Below w9.heap.size w9 w9.drew:=below_drew1 (Below.refl _ _)
    replace BK5:=am (blk_below BK5.out hbd_)
    replace BK8:=am (blk_below BK8.out hbd_)
    replace HB:=am (below_step HB.out hbd_)
    refine start_ (n:=15) (S:=fun w'=>w'.cell? ⟨gb5,0,none⟩=some (.slice A0_0 l0_0.length c0_0)∧w'.cell? ⟨gb5,1,none⟩=some (.int .i64 a0_1)∧w'.cell? ⟨gb8,0,none⟩=some (.int .i64 a3_0)∧w'.cell? ⟨gb8,1,none⟩=some (.int .i64 a3_1)∧w'.cell? ⟨gb8,2,none⟩=some (.int .i64 a3_2)) (ds:=[]) (fl 0 15) (by kernel_rfl) rfl rfl ⟨bc BK5.out 0,bc BK5.out 1,bc BK8.out 0,bc BK8.out 1,bc BK8.out 2⟩ (fun hHeld=>?_)
    have HMw12:Aside0 (w9.heap.size≤w9.drew.heap.size):=⟨Nat.le_refl _⟩
    clear hbd_
    generalize w9.drew=w12 at BK5 BK8 HB HMw12 hHeld ⊢
    refine pk 2 (some 42) #[false,false,true,false,false,false,false,false,false,false,false,false,false,false,false] (h:=?_)
    refine pk 4 (some 44) #[false,false,true,false,true,false,false,false,false,false,false,false,false,false,false] (h:=?_)
    refine pk 8 (some 48) #[false,false,true,false,true,false,false,false,true,false,false,false,false,false,false] (h:=?_)
    refine tk 0 (some 40) #[true,false,true,false,true,false,false,false,true,false,false,false,false,false,false] hHeld rfl (by rintro w' ⟨s0,s1,s2,s3,s4⟩;go_simp;with_reducible rfl) (h:=?_)
    refine tk 6 (some 46) #[true,false,true,false,true,false,true,false,true,false,false,false,false,false,false] hHeld rfl (by rintro w' ⟨s0,s1,s2,s3,s4⟩;go_simp;with_reducible rfl) (h:=?_)
    refine one_ (i:=1) (N:=some 41) #[true,true,true,false,true,false,true,false,true,false,false,false,false,false,false] rfl rfl (by kernel_rfl) (by decide) (fun K hK=>?_)
    refine goes_ Try.func10 (by kernel_rfl) rfl #[.agg #[.slice A0_0 l0_0.length c0_0,.int .i64 a0_1]] (by rfl) rfl rfl (by(try simp only[List.map_toArray,List.map_cons,List.map_nil]);first|done|rfl) ?_
    (with_reducible refine(laws_toInstrument.calls k _ _ l0_0 a0_1 t15 t16 _ ?side1 ?side2 A14.out).mono ?_)
    (case side1=>exact Kd.C_below HR0_0.out HB.out)
    (case side2=>exact HC0_0.out)
    rintro e w13 ⟨vw13_0,rfl,ho0,hb⟩
    obtain⟨AR17,cR17,eo_⟩:=Kd.R_slice ho0
    subst eo_
    refine⟨_,rfl,?_⟩
    replace BK5:=am (blk_below BK5.out hb)
    replace BK8:=am (blk_below BK8.out hb)
    have HOR17:=am (Kd.R_lower (Kd.R_mono (ok':=fun k_=>w12.heap.size≤k_∧k_<w13.heap.size) (Kd.R_bound ho0) (fun k_ hk_=>⟨hk_.2.1,hk_.2.2.1⟩)) (below_size HB.out))
    have HMw13:=am ((hb.size:w12.heap.size≤w13.heap.size))
    replace HB:=am (below_step HB.out hb)
    (try clear hb)
    (try clear ho0)
    have hczw13_0:=bc BK5.out 0
    have hczw13_1:=bc BK5.out 1
    have hfzw13_0:=blk_frozen BK5.out 0
    have hfzw13_1:=blk_frozen BK5.out 1
    have hczw13_0:=bc BK8.out 0
    have hczw13_1:=bc BK8.out 1
    have hczw13_2:=bc BK8.out 2
    have hfzw13_0:=blk_frozen BK8.out 0
    have hfzw13_1:=blk_frozen BK8.out 1
    have hfzw13_2:=blk_frozen BK8.out 2
    refine hK.out _ _ ⟨bc BK5.out 0,bc BK5.out 1,bc BK8.out 0,bc BK8.out 1,bc BK8.out 2⟩ (fun hHeld=>?_)
    clear hK K
    refine norm_ (a':=?_) ?_ ?_
    rotate_left
    (show Act.put _ (some 41) _=_;simp only[Act.put,List.setIfInBounds_toArray,List.set_cons_zero,List.set_cons_succ,i64_w,i32_w];rfl)
    refine one_ (i:=3) (N:=some 43) #[true,true,true,true,true,false,true,false,true,false,false,false,false,false,false] rfl rfl (by kernel_rfl) (by decide) (fun K hK=>?_)
    refine goes_ Try.func11 (by kernel_rfl) rfl #[.slice A1 l1.length c1] (by rfl) rfl rfl (by(try simp only[List.map_toArray,List.map_cons,List.map_nil]);first|done|rfl) ?_
    (with_reducible refine(laws_toNoteS.calls k _ _ l1 t20 _ ?side1 ?side2 A19.out).mono ?_)
    (case side1=>exact Kd.C_below HR1.out HB.out)
    (case side2=>exact HC1.out)
    rintro e w18 ⟨vw18_0,rfl,ho0,hb⟩
    obtain⟨AR21,cR21,eo_⟩:=Kd.R_slice ho0
    subst eo_
    refine⟨_,rfl,?_⟩
    replace HOR17:=am (Kd.R_below HOR17.out hb)
    replace BK5:=am (blk_below BK5.out hb)
    replace BK8:=am (blk_below BK8.out hb)
    have HOR21:=am (Kd.R_lower (Kd.R_mono (ok':=fun k_=>w13.heap.size≤k_∧k_<w18.heap.size) (Kd.R_bound ho0) (fun k_ hk_=>⟨hk_.2.1,hk_.2.2.1⟩)) (below_size HB.out))
    have HMw18:=am ((hb.size:w13.heap.size≤w18.heap.size))
    replace HB:=am (below_step HB.out hb)
    (try clear hb)
    (try clear ho0)
    have hczw18_0:=bc BK5.out 0
    have hczw18_1:=bc BK5.out 1
    have hfzw18_0:=blk_frozen BK5.out 0
    have hfzw18_1:=blk_frozen BK5.out 1
    have hczw18_0:=bc BK8.out 0
    have hczw18_1:=bc BK8.out 1
    have hczw18_2:=bc BK8.out 2
    have hfzw18_0:=blk_frozen BK8.out 0
    have hfzw18_1:=blk_frozen BK8.out 1
    have hfzw18_2:=blk_frozen BK8.out 2
    refine hK.out _ _ ⟨bc BK5.out 0,bc BK5.out 1,bc BK8.out 0,bc BK8.out 1,bc BK8.out 2⟩ (fun hHeld=>?_)
    clear hK K
    refine norm_ (a':=?_) ?_ ?_
    rotate_left
    (show Act.put _ (some 43) _=_;simp only[Act.put,List.setIfInBounds_toArray,List.set_cons_zero,List.set_cons_succ,i64_w,i32_w];rfl)
    refine one_ (i:=5) (N:=some 45) #[true,true,true,true,true,true,true,false,true,false,false,false,false,false,false] rfl rfl (by kernel_rfl) (by decide) (fun K hK=>?_)
    refine goes_ Try.func12 (by kernel_rfl) rfl #[.slice A2 l2.length c2] (by rfl) rfl rfl (by(try simp only[List.map_toArray,List.map_cons,List.map_nil]);first|done|rfl) ?_
    (with_reducible refine(laws_toHoleS.calls k _ _ l2 t24 _ ?side1 ?side2 A23.out).mono ?_)
    (case side1=>exact Kd.C_below HR2.out HB.out)
    (case side2=>exact HC2.out)
    rintro e w22 ⟨vw22_0,rfl,ho0,hb⟩
    obtain⟨AR25,cR25,eo_⟩:=Kd.R_slice ho0
    subst eo_
    refine⟨_,rfl,?_⟩
    replace HOR17:=am (Kd.R_below HOR17.out hb)
    replace HOR21:=am (Kd.R_below HOR21.out hb)
    replace BK5:=am (blk_below BK5.out hb)
    replace BK8:=am (blk_below BK8.out hb)
    have HOR25:=am (Kd.R_lower (Kd.R_mono (ok':=fun k_=>w18.heap.size≤k_∧k_<w22.heap.size) (Kd.R_bound ho0) (fun k_ hk_=>⟨hk_.2.1,hk_.2.2.1⟩)) (below_size HB.out))
    have HMw22:=am ((hb.size:w18.heap.size≤w22.heap.size))
    replace HB:=am (below_step HB.out hb)
    (try clear hb)
    (try clear ho0)
    have hczw22_0:=bc BK5.out 0
    have hczw22_1:=bc BK5.out 1
    have hfzw22_0:=blk_frozen BK5.out 0
    have hfzw22_1:=blk_frozen BK5.out 1
    have hczw22_0:=bc BK8.out 0
    have hczw22_1:=bc BK8.out 1
    have hczw22_2:=bc BK8.out 2
    have hfzw22_0:=blk_frozen BK8.out 0
    have hfzw22_1:=blk_frozen BK8.out 1
    have hfzw22_2:=blk_frozen BK8.out 2
    refine hK.out _ _ ⟨bc BK5.out 0,bc BK5.out 1,bc BK8.out 0,bc BK8.out 1,bc BK8.out 2⟩ (fun hHeld=>?_)
    clear hK K
    refine norm_ (a':=?_) ?_ ?_
    rotate_left
    (show Act.put _ (some 45) _=_;simp only[Act.put,List.setIfInBounds_toArray,List.set_cons_zero,List.set_cons_succ,i64_w,i32_w];rfl)
    refine one_ (i:=7) (N:=some 47) (fl 9 15) rfl rfl (by kernel_rfl) (by decide) (fun K hK=>?_)
    refine goes_ Try.func13 (by kernel_rfl) rfl #[.agg #[.int .i64 a3_0,.int .i64 a3_1,.int .i64 a3_2]] (by rfl) rfl rfl (by(try simp only[List.map_toArray,List.map_cons,List.map_nil]);first|done|rfl) ?_
    (with_reducible refine(laws_toAction.calls a3_0 a3_1 a3_2 t28 t29 t30 _ A27.out).mono ?_)
    rintro e w26 ⟨rfl,hb0_⟩
    have hb:=hb0_
    clear hb0_
    refine⟨_,rfl,?_⟩
    replace HOR17:=am (Kd.R_below HOR17.out hb)
    replace HOR21:=am (Kd.R_below HOR21.out hb)
    replace HOR25:=am (Kd.R_below HOR25.out hb)
    replace BK5:=am (blk_below BK5.out hb)
    replace BK8:=am (blk_below BK8.out hb)
    replace HB:=am (below_step HB.out hb)
    have HMw26:=am ((hb.size:w22.heap.size≤w26.heap.size))
    (try clear hb)
    have hczw26_0:=bc BK5.out 0
    have hczw26_1:=bc BK5.out 1
    have hfzw26_0:=blk_frozen BK5.out 0
    have hfzw26_1:=blk_frozen BK5.out 1
    have hczw26_0:=bc BK8.out 0
    have hczw26_1:=bc BK8.out 1
    have hczw26_2:=bc BK8.out 2
    have hfzw26_0:=blk_frozen BK8.out 0
    have hfzw26_1:=blk_frozen BK8.out 1
    have hfzw26_2:=blk_frozen BK8.out 2
    refine hK.out _ _ ⟨bc BK5.out 0,bc BK5.out 1,bc BK8.out 0,bc BK8.out 1,bc BK8.out 2⟩ (fun hHeld=>?_)
    clear hK K
    refine norm_ (a':=?_) ?_ ?_
    rotate_left
    (show Act.put _ (some 47) _=_;simp only[Act.put,List.setIfInBounds_toArray,List.set_cons_zero,List.set_cons_succ,i64_w,i32_w];rfl)
    refine one_ (i:=9) (N:=some 49) (fl 10 15) rfl rfl (by kernel_rfl) (by decide) (fun K hK=>?_)
    refine goes_ Try.func20 (by kernel_rfl) rfl #[.agg #[.slice AR17 t15.length cR17,.int .i64 t16],.slice AR21 t20.length cR21,.slice AR25 t24.length cR25,.agg #[.int .i64 t28,.int .i64 t29,.int .i64 t30],.int .i64 a4] (by rfl) rfl rfl (by(try simp only[List.map_toArray,List.map_cons,List.map_nil]);first|done|rfl) ?_
    (with_reducible refine(spec_FaultsOf.calls k _ _ t15 t16 _ _ t20 _ _ t24 t28 t29 t30 a4 t33 t136 _ ?side1 ?side2 ?side3 ?side4 ?side5 ?side6 A32.out).mono ?_)
    (case side1=>exact(Kd.R_reads' HOR17.out).2.2)
    (case side2=>(have e_:=Kd.R_reads' HOR17.out;rw[← e_.1];exact e_.2.1))
    (case side3=>exact(Kd.R_reads' HOR21.out).2.2)
    (case side4=>(have e_:=Kd.R_reads' HOR21.out;rw[← e_.1];exact e_.2.1))
    (case side5=>exact(Kd.R_reads' HOR25.out).2.2)
    (case side6=>(have e_:=Kd.R_reads' HOR25.out;rw[← e_.1];exact e_.2.1))
    rintro e w31 ⟨vw31_0,rfl,ho0,hb⟩
    obtain⟨AR35,cR35,eo_⟩:=Kd.S_slice ho0
    subst eo_
    refine⟨_,rfl,?_⟩
    replace HOR17:=am (Kd.R_below HOR17.out hb)
    replace HOR21:=am (Kd.R_below HOR21.out hb)
    replace HOR25:=am (Kd.R_below HOR25.out hb)
    replace BK5:=am (blk_below BK5.out hb)
    replace BK8:=am (blk_below BK8.out hb)
    have HOR35:=am (Kd.S_lower (Kd.S_mono (ok':=fun k_=>w26.heap.size≤k_∧k_<w31.heap.size) (Kd.S_bound ho0) (fun k_ hk_=>⟨hk_.2.1,hk_.2.2.1⟩)) (below_size HB.out))
    have HMw31:=am ((hb.size:w26.heap.size≤w31.heap.size))
    replace HB:=am (below_step HB.out hb)
    (try clear hb)
    (try clear ho0)
    have hczw31_0:=bc BK5.out 0
    have hczw31_1:=bc BK5.out 1
    have hfzw31_0:=blk_frozen BK5.out 0
    have hfzw31_1:=blk_frozen BK5.out 1
    have hczw31_0:=bc BK8.out 0
    have hczw31_1:=bc BK8.out 1
    have hczw31_2:=bc BK8.out 2
    have hfzw31_0:=blk_frozen BK8.out 0
    have hfzw31_1:=blk_frozen BK8.out 1
    have hfzw31_2:=blk_frozen BK8.out 2
    refine hK.out _ _ ⟨bc BK5.out 0,bc BK5.out 1,bc BK8.out 0,bc BK8.out 1,bc BK8.out 2⟩ (fun hHeld=>?_)
    clear hK K
    refine norm_ (a':=?_) ?_ ?_
    rotate_left
    (show Act.put _ (some 49) _=_;simp only[Act.put,List.setIfInBounds_toArray,List.set_cons_zero,List.set_cons_succ,i64_w,i32_w];rfl)
    refine pk 10 (some 39) (fl 11 15) (h:=?_)
    refine pk 11 (some 50) (fl 12 15) (h:=?_)
    refine pk 12 (some 51) (fl 13 15) (h:=?_)
    refine pk 13 (some 12) (fl 14 15) (h:=?_)
    refine pk 14 (some 13) (fl 15 15) (h:=?_)
    refine done_ (by kernel_rfl) ?_
    go_wp2_with (first|((with_reducible refine gate_callee (f:=10) rfl ?_);refine goesL_ (some 53) rfl rfl Try.func10 (by kernel_rfl) rfl #[.agg #[.slice A0_0 l0_0.length c0_0,.int .i64 a0_1]] rfl (by(try simp only[List.map_toArray,List.map_cons,List.map_nil]);first|done|rfl) ?_;(with_reducible refine(laws_toInstrument.calls k _ _ l0_0 a0_1 t38 t39 _ ?side1 ?side2 A37.out).mono ?_);(case side1=>exact Kd.C_below HR0_0.out HB.out);(case side2=>exact HC0_0.out);rintro e w36 ⟨vw36_0,rfl,ho0,hb⟩;obtain⟨AR40,cR40,eo_⟩:=Kd.R_slice ho0;subst eo_;refine⟨_,rfl,?_⟩;replace HOR17:=am (Kd.R_below HOR17.out hb);replace HOR21:=am (Kd.R_below HOR21.out hb);replace HOR25:=am (Kd.R_below HOR25.out hb);replace HOR35:=am (Kd.S_below HOR35.out hb);replace BK5:=am (blk_below BK5.out hb);replace BK8:=am (blk_below BK8.out hb);have HOR40:=am (Kd.R_lower (Kd.R_mono (ok':=fun k_=>w31.heap.size≤k_∧k_<w36.heap.size) (Kd.R_bound ho0) (fun k_ hk_=>⟨hk_.2.1,hk_.2.2.1⟩)) (below_size HB.out));have HMw36:=am ((hb.size:w31.heap.size≤w36.heap.size));replace HB:=am (below_step HB.out hb);(try clear hb);(try clear ho0);have hczw36_0:=bc BK5.out 0;have hczw36_1:=bc BK5.out 1;have hfzw36_0:=blk_frozen BK5.out 0;have hfzw36_1:=blk_frozen BK5.out 1;have hczw36_0:=bc BK8.out 0;have hczw36_1:=bc BK8.out 1;have hczw36_2:=bc BK8.out 2;have hfzw36_0:=blk_frozen BK8.out 0;have hfzw36_1:=blk_frozen BK8.out 1;have hfzw36_2:=blk_frozen BK8.out 2)|((with_reducible refine gate_dst (N:=14) rfl ?_);refine box_event ?hg (N:=14) ?hd (cs := #[.slice none 0 0,.int .i64 0]) (t:=34) ?hr ?_;(case hd=>rfl);(case hg=>rfl);(case hr=>first|(go_simp;done)|(go_simp;rfl));intro gb14 hg w41 hbox hb;replace HOR17:=am (Kd.R_below HOR17.out hb);replace HOR21:=am (Kd.R_below HOR21.out hb);replace HOR25:=am (Kd.R_below HOR25.out hb);replace HOR35:=am (Kd.S_below HOR35.out hb);replace HOR40:=am (Kd.R_below HOR40.out hb);replace BK5:=am (blk_below BK5.out hb);replace BK8:=am (blk_below BK8.out hb);have BK14:=am (hbox);have GP14:=am ((hg:gb14=w36.heap.size));have GE14:=am ((by rw[hg];exact below_size HB.out:w.heap.size≤gb14));replace HB:=am (below_step HB.out hb);have HMw41:=am ((hb.size:w36.heap.size≤w41.heap.size));have HG14:=am ((blk_lt hbox:gb14<w41.heap.size));clear hb hbox hg;have hczw41_0:=bc BK5.out 0;have hczw41_1:=bc BK5.out 1;have hfzw41_0:=blk_frozen BK5.out 0;have hfzw41_1:=blk_frozen BK5.out 1;have hczw41_0:=bc BK8.out 0;have hczw41_1:=bc BK8.out 1;have hczw41_2:=bc BK8.out 2;have hfzw41_0:=blk_frozen BK8.out 0;have hfzw41_1:=blk_frozen BK8.out 1;have hfzw41_2:=blk_frozen BK8.out 2;have hczw41_0:=bc BK14.out 0;have hczw41_1:=bc BK14.out 1;have hfzw41_0:=blk_frozen BK14.out 0;have hfzw41_1:=blk_frozen BK14.out 1)|((with_reducible refine gate_callee (f:=11) rfl ?_);generalize hw:(World.setCell (World.setCell w41 ⟨gb14,0,none⟩ (.slice AR40 t38.length cR40)) ⟨gb14,1,none⟩ (.int .i64 t39))=w42;replace hw:=hw.symm;have hkp:Kept w41 w42 (fun k_=>k_=gb14):=(by rw[hw];exact Kept.setCell (Kept.setCell (Kept.refl w41 (fun k_=>k_=gb14)) (p:=⟨gb14,0,none⟩) (.inl rfl) (.slice AR40 t38.length cR40)) (p:=⟨gb14,1,none⟩) (.inl rfl) (.int .i64 t39));have m0_:=HMw1.out;have m1_:=HG5.out;have m2_:=HMw2.out;have m3_:=HG8.out;have m4_:=HMw3.out;have m5_:=HMw6.out;have m6_:=HMw9.out;have m7_:=HMw12.out;have m8_:=HMw13.out;have m9_:=HMw18.out;have m10_:=HMw22.out;have m11_:=HMw26.out;have m12_:=HMw31.out;have m13_:=HMw36.out;have m14_:=HMw41.out;have m15_:=HG14.out;replace HOR17:=am (Kd.R_kept HOR17.out hkp (fun k_ hz_ hs_=>by obtain⟨hz1_,hz2_⟩:=hz_;have hs3_:k_=gb14:=hs_;have:=GP14.out;omega));replace HOR21:=am (Kd.R_kept HOR21.out hkp (fun k_ hz_ hs_=>by obtain⟨hz1_,hz2_⟩:=hz_;have hs3_:k_=gb14:=hs_;have:=GP14.out;omega));replace HOR25:=am (Kd.R_kept HOR25.out hkp (fun k_ hz_ hs_=>by obtain⟨hz1_,hz2_⟩:=hz_;have hs3_:k_=gb14:=hs_;have:=GP14.out;omega));replace HOR35:=am (Kd.S_kept HOR35.out hkp (fun k_ hz_ hs_=>by obtain⟨hz1_,hz2_⟩:=hz_;have hs3_:k_=gb14:=hs_;have:=GP14.out;omega));replace HOR40:=am (Kd.R_kept HOR40.out hkp (fun k_ hz_ hs_=>by obtain⟨hz1_,hz2_⟩:=hz_;have hs3_:k_=gb14:=hs_;have:=GP14.out;omega));replace BK5:=am (blk_kept BK5.out hkp (fun hs_=>by have:=GP5.out;have hs3_:=hs_;have:=GP14.out;omega));replace BK8:=am (blk_kept BK8.out hkp (fun hs_=>by have:=GP8.out;have hs3_:=hs_;have:=GP14.out;omega));replace BK14:=am ((by rw[hw];exact blk_put (cs := #[.slice AR40 t38.length cR40,.int .i64 0]) (blk_put (cs := #[.slice none 0 0,.int .i64 0]) (BK14.out) 0 (.slice AR40 t38.length cR40) rfl) 1 (.int .i64 t39) rfl:w42.heap[gb14]?=some (.cells #[.slice AR40 t38.length cR40,.int .i64 t39] 34 (0,0))));replace HB:=am ((by rw[hw];exact below_set (below_set (HB.out) GE14.out) GE14.out:Below w.heap.size w w42));have HMw42:=am ((hkp.1:w41.heap.size≤w42.heap.size));clear m0_ m1_ m2_ m3_ m4_ m5_ m6_ m7_ m8_ m9_ m10_ m11_ m12_ m13_ m14_ m15_ hkp hw;have hczw42_0:=bc BK5.out 0;have hczw42_1:=bc BK5.out 1;have hfzw42_0:=blk_frozen BK5.out 0;have hfzw42_1:=blk_frozen BK5.out 1;have hczw42_0:=bc BK8.out 0;have hczw42_1:=bc BK8.out 1;have hczw42_2:=bc BK8.out 2;have hfzw42_0:=blk_frozen BK8.out 0;have hfzw42_1:=blk_frozen BK8.out 1;have hfzw42_2:=blk_frozen BK8.out 2;have hczw42_0:=bc BK14.out 0;have hczw42_1:=bc BK14.out 1;have hfzw42_0:=blk_frozen BK14.out 0;have hfzw42_1:=blk_frozen BK14.out 1;refine goesL_ (some 55) rfl rfl Try.func11 (by kernel_rfl) rfl #[.slice A1 l1.length c1] rfl (by(try simp only[List.map_toArray,List.map_cons,List.map_nil]);first|done|rfl) ?_;(with_reducible refine(laws_toNoteS.calls k _ _ l1 t45 _ ?side1 ?side2 A44.out).mono ?_);(case side1=>exact Kd.C_below HR1.out HB.out);(case side2=>exact HC1.out);rintro e w43 ⟨vw43_0,rfl,ho0,hb⟩;obtain⟨AR46,cR46,eo_⟩:=Kd.R_slice ho0;subst eo_;refine⟨_,rfl,?_⟩;replace HOR17:=am (Kd.R_below HOR17.out hb);replace HOR21:=am (Kd.R_below HOR21.out hb);replace HOR25:=am (Kd.R_below HOR25.out hb);replace HOR35:=am (Kd.S_below HOR35.out hb);replace HOR40:=am (Kd.R_below HOR40.out hb);replace BK5:=am (blk_below BK5.out hb);replace BK8:=am (blk_below BK8.out hb);replace BK14:=am (blk_below BK14.out hb);have HOR46:=am (Kd.R_lower (Kd.R_mono (ok':=fun k_=>w42.heap.size≤k_∧k_<w43.heap.size) (Kd.R_bound ho0) (fun k_ hk_=>⟨hk_.2.1,hk_.2.2.1⟩)) (below_size HB.out));have HMw43:=am ((hb.size:w42.heap.size≤w43.heap.size));replace HB:=am (below_step HB.out hb);(try clear hb);(try clear ho0);have hczw43_0:=bc BK5.out 0;have hczw43_1:=bc BK5.out 1;have hfzw43_0:=blk_frozen BK5.out 0;have hfzw43_1:=blk_frozen BK5.out 1;have hczw43_0:=bc BK8.out 0;have hczw43_1:=bc BK8.out 1;have hczw43_2:=bc BK8.out 2;have hfzw43_0:=blk_frozen BK8.out 0;have hfzw43_1:=blk_frozen BK8.out 1;have hfzw43_2:=blk_frozen BK8.out 2;have hczw43_0:=bc BK14.out 0;have hczw43_1:=bc BK14.out 1;have hfzw43_0:=blk_frozen BK14.out 0;have hfzw43_1:=blk_frozen BK14.out 1)|((with_reducible refine gate_callee (f:=12) rfl ?_);refine goesL_ (some 57) rfl rfl Try.func12 (by kernel_rfl) rfl #[.slice A2 l2.length c2] rfl (by(try simp only[List.map_toArray,List.map_cons,List.map_nil]);first|done|rfl) ?_;(with_reducible refine(laws_toHoleS.calls k _ _ l2 t49 _ ?side1 ?side2 A48.out).mono ?_);(case side1=>exact Kd.C_below HR2.out HB.out);(case side2=>exact HC2.out);rintro e w47 ⟨vw47_0,rfl,ho0,hb⟩;obtain⟨AR50,cR50,eo_⟩:=Kd.R_slice ho0;subst eo_;refine⟨_,rfl,?_⟩;replace HOR17:=am (Kd.R_below HOR17.out hb);replace HOR21:=am (Kd.R_below HOR21.out hb);replace HOR25:=am (Kd.R_below HOR25.out hb);replace HOR35:=am (Kd.S_below HOR35.out hb);replace HOR40:=am (Kd.R_below HOR40.out hb);replace HOR46:=am (Kd.R_below HOR46.out hb);replace BK5:=am (blk_below BK5.out hb);replace BK8:=am (blk_below BK8.out hb);replace BK14:=am (blk_below BK14.out hb);have HOR50:=am (Kd.R_lower (Kd.R_mono (ok':=fun k_=>w43.heap.size≤k_∧k_<w47.heap.size) (Kd.R_bound ho0) (fun k_ hk_=>⟨hk_.2.1,hk_.2.2.1⟩)) (below_size HB.out));have HMw47:=am ((hb.size:w43.heap.size≤w47.heap.size));replace HB:=am (below_step HB.out hb);(try clear hb);(try clear ho0);have hczw47_0:=bc BK5.out 0;have hczw47_1:=bc BK5.out 1;have hfzw47_0:=blk_frozen BK5.out 0;have hfzw47_1:=blk_frozen BK5.out 1;have hczw47_0:=bc BK8.out 0;have hczw47_1:=bc BK8.out 1;have hczw47_2:=bc BK8.out 2;have hfzw47_0:=blk_frozen BK8.out 0;have hfzw47_1:=blk_frozen BK8.out 1;have hfzw47_2:=blk_frozen BK8.out 2;have hczw47_0:=bc BK14.out 0;have hczw47_1:=bc BK14.out 1;have hfzw47_0:=blk_frozen BK14.out 0;have hfzw47_1:=blk_frozen BK14.out 1))
    try go_wp2
    have hbd_:Below w47.heap.size w47 w47.drew:=below_drew1 (Below.refl _ _)
    replace HOR17:=am (Kd.R_below HOR17.out hbd_)
    replace HOR21:=am (Kd.R_below HOR21.out hbd_)
    replace HOR25:=am (Kd.R_below HOR25.out hbd_)
    replace HOR35:=am (Kd.S_below HOR35.out hbd_)
    replace HOR40:=am (Kd.R_below HOR40.out hbd_)
    replace HOR46:=am (Kd.R_below HOR46.out hbd_)
    replace HOR50:=am (Kd.R_below HOR50.out hbd_)
    replace BK5:=am (blk_below BK5.out hbd_)
    replace BK8:=am (blk_below BK8.out hbd_)
    replace BK14:=am (blk_below BK14.out hbd_)
    replace HB:=am (below_step HB.out hbd_)
    refine start_ (n:=12) (S:=fun w'=>w'.cell? ⟨gb14,0,none⟩=some (.slice AR40 t38.length cR40)∧w'.cell? ⟨gb14,1,none⟩=some (.int .i64 t39)∧w'.cell? ⟨gb8,0,none⟩=some (.int .i64 a3_0)∧w'.cell? ⟨gb8,1,none⟩=some (.int .i64 a3_1)∧w'.cell? ⟨gb8,2,none⟩=some (.int .i64 a3_2)) (ds:=[]) (fl 0 12) (by kernel_rfl) rfl rfl ⟨bc BK14.out 0,bc BK14.out 1,bc BK8.out 0,bc BK8.out 1,bc BK8.out 2⟩ (fun hHeld=>?_)
    have HMw51:Aside0 (w47.heap.size≤w47.drew.heap.size):=⟨Nat.le_refl _⟩
    clear hbd_
    generalize w47.drew=w51 at HOR17 HOR21 HOR25 HOR35 HOR40 HOR46 HOR50 BK5 BK8 BK14 HB HMw51 hHeld ⊢
    refine pk 1 (some 60) #[false,true,false,false,false,false,false,false,false,false,false,false] (h:=?_)
    refine pk 2 (some 61) #[false,true,true,false,false,false,false,false,false,false,false,false] (h:=?_)
    refine pk 5 (some 64) #[false,true,true,false,false,true,false,false,false,false,false,false] (h:=?_)
    refine tk 0 (some 59) #[true,true,true,false,false,true,false,false,false,false,false,false] hHeld rfl (by rintro w' ⟨s0,s1,s2,s3,s4⟩;go_simp;with_reducible rfl) (h:=?_)
    refine tk 3 (some 62) #[true,true,true,true,false,true,false,false,false,false,false,false] hHeld rfl (by rintro w' ⟨s0,s1,s2,s3,s4⟩;go_simp;with_reducible rfl) (h:=?_)
    refine one_ (i:=4) (N:=some 63) (fl 6 12) rfl rfl (by kernel_rfl) (by decide) (fun K hK=>?_)
    refine goes_ Try.func13 (by kernel_rfl) rfl #[.agg #[.int .i64 a3_0,.int .i64 a3_1,.int .i64 a3_2]] (by rfl) rfl rfl (by(try simp only[List.map_toArray,List.map_cons,List.map_nil]);first|done|rfl) ?_
    (with_reducible refine(laws_toAction.calls a3_0 a3_1 a3_2 t54 t55 t56 _ A53.out).mono ?_)
    rintro e w52 ⟨rfl,hb0_⟩
    have hb:=hb0_
    clear hb0_
    refine⟨_,rfl,?_⟩
    replace HOR17:=am (Kd.R_below HOR17.out hb)
    replace HOR21:=am (Kd.R_below HOR21.out hb)
    replace HOR25:=am (Kd.R_below HOR25.out hb)
    replace HOR35:=am (Kd.S_below HOR35.out hb)
    replace HOR40:=am (Kd.R_below HOR40.out hb)
    replace HOR46:=am (Kd.R_below HOR46.out hb)
    replace HOR50:=am (Kd.R_below HOR50.out hb)
    replace BK5:=am (blk_below BK5.out hb)
    replace BK8:=am (blk_below BK8.out hb)
    replace BK14:=am (blk_below BK14.out hb)
    replace HB:=am (below_step HB.out hb)
    have HMw52:=am ((hb.size:w51.heap.size≤w52.heap.size))
    (try clear hb)
    have hczw52_0:=bc BK5.out 0
    have hczw52_1:=bc BK5.out 1
    have hfzw52_0:=blk_frozen BK5.out 0
    have hfzw52_1:=blk_frozen BK5.out 1
    have hczw52_0:=bc BK8.out 0
    have hczw52_1:=bc BK8.out 1
    have hczw52_2:=bc BK8.out 2
    have hfzw52_0:=blk_frozen BK8.out 0
    have hfzw52_1:=blk_frozen BK8.out 1
    have hfzw52_2:=blk_frozen BK8.out 2
    have hczw52_0:=bc BK14.out 0
    have hczw52_1:=bc BK14.out 1
    have hfzw52_0:=blk_frozen BK14.out 0
    have hfzw52_1:=blk_frozen BK14.out 1
    refine hK.out _ _ ⟨bc BK14.out 0,bc BK14.out 1,bc BK8.out 0,bc BK8.out 1,bc BK8.out 2⟩ (fun hHeld=>?_)
    clear hK K
    refine norm_ (a':=?_) ?_ ?_
    rotate_left
    (show Act.put _ (some 63) _=_;simp only[Act.put,List.setIfInBounds_toArray,List.set_cons_zero,List.set_cons_succ,i64_w,i32_w];rfl)
    refine one_ (i:=6) (N:=some 65) (fl 7 12) rfl rfl (by kernel_rfl) (by decide) (fun K hK=>?_)
    refine goes_ Try.func21 (by kernel_rfl) rfl #[.agg #[.slice AR40 t38.length cR40,.int .i64 t39],.slice AR46 t45.length cR46,.slice AR50 t49.length cR50,.agg #[.int .i64 t54,.int .i64 t55,.int .i64 t56],.int .i64 a4] (by rfl) rfl rfl (by(try simp only[List.map_toArray,List.map_cons,List.map_nil]);first|done|rfl) ?_
    (with_reducible refine(impl_FaultsOf.calls k _ _ t38 t39 _ _ t45 _ _ t49 t54 t55 t56 a4 t59 t136 _ ?side1 ?side2 ?side3 ?side4 ?side5 ?side6 A58.out).mono ?_)
    (case side1=>exact(Kd.R_reads' HOR40.out).2.2)
    (case side2=>(have e_:=Kd.R_reads' HOR40.out;rw[← e_.1];exact e_.2.1))
    (case side3=>exact(Kd.R_reads' HOR46.out).2.2)
    (case side4=>(have e_:=Kd.R_reads' HOR46.out;rw[← e_.1];exact e_.2.1))
    (case side5=>exact(Kd.R_reads' HOR50.out).2.2)
    (case side6=>(have e_:=Kd.R_reads' HOR50.out;rw[← e_.1];exact e_.2.1))
    rintro e w57 ⟨vw57_0,rfl,ho0,hb⟩
    obtain⟨AR61,cR61,eo_⟩:=Kd.S_slice ho0
    subst eo_
    refine⟨_,rfl,?_⟩
    replace HOR17:=am (Kd.R_below HOR17.out hb)
    replace HOR21:=am (Kd.R_below HOR21.out hb)
    replace HOR25:=am (Kd.R_below HOR25.out hb)
    replace HOR35:=am (Kd.S_below HOR35.out hb)
    replace HOR40:=am (Kd.R_below HOR40.out hb)
    replace HOR46:=am (Kd.R_below HOR46.out hb)
    replace HOR50:=am (Kd.R_below HOR50.out hb)
    replace BK5:=am (blk_below BK5.out hb)
    replace BK8:=am (blk_below BK8.out hb)
    replace BK14:=am (blk_below BK14.out hb)
    have HOR61:=am (Kd.S_lower (Kd.S_mono (ok':=fun k_=>w52.heap.size≤k_∧k_<w57.heap.size) (Kd.S_bound ho0) (fun k_ hk_=>⟨hk_.2.1,hk_.2.2.1⟩)) (below_size HB.out))
    have HMw57:=am ((hb.size:w52.heap.size≤w57.heap.size))
    replace HB:=am (below_step HB.out hb)
    (try clear hb)
    (try clear ho0)
    have hczw57_0:=bc BK5.out 0
    have hczw57_1:=bc BK5.out 1
    have hfzw57_0:=blk_frozen BK5.out 0
    have hfzw57_1:=blk_frozen BK5.out 1
    have hczw57_0:=bc BK8.out 0
    have hczw57_1:=bc BK8.out 1
    have hczw57_2:=bc BK8.out 2
    have hfzw57_0:=blk_frozen BK8.out 0
    have hfzw57_1:=blk_frozen BK8.out 1
    have hfzw57_2:=blk_frozen BK8.out 2
    have hczw57_0:=bc BK14.out 0
    have hczw57_1:=bc BK14.out 1
    have hfzw57_0:=blk_frozen BK14.out 0
    have hfzw57_1:=blk_frozen BK14.out 1
    refine hK.out _ _ ⟨bc BK14.out 0,bc BK14.out 1,bc BK8.out 0,bc BK8.out 1,bc BK8.out 2⟩ (fun hHeld=>?_)
    clear hK K
    refine norm_ (a':=?_) ?_ ?_
    rotate_left
    (show Act.put _ (some 65) _=_;simp only[Act.put,List.setIfInBounds_toArray,List.set_cons_zero,List.set_cons_succ,i64_w,i32_w];rfl)
    refine pk 7 (some 58) (fl 8 12) (h:=?_)
    refine pk 8 (some 66) (fl 9 12) (h:=?_)
    refine pk 9 (some 67) (fl 10 12) (h:=?_)
    refine pk 10 (some 17) (fl 11 12) (h:=?_)
    refine pk 11 (some 18) (fl 12 12) (h:=?_)
    refine done_ (by kernel_rfl) ?_
    go_wp2_with (first|((with_reducible refine gate_callee (f:=22) rfl ?_);refine goesL_ (some 70) rfl rfl Try.func22 (by kernel_rfl) rfl #[.slice AR61 t59.length cR61,.slice AR35 t33.length cR35] rfl (by(try simp only[List.map_toArray,List.map_cons,List.map_nil]);first|done|rfl) ?_;(with_reducible refine(laws_eqIntSS.calls k _ _ t59 _ _ t33 true _ ?side1 ?side2 ?side3 ?side4 A63.out).mono ?_);(case side1=>exact(Kd.S_reads' HOR61.out).2.2);(case side2=>(have e_:=Kd.S_reads' HOR61.out;rw[← e_.1];exact e_.2.1));(case side3=>exact(Kd.S_reads' HOR35.out).2.2);(case side4=>(have e_:=Kd.S_reads' HOR35.out;rw[← e_.1];exact e_.2.1));rintro e w62 ⟨rfl,hb0_⟩;have hb:=hb0_.below;clear hb0_;refine⟨_,rfl,?_⟩;replace HOR17:=am (Kd.R_below HOR17.out hb);replace HOR21:=am (Kd.R_below HOR21.out hb);replace HOR25:=am (Kd.R_below HOR25.out hb);replace HOR35:=am (Kd.S_below HOR35.out hb);replace HOR40:=am (Kd.R_below HOR40.out hb);replace HOR46:=am (Kd.R_below HOR46.out hb);replace HOR50:=am (Kd.R_below HOR50.out hb);replace HOR61:=am (Kd.S_below HOR61.out hb);replace BK5:=am (blk_below BK5.out hb);replace BK8:=am (blk_below BK8.out hb);replace BK14:=am (blk_below BK14.out hb);replace HB:=am (below_step HB.out hb);have HMw62:=am ((hb.size:w57.heap.size≤w62.heap.size));(try clear hb);have hczw62_0:=bc BK5.out 0;have hczw62_1:=bc BK5.out 1;have hfzw62_0:=blk_frozen BK5.out 0;have hfzw62_1:=blk_frozen BK5.out 1;have hczw62_0:=bc BK8.out 0;have hczw62_1:=bc BK8.out 1;have hczw62_2:=bc BK8.out 2;have hfzw62_0:=blk_frozen BK8.out 0;have hfzw62_1:=blk_frozen BK8.out 1;have hfzw62_2:=blk_frozen BK8.out 2;have hczw62_0:=bc BK14.out 0;have hczw62_1:=bc BK14.out 1;have hfzw62_0:=blk_frozen BK14.out 0;have hfzw62_1:=blk_frozen BK14.out 1))
    try go_wp2
    have hbd_:Below w62.heap.size w62 w62.drew:=below_drew1 (Below.refl _ _)
    replace HOR17:=am (Kd.R_below HOR17.out hbd_)
    replace HOR21:=am (Kd.R_below HOR21.out hbd_)
    replace HOR25:=am (Kd.R_below HOR25.out hbd_)
    replace HOR35:=am (Kd.S_below HOR35.out hbd_)
    replace HOR40:=am (Kd.R_below HOR40.out hbd_)
    replace HOR46:=am (Kd.R_below HOR46.out hbd_)
    replace HOR50:=am (Kd.R_below HOR50.out hbd_)
    replace HOR61:=am (Kd.S_below HOR61.out hbd_)
    replace BK5:=am (blk_below BK5.out hbd_)
    replace BK8:=am (blk_below BK8.out hbd_)
    replace BK14:=am (blk_below BK14.out hbd_)
    replace HB:=am (below_step HB.out hbd_)
    refine start_ (n:=5) (S:=fun w'=>w'.cell? ⟨gb14,0,none⟩=some (.slice AR40 t38.length cR40)∧w'.cell? ⟨gb14,1,none⟩=some (.int .i64 t39)∧w'.cell? ⟨gb5,0,none⟩=some (.slice A0_0 l0_0.length c0_0)∧w'.cell? ⟨gb5,1,none⟩=some (.int .i64 a0_1)) (ds:=[]) (fl 0 5) (by kernel_rfl) rfl rfl ⟨bc BK14.out 0,bc BK14.out 1,bc BK5.out 0,bc BK5.out 1⟩ (fun hHeld=>?_)
    have HMw65:Aside0 (w62.heap.size≤w62.drew.heap.size):=⟨Nat.le_refl _⟩
    clear hbd_
    generalize w62.drew=w65 at HOR17 HOR21 HOR25 HOR35 HOR40 HOR46 HOR50 HOR61 BK5 BK8 BK14 HB HMw65 hHeld ⊢
    refine tk 0 (some 77) (fl 1 5) hHeld rfl (by rintro w' ⟨s0,s1,s2,s3⟩;go_simp;with_reducible rfl) (h:=?_)
    refine tk 1 (some 78) (fl 2 5) hHeld rfl (by rintro w' ⟨s0,s1,s2,s3⟩;go_simp;with_reducible rfl) (h:=?_)
    refine one_ (i:=2) (N:=some 79) (fl 3 5) rfl rfl (by kernel_rfl) (by decide) (fun K hK=>?_)
    refine goes_ Try.func10 (by kernel_rfl) rfl #[.agg #[.slice A0_0 l0_0.length c0_0,.int .i64 a0_1]] (by rfl) rfl rfl (by(try simp only[List.map_toArray,List.map_cons,List.map_nil]);first|done|rfl) ?_
    (with_reducible refine(laws_toInstrument.calls k _ _ l0_0 a0_1 t68 t69 _ ?side1 ?side2 A67.out).mono ?_)
    (case side1=>exact Kd.C_below HR0_0.out HB.out)
    (case side2=>exact HC0_0.out)
    rintro e w66 ⟨vw66_0,rfl,ho0,hb⟩
    obtain⟨AR70,cR70,eo_⟩:=Kd.R_slice ho0
    subst eo_
    refine⟨_,rfl,?_⟩
    replace HOR17:=am (Kd.R_below HOR17.out hb)
    replace HOR21:=am (Kd.R_below HOR21.out hb)
    replace HOR25:=am (Kd.R_below HOR25.out hb)
    replace HOR35:=am (Kd.S_below HOR35.out hb)
    replace HOR40:=am (Kd.R_below HOR40.out hb)
    replace HOR46:=am (Kd.R_below HOR46.out hb)
    replace HOR50:=am (Kd.R_below HOR50.out hb)
    replace HOR61:=am (Kd.S_below HOR61.out hb)
    replace BK5:=am (blk_below BK5.out hb)
    replace BK8:=am (blk_below BK8.out hb)
    replace BK14:=am (blk_below BK14.out hb)
    have HOR70:=am (Kd.R_lower (Kd.R_mono (ok':=fun k_=>w65.heap.size≤k_∧k_<w66.heap.size) (Kd.R_bound ho0) (fun k_ hk_=>⟨hk_.2.1,hk_.2.2.1⟩)) (below_size HB.out))
    have HMw66:=am ((hb.size:w65.heap.size≤w66.heap.size))
    replace HB:=am (below_step HB.out hb)
    (try clear hb)
    (try clear ho0)
    have hczw66_0:=bc BK5.out 0
    have hczw66_1:=bc BK5.out 1
    have hfzw66_0:=blk_frozen BK5.out 0
    have hfzw66_1:=blk_frozen BK5.out 1
    have hczw66_0:=bc BK8.out 0
    have hczw66_1:=bc BK8.out 1
    have hczw66_2:=bc BK8.out 2
    have hfzw66_0:=blk_frozen BK8.out 0
    have hfzw66_1:=blk_frozen BK8.out 1
    have hfzw66_2:=blk_frozen BK8.out 2
    have hczw66_0:=bc BK14.out 0
    have hczw66_1:=bc BK14.out 1
    have hfzw66_0:=blk_frozen BK14.out 0
    have hfzw66_1:=blk_frozen BK14.out 1
    refine hK.out _ _ ⟨bc BK14.out 0,bc BK14.out 1,bc BK5.out 0,bc BK5.out 1⟩ (fun hHeld=>?_)
    clear hK K
    refine norm_ (a':=?_) ?_ ?_
    rotate_left
    (show Act.put _ (some 79) _=_;simp only[Act.put,List.setIfInBounds_toArray,List.set_cons_zero,List.set_cons_succ,i64_w,i32_w];rfl)
    refine one_ (i:=3) (N:=some 80) (fl 4 5) rfl rfl (by kernel_rfl) (by decide) (fun K hK=>?_)
    refine goes_ Try.func15 (by kernel_rfl) rfl #[.agg #[.slice AR40 t38.length cR40,.int .i64 t39],.agg #[.slice AR70 t68.length cR70,.int .i64 t69]] (by rfl) rfl rfl (by(try simp only[List.map_toArray,List.map_cons,List.map_nil]);first|done|rfl) ?_
    (with_reducible refine(laws_eqInstrument.calls k _ _ t38 t39 _ _ t68 t69 true _ ?side1 ?side2 ?side3 ?side4 A72.out).mono ?_)
    (case side1=>exact(Kd.R_reads' HOR40.out).2.2)
    (case side2=>(have e_:=Kd.R_reads' HOR40.out;rw[← e_.1];exact e_.2.1))
    (case side3=>exact(Kd.R_reads' HOR70.out).2.2)
    (case side4=>(have e_:=Kd.R_reads' HOR70.out;rw[← e_.1];exact e_.2.1))
    rintro e w71 ⟨rfl,hb0_⟩
    have hb:=hb0_
    clear hb0_
    refine⟨_,rfl,?_⟩
    replace HOR17:=am (Kd.R_below HOR17.out hb)
    replace HOR21:=am (Kd.R_below HOR21.out hb)
    replace HOR25:=am (Kd.R_below HOR25.out hb)
    replace HOR35:=am (Kd.S_below HOR35.out hb)
    replace HOR40:=am (Kd.R_below HOR40.out hb)
    replace HOR46:=am (Kd.R_below HOR46.out hb)
    replace HOR50:=am (Kd.R_below HOR50.out hb)
    replace HOR61:=am (Kd.S_below HOR61.out hb)
    replace HOR70:=am (Kd.R_below HOR70.out hb)
    replace BK5:=am (blk_below BK5.out hb)
    replace BK8:=am (blk_below BK8.out hb)
    replace BK14:=am (blk_below BK14.out hb)
    replace HB:=am (below_step HB.out hb)
    have HMw71:=am ((hb.size:w66.heap.size≤w71.heap.size))
    (try clear hb)
    have hczw71_0:=bc BK5.out 0
    have hczw71_1:=bc BK5.out 1
    have hfzw71_0:=blk_frozen BK5.out 0
    have hfzw71_1:=blk_frozen BK5.out 1
    have hczw71_0:=bc BK8.out 0
    have hczw71_1:=bc BK8.out 1
    have hczw71_2:=bc BK8.out 2
    have hfzw71_0:=blk_frozen BK8.out 0
    have hfzw71_1:=blk_frozen BK8.out 1
    have hfzw71_2:=blk_frozen BK8.out 2
    have hczw71_0:=bc BK14.out 0
    have hczw71_1:=bc BK14.out 1
    have hfzw71_0:=blk_frozen BK14.out 0
    have hfzw71_1:=blk_frozen BK14.out 1
    refine hK.out _ _ ⟨bc BK14.out 0,bc BK14.out 1,bc BK5.out 0,bc BK5.out 1⟩ (fun hHeld=>?_)
    clear hK K
    refine norm_ (a':=?_) ?_ ?_
    rotate_left
    (show Act.put _ (some 80) _=_;simp only[Act.put,List.setIfInBounds_toArray,List.set_cons_zero,List.set_cons_succ,i64_w,i32_w];rfl)
    refine pk 4 (some 81) (fl 5 5) (h:=?_)
    refine done_ (by kernel_rfl) ?_
    go_wp2_with (first|((with_reducible refine gate_callee (f:=11) rfl ?_);refine goesL_ (some 84) rfl rfl Try.func11 (by kernel_rfl) rfl #[.slice A1 l1.length c1] rfl (by(try simp only[List.map_toArray,List.map_cons,List.map_nil]);first|done|rfl) ?_;(with_reducible refine(laws_toNoteS.calls k _ _ l1 t76 _ ?side1 ?side2 A75.out).mono ?_);(case side1=>exact Kd.C_below HR1.out HB.out);(case side2=>exact HC1.out);rintro e w74 ⟨vw74_0,rfl,ho0,hb⟩;obtain⟨AR77,cR77,eo_⟩:=Kd.R_slice ho0;subst eo_;refine⟨_,rfl,?_⟩;replace HOR17:=am (Kd.R_below HOR17.out hb);replace HOR21:=am (Kd.R_below HOR21.out hb);replace HOR25:=am (Kd.R_below HOR25.out hb);replace HOR35:=am (Kd.S_below HOR35.out hb);replace HOR40:=am (Kd.R_below HOR40.out hb);replace HOR46:=am (Kd.R_below HOR46.out hb);replace HOR50:=am (Kd.R_below HOR50.out hb);replace HOR61:=am (Kd.S_below HOR61.out hb);replace HOR70:=am (Kd.R_below HOR70.out hb);replace BK5:=am (blk_below BK5.out hb);replace BK8:=am (blk_below BK8.out hb);replace BK14:=am (blk_below BK14.out hb);have HOR77:=am (Kd.R_lower (Kd.R_mono (ok':=fun k_=>w71.heap.size≤k_∧k_<w74.heap.size) (Kd.R_bound ho0) (fun k_ hk_=>⟨hk_.2.1,hk_.2.2.1⟩)) (below_size HB.out));have HMw74:=am ((hb.size:w71.heap.size≤w74.heap.size));replace HB:=am (below_step HB.out hb);(try clear hb);(try clear ho0);have hczw74_0:=bc BK5.out 0;have hczw74_1:=bc BK5.out 1;have hfzw74_0:=blk_frozen BK5.out 0;have hfzw74_1:=blk_frozen BK5.out 1;have hczw74_0:=bc BK8.out 0;have hczw74_1:=bc BK8.out 1;have hczw74_2:=bc BK8.out 2;have hfzw74_0:=blk_frozen BK8.out 0;have hfzw74_1:=blk_frozen BK8.out 1;have hfzw74_2:=blk_frozen BK8.out 2;have hczw74_0:=bc BK14.out 0;have hczw74_1:=bc BK14.out 1;have hfzw74_0:=blk_frozen BK14.out 0;have hfzw74_1:=blk_frozen BK14.out 1)|((with_reducible refine gate_callee (f:=16) rfl ?_);refine goesL_ (some 85) rfl rfl Try.func16 (by kernel_rfl) rfl #[.slice AR46 t45.length cR46,.slice AR77 t76.length cR77] rfl (by(try simp only[List.map_toArray,List.map_cons,List.map_nil]);first|done|rfl) ?_;(with_reducible refine(laws_eqNoteS.calls k _ _ t45 _ _ t76 true _ ?side1 ?side2 ?side3 ?side4 A79.out).mono ?_);(case side1=>exact(Kd.R_reads' HOR46.out).2.2);(case side2=>(have e_:=Kd.R_reads' HOR46.out;rw[← e_.1];exact e_.2.1));(case side3=>exact(Kd.R_reads' HOR77.out).2.2);(case side4=>(have e_:=Kd.R_reads' HOR77.out;rw[← e_.1];exact e_.2.1));rintro e w78 ⟨rfl,hb0_⟩;have hb:=hb0_;clear hb0_;refine⟨_,rfl,?_⟩;replace HOR17:=am (Kd.R_below HOR17.out hb);replace HOR21:=am (Kd.R_below HOR21.out hb);replace HOR25:=am (Kd.R_below HOR25.out hb);replace HOR35:=am (Kd.S_below HOR35.out hb);replace HOR40:=am (Kd.R_below HOR40.out hb);replace HOR46:=am (Kd.R_below HOR46.out hb);replace HOR50:=am (Kd.R_below HOR50.out hb);replace HOR61:=am (Kd.S_below HOR61.out hb);replace HOR70:=am (Kd.R_below HOR70.out hb);replace HOR77:=am (Kd.R_below HOR77.out hb);replace BK5:=am (blk_below BK5.out hb);replace BK8:=am (blk_below BK8.out hb);replace BK14:=am (blk_below BK14.out hb);replace HB:=am (below_step HB.out hb);have HMw78:=am ((hb.size:w74.heap.size≤w78.heap.size));(try clear hb);have hczw78_0:=bc BK5.out 0;have hczw78_1:=bc BK5.out 1;have hfzw78_0:=blk_frozen BK5.out 0;have hfzw78_1:=blk_frozen BK5.out 1;have hczw78_0:=bc BK8.out 0;have hczw78_1:=bc BK8.out 1;have hczw78_2:=bc BK8.out 2;have hfzw78_0:=blk_frozen BK8.out 0;have hfzw78_1:=blk_frozen BK8.out 1;have hfzw78_2:=blk_frozen BK8.out 2;have hczw78_0:=bc BK14.out 0;have hczw78_1:=bc BK14.out 1;have hfzw78_0:=blk_frozen BK14.out 0;have hfzw78_1:=blk_frozen BK14.out 1)|((with_reducible refine gate_callee (f:=12) rfl ?_);refine goesL_ (some 89) rfl rfl Try.func12 (by kernel_rfl) rfl #[.slice A2 l2.length c2] rfl (by(try simp only[List.map_toArray,List.map_cons,List.map_nil]);first|done|rfl) ?_;(with_reducible refine(laws_toHoleS.calls k _ _ l2 t83 _ ?side1 ?side2 A82.out).mono ?_);(case side1=>exact Kd.C_below HR2.out HB.out);(case side2=>exact HC2.out);rintro e w81 ⟨vw81_0,rfl,ho0,hb⟩;obtain⟨AR84,cR84,eo_⟩:=Kd.R_slice ho0;subst eo_;refine⟨_,rfl,?_⟩;replace HOR17:=am (Kd.R_below HOR17.out hb);replace HOR21:=am (Kd.R_below HOR21.out hb);replace HOR25:=am (Kd.R_below HOR25.out hb);replace HOR35:=am (Kd.S_below HOR35.out hb);replace HOR40:=am (Kd.R_below HOR40.out hb);replace HOR46:=am (Kd.R_below HOR46.out hb);replace HOR50:=am (Kd.R_below HOR50.out hb);replace HOR61:=am (Kd.S_below HOR61.out hb);replace HOR70:=am (Kd.R_below HOR70.out hb);replace HOR77:=am (Kd.R_below HOR77.out hb);replace BK5:=am (blk_below BK5.out hb);replace BK8:=am (blk_below BK8.out hb);replace BK14:=am (blk_below BK14.out hb);have HOR84:=am (Kd.R_lower (Kd.R_mono (ok':=fun k_=>w78.heap.size≤k_∧k_<w81.heap.size) (Kd.R_bound ho0) (fun k_ hk_=>⟨hk_.2.1,hk_.2.2.1⟩)) (below_size HB.out));have HMw81:=am ((hb.size:w78.heap.size≤w81.heap.size));replace HB:=am (below_step HB.out hb);(try clear hb);(try clear ho0);have hczw81_0:=bc BK5.out 0;have hczw81_1:=bc BK5.out 1;have hfzw81_0:=blk_frozen BK5.out 0;have hfzw81_1:=blk_frozen BK5.out 1;have hczw81_0:=bc BK8.out 0;have hczw81_1:=bc BK8.out 1;have hczw81_2:=bc BK8.out 2;have hfzw81_0:=blk_frozen BK8.out 0;have hfzw81_1:=blk_frozen BK8.out 1;have hfzw81_2:=blk_frozen BK8.out 2;have hczw81_0:=bc BK14.out 0;have hczw81_1:=bc BK14.out 1;have hfzw81_0:=blk_frozen BK14.out 0;have hfzw81_1:=blk_frozen BK14.out 1)|((with_reducible refine gate_callee (f:=17) rfl ?_);refine goesL_ (some 90) rfl rfl Try.func17 (by kernel_rfl) rfl #[.slice AR50 t49.length cR50,.slice AR84 t83.length cR84] rfl (by(try simp only[List.map_toArray,List.map_cons,List.map_nil]);first|done|rfl) ?_;(with_reducible refine(laws_eqHoleS.calls k _ _ t49 _ _ t83 true _ ?side1 ?side2 ?side3 ?side4 A86.out).mono ?_);(case side1=>exact(Kd.R_reads' HOR50.out).2.2);(case side2=>(have e_:=Kd.R_reads' HOR50.out;rw[← e_.1];exact e_.2.1));(case side3=>exact(Kd.R_reads' HOR84.out).2.2);(case side4=>(have e_:=Kd.R_reads' HOR84.out;rw[← e_.1];exact e_.2.1));rintro e w85 ⟨rfl,hb0_⟩;have hb:=hb0_;clear hb0_;refine⟨_,rfl,?_⟩;replace HOR17:=am (Kd.R_below HOR17.out hb);replace HOR21:=am (Kd.R_below HOR21.out hb);replace HOR25:=am (Kd.R_below HOR25.out hb);replace HOR35:=am (Kd.S_below HOR35.out hb);replace HOR40:=am (Kd.R_below HOR40.out hb);replace HOR46:=am (Kd.R_below HOR46.out hb);replace HOR50:=am (Kd.R_below HOR50.out hb);replace HOR61:=am (Kd.S_below HOR61.out hb);replace HOR70:=am (Kd.R_below HOR70.out hb);replace HOR77:=am (Kd.R_below HOR77.out hb);replace HOR84:=am (Kd.R_below HOR84.out hb);replace BK5:=am (blk_below BK5.out hb);replace BK8:=am (blk_below BK8.out hb);replace BK14:=am (blk_below BK14.out hb);replace HB:=am (below_step HB.out hb);have HMw85:=am ((hb.size:w81.heap.size≤w85.heap.size));(try clear hb);have hczw85_0:=bc BK5.out 0;have hczw85_1:=bc BK5.out 1;have hfzw85_0:=blk_frozen BK5.out 0;have hfzw85_1:=blk_frozen BK5.out 1;have hczw85_0:=bc BK8.out 0;have hczw85_1:=bc BK8.out 1;have hczw85_2:=bc BK8.out 2;have hfzw85_0:=blk_frozen BK8.out 0;have hfzw85_1:=blk_frozen BK8.out 1;have hfzw85_2:=blk_frozen BK8.out 2;have hczw85_0:=bc BK14.out 0;have hczw85_1:=bc BK14.out 1;have hfzw85_0:=blk_frozen BK14.out 0;have hfzw85_1:=blk_frozen BK14.out 1)|((with_reducible refine gate_callee (f:=23) rfl ?_);refine goesL_ (some 94) rfl rfl Try.func23 (by kernel_rfl) rfl #[.agg #[.slice AR40 t38.length cR40,.int .i64 t39],.int .i64 1] rfl (by(try simp only[List.map_toArray,List.map_cons,List.map_nil]);first|done|rfl) ?_;(with_reducible refine(laws_markInstrument.calls k (fun k_=>w31.heap.size≤k_∧k_<w36.heap.size) (.slice AR40 t38.length cR40) t38 t39 1 t90 t91 w _ ?side1 ?side2 A89.out).mono ?_);(case side1=>exact HB.out);(case side2=>exact HOR40.out);rintro e w88 ⟨rfl,hy,hb,hkp⟩;refine⟨_,rfl,?_⟩;have m0_:=HMw1.out;have m1_:=HG5.out;have m2_:=HMw2.out;have m3_:=HG8.out;have m4_:=HMw3.out;have m5_:=HMw6.out;have m6_:=HMw9.out;have m7_:=HMw12.out;have m8_:=HMw13.out;have m9_:=HMw18.out;have m10_:=HMw22.out;have m11_:=HMw26.out;have m12_:=HMw31.out;have m13_:=HMw36.out;have m14_:=HMw41.out;have m15_:=HG14.out;have m16_:=HMw42.out;have m17_:=HMw43.out;have m18_:=HMw47.out;have m19_:=HMw51.out;have m20_:=HMw52.out;have m21_:=HMw57.out;have m22_:=HMw62.out;have m23_:=HMw65.out;have m24_:=HMw66.out;have m25_:=HMw71.out;have m26_:=HMw74.out;have m27_:=HMw78.out;have m28_:=HMw81.out;have m29_:=HMw85.out;replace HOR17:=am (Kd.R_kept HOR17.out hkp (fun k_ hz_ hs_=>by obtain⟨hz1_,hz2_⟩:=hz_;obtain⟨hs1_,hs2_⟩:=(hs_:w31.heap.size≤_∧_<w36.heap.size);omega));replace HOR21:=am (Kd.R_kept HOR21.out hkp (fun k_ hz_ hs_=>by obtain⟨hz1_,hz2_⟩:=hz_;obtain⟨hs1_,hs2_⟩:=(hs_:w31.heap.size≤_∧_<w36.heap.size);omega));replace HOR25:=am (Kd.R_kept HOR25.out hkp (fun k_ hz_ hs_=>by obtain⟨hz1_,hz2_⟩:=hz_;obtain⟨hs1_,hs2_⟩:=(hs_:w31.heap.size≤_∧_<w36.heap.size);omega));replace HOR35:=am (Kd.S_kept HOR35.out hkp (fun k_ hz_ hs_=>by obtain⟨hz1_,hz2_⟩:=hz_;obtain⟨hs1_,hs2_⟩:=(hs_:w31.heap.size≤_∧_<w36.heap.size);omega));replace HOR46:=am (Kd.R_kept HOR46.out hkp (fun k_ hz_ hs_=>by obtain⟨hz1_,hz2_⟩:=hz_;obtain⟨hs1_,hs2_⟩:=(hs_:w31.heap.size≤_∧_<w36.heap.size);omega));replace HOR50:=am (Kd.R_kept HOR50.out hkp (fun k_ hz_ hs_=>by obtain⟨hz1_,hz2_⟩:=hz_;obtain⟨hs1_,hs2_⟩:=(hs_:w31.heap.size≤_∧_<w36.heap.size);omega));replace HOR61:=am (Kd.S_kept HOR61.out hkp (fun k_ hz_ hs_=>by obtain⟨hz1_,hz2_⟩:=hz_;obtain⟨hs1_,hs2_⟩:=(hs_:w31.heap.size≤_∧_<w36.heap.size);omega));replace HOR70:=am (Kd.R_kept HOR70.out hkp (fun k_ hz_ hs_=>by obtain⟨hz1_,hz2_⟩:=hz_;obtain⟨hs1_,hs2_⟩:=(hs_:w31.heap.size≤_∧_<w36.heap.size);omega));replace HOR77:=am (Kd.R_kept HOR77.out hkp (fun k_ hz_ hs_=>by obtain⟨hz1_,hz2_⟩:=hz_;obtain⟨hs1_,hs2_⟩:=(hs_:w31.heap.size≤_∧_<w36.heap.size);omega));replace HOR84:=am (Kd.R_kept HOR84.out hkp (fun k_ hz_ hs_=>by obtain⟨hz1_,hz2_⟩:=hz_;obtain⟨hs1_,hs2_⟩:=(hs_:w31.heap.size≤_∧_<w36.heap.size);omega));replace BK5:=am (blk_kept BK5.out hkp (fun hs_=>by have:=GP5.out;obtain⟨hs1_,hs2_⟩:=(hs_:w31.heap.size≤_∧_<w36.heap.size);omega));replace BK8:=am (blk_kept BK8.out hkp (fun hs_=>by have:=GP8.out;obtain⟨hs1_,hs2_⟩:=(hs_:w31.heap.size≤_∧_<w36.heap.size);omega));replace BK14:=am (blk_kept BK14.out hkp (fun hs_=>by have:=GP14.out;obtain⟨hs1_,hs2_⟩:=(hs_:w31.heap.size≤_∧_<w36.heap.size);omega));replace HOR40:=am (Kd.R_mono (Kd.R_tight rfl hy) (fun k_ hk_=>HOR40.out.1 k_ hk_.symm));have HL92:=am (((Kd.R_reads' hy).1:t38.length=t91.length));replace HB:=am (hb);have HMw88:=am ((hkp.1:w85.heap.size≤w88.heap.size));clear m0_ m1_ m2_ m3_ m4_ m5_ m6_ m7_ m8_ m9_ m10_ m11_ m12_ m13_ m14_ m15_ m16_ m17_ m18_ m19_ m20_ m21_ m22_ m23_ m24_ m25_ m26_ m27_ m28_ m29_;(try clear hb);(try clear hkp);(try clear hy);have hczw88_0:=bc BK5.out 0;have hczw88_1:=bc BK5.out 1;have hfzw88_0:=blk_frozen BK5.out 0;have hfzw88_1:=blk_frozen BK5.out 1;have hczw88_0:=bc BK8.out 0;have hczw88_1:=bc BK8.out 1;have hczw88_2:=bc BK8.out 2;have hfzw88_0:=blk_frozen BK8.out 0;have hfzw88_1:=blk_frozen BK8.out 1;have hfzw88_2:=blk_frozen BK8.out 2;have hczw88_0:=bc BK14.out 0;have hczw88_1:=bc BK14.out 1;have hfzw88_0:=blk_frozen BK14.out 0;have hfzw88_1:=blk_frozen BK14.out 1)|((with_reducible refine gate_callee (f:=24) rfl ?_);refine goesL_ (some 97) rfl rfl Try.func24 (by kernel_rfl) rfl #[.slice AR46 t45.length cR46,.int .i64 t90] rfl (by(try simp only[List.map_toArray,List.map_cons,List.map_nil]);first|done|rfl) ?_;(with_reducible refine(laws_markNoteS.calls k (fun k_=>w42.heap.size≤k_∧k_<w43.heap.size) (.slice AR46 t45.length cR46) t45 t90 t95 t96 w _ ?side1 ?side2 A94.out).mono ?_);(case side1=>exact HB.out);(case side2=>exact HOR46.out);rintro e w93 ⟨rfl,hy,hb,hkp⟩;refine⟨_,rfl,?_⟩;have m0_:=HMw1.out;have m1_:=HG5.out;have m2_:=HMw2.out;have m3_:=HG8.out;have m4_:=HMw3.out;have m5_:=HMw6.out;have m6_:=HMw9.out;have m7_:=HMw12.out;have m8_:=HMw13.out;have m9_:=HMw18.out;have m10_:=HMw22.out;have m11_:=HMw26.out;have m12_:=HMw31.out;have m13_:=HMw36.out;have m14_:=HMw41.out;have m15_:=HG14.out;have m16_:=HMw42.out;have m17_:=HMw43.out;have m18_:=HMw47.out;have m19_:=HMw51.out;have m20_:=HMw52.out;have m21_:=HMw57.out;have m22_:=HMw62.out;have m23_:=HMw65.out;have m24_:=HMw66.out;have m25_:=HMw71.out;have m26_:=HMw74.out;have m27_:=HMw78.out;have m28_:=HMw81.out;have m29_:=HMw85.out;have m30_:=HMw88.out;replace HOR17:=am (Kd.R_kept HOR17.out hkp (fun k_ hz_ hs_=>by obtain⟨hz1_,hz2_⟩:=hz_;obtain⟨hs1_,hs2_⟩:=(hs_:w42.heap.size≤_∧_<w43.heap.size);omega));replace HOR21:=am (Kd.R_kept HOR21.out hkp (fun k_ hz_ hs_=>by obtain⟨hz1_,hz2_⟩:=hz_;obtain⟨hs1_,hs2_⟩:=(hs_:w42.heap.size≤_∧_<w43.heap.size);omega));replace HOR25:=am (Kd.R_kept HOR25.out hkp (fun k_ hz_ hs_=>by obtain⟨hz1_,hz2_⟩:=hz_;obtain⟨hs1_,hs2_⟩:=(hs_:w42.heap.size≤_∧_<w43.heap.size);omega));replace HOR35:=am (Kd.S_kept HOR35.out hkp (fun k_ hz_ hs_=>by obtain⟨hz1_,hz2_⟩:=hz_;obtain⟨hs1_,hs2_⟩:=(hs_:w42.heap.size≤_∧_<w43.heap.size);omega));replace HOR40:=am (Kd.R_kept HOR40.out hkp (fun k_ hz_ hs_=>by obtain⟨hz1_,hz2_⟩:=hz_;obtain⟨hs1_,hs2_⟩:=(hs_:w42.heap.size≤_∧_<w43.heap.size);omega));replace HOR50:=am (Kd.R_kept HOR50.out hkp (fun k_ hz_ hs_=>by obtain⟨hz1_,hz2_⟩:=hz_;obtain⟨hs1_,hs2_⟩:=(hs_:w42.heap.size≤_∧_<w43.heap.size);omega));replace HOR61:=am (Kd.S_kept HOR61.out hkp (fun k_ hz_ hs_=>by obtain⟨hz1_,hz2_⟩:=hz_;obtain⟨hs1_,hs2_⟩:=(hs_:w42.heap.size≤_∧_<w43.heap.size);omega));replace HOR70:=am (Kd.R_kept HOR70.out hkp (fun k_ hz_ hs_=>by obtain⟨hz1_,hz2_⟩:=hz_;obtain⟨hs1_,hs2_⟩:=(hs_:w42.heap.size≤_∧_<w43.heap.size);omega));replace HOR77:=am (Kd.R_kept HOR77.out hkp (fun k_ hz_ hs_=>by obtain⟨hz1_,hz2_⟩:=hz_;obtain⟨hs1_,hs2_⟩:=(hs_:w42.heap.size≤_∧_<w43.heap.size);omega));replace HOR84:=am (Kd.R_kept HOR84.out hkp (fun k_ hz_ hs_=>by obtain⟨hz1_,hz2_⟩:=hz_;obtain⟨hs1_,hs2_⟩:=(hs_:w42.heap.size≤_∧_<w43.heap.size);omega));replace BK5:=am (blk_kept BK5.out hkp (fun hs_=>by have:=GP5.out;obtain⟨hs1_,hs2_⟩:=(hs_:w42.heap.size≤_∧_<w43.heap.size);omega));replace BK8:=am (blk_kept BK8.out hkp (fun hs_=>by have:=GP8.out;obtain⟨hs1_,hs2_⟩:=(hs_:w42.heap.size≤_∧_<w43.heap.size);omega));replace BK14:=am (blk_kept BK14.out hkp (fun hs_=>by have:=GP14.out;obtain⟨hs1_,hs2_⟩:=(hs_:w42.heap.size≤_∧_<w43.heap.size);omega));replace HOR46:=am (Kd.R_mono (Kd.R_tight rfl hy) (fun k_ hk_=>HOR46.out.1 k_ hk_.symm));have HL97:=am (((Kd.R_reads' hy).1:t45.length=t96.length));replace HB:=am (hb);have HMw93:=am ((hkp.1:w88.heap.size≤w93.heap.size));clear m0_ m1_ m2_ m3_ m4_ m5_ m6_ m7_ m8_ m9_ m10_ m11_ m12_ m13_ m14_ m15_ m16_ m17_ m18_ m19_ m20_ m21_ m22_ m23_ m24_ m25_ m26_ m27_ m28_ m29_ m30_;(try clear hb);(try clear hkp);(try clear hy);have hczw93_0:=bc BK5.out 0;have hczw93_1:=bc BK5.out 1;have hfzw93_0:=blk_frozen BK5.out 0;have hfzw93_1:=blk_frozen BK5.out 1;have hczw93_0:=bc BK8.out 0;have hczw93_1:=bc BK8.out 1;have hczw93_2:=bc BK8.out 2;have hfzw93_0:=blk_frozen BK8.out 0;have hfzw93_1:=blk_frozen BK8.out 1;have hfzw93_2:=blk_frozen BK8.out 2;have hczw93_0:=bc BK14.out 0;have hczw93_1:=bc BK14.out 1;have hfzw93_0:=blk_frozen BK14.out 0;have hfzw93_1:=blk_frozen BK14.out 1)|((with_reducible refine gate_callee (f:=25) rfl ?_);refine goesL_ (some 100) rfl rfl Try.func25 (by kernel_rfl) rfl #[.slice AR50 t49.length cR50,.int .i64 t95] rfl (by(try simp only[List.map_toArray,List.map_cons,List.map_nil]);first|done|rfl) ?_;(with_reducible refine(laws_markHoleS.calls k (fun k_=>w43.heap.size≤k_∧k_<w47.heap.size) (.slice AR50 t49.length cR50) t49 t95 t100 t101 w _ ?side1 ?side2 A99.out).mono ?_);(case side1=>exact HB.out);(case side2=>exact HOR50.out);rintro e w98 ⟨rfl,hy,hb,hkp⟩;refine⟨_,rfl,?_⟩;have m0_:=HMw1.out;have m1_:=HG5.out;have m2_:=HMw2.out;have m3_:=HG8.out;have m4_:=HMw3.out;have m5_:=HMw6.out;have m6_:=HMw9.out;have m7_:=HMw12.out;have m8_:=HMw13.out;have m9_:=HMw18.out;have m10_:=HMw22.out;have m11_:=HMw26.out;have m12_:=HMw31.out;have m13_:=HMw36.out;have m14_:=HMw41.out;have m15_:=HG14.out;have m16_:=HMw42.out;have m17_:=HMw43.out;have m18_:=HMw47.out;have m19_:=HMw51.out;have m20_:=HMw52.out;have m21_:=HMw57.out;have m22_:=HMw62.out;have m23_:=HMw65.out;have m24_:=HMw66.out;have m25_:=HMw71.out;have m26_:=HMw74.out;have m27_:=HMw78.out;have m28_:=HMw81.out;have m29_:=HMw85.out;have m30_:=HMw88.out;have m31_:=HMw93.out;replace HOR17:=am (Kd.R_kept HOR17.out hkp (fun k_ hz_ hs_=>by obtain⟨hz1_,hz2_⟩:=hz_;obtain⟨hs1_,hs2_⟩:=(hs_:w43.heap.size≤_∧_<w47.heap.size);omega));replace HOR21:=am (Kd.R_kept HOR21.out hkp (fun k_ hz_ hs_=>by obtain⟨hz1_,hz2_⟩:=hz_;obtain⟨hs1_,hs2_⟩:=(hs_:w43.heap.size≤_∧_<w47.heap.size);omega));replace HOR25:=am (Kd.R_kept HOR25.out hkp (fun k_ hz_ hs_=>by obtain⟨hz1_,hz2_⟩:=hz_;obtain⟨hs1_,hs2_⟩:=(hs_:w43.heap.size≤_∧_<w47.heap.size);omega));replace HOR35:=am (Kd.S_kept HOR35.out hkp (fun k_ hz_ hs_=>by obtain⟨hz1_,hz2_⟩:=hz_;obtain⟨hs1_,hs2_⟩:=(hs_:w43.heap.size≤_∧_<w47.heap.size);omega));replace HOR40:=am (Kd.R_kept HOR40.out hkp (fun k_ hz_ hs_=>by obtain⟨hz1_,hz2_⟩:=hz_;obtain⟨hs1_,hs2_⟩:=(hs_:w43.heap.size≤_∧_<w47.heap.size);omega));replace HOR46:=am (Kd.R_kept HOR46.out hkp (fun k_ hz_ hs_=>by obtain⟨hz1_,hz2_⟩:=hz_;obtain⟨hs1_,hs2_⟩:=(hs_:w43.heap.size≤_∧_<w47.heap.size);omega));replace HOR61:=am (Kd.S_kept HOR61.out hkp (fun k_ hz_ hs_=>by obtain⟨hz1_,hz2_⟩:=hz_;obtain⟨hs1_,hs2_⟩:=(hs_:w43.heap.size≤_∧_<w47.heap.size);omega));replace HOR70:=am (Kd.R_kept HOR70.out hkp (fun k_ hz_ hs_=>by obtain⟨hz1_,hz2_⟩:=hz_;obtain⟨hs1_,hs2_⟩:=(hs_:w43.heap.size≤_∧_<w47.heap.size);omega));replace HOR77:=am (Kd.R_kept HOR77.out hkp (fun k_ hz_ hs_=>by obtain⟨hz1_,hz2_⟩:=hz_;obtain⟨hs1_,hs2_⟩:=(hs_:w43.heap.size≤_∧_<w47.heap.size);omega));replace HOR84:=am (Kd.R_kept HOR84.out hkp (fun k_ hz_ hs_=>by obtain⟨hz1_,hz2_⟩:=hz_;obtain⟨hs1_,hs2_⟩:=(hs_:w43.heap.size≤_∧_<w47.heap.size);omega));replace BK5:=am (blk_kept BK5.out hkp (fun hs_=>by have:=GP5.out;obtain⟨hs1_,hs2_⟩:=(hs_:w43.heap.size≤_∧_<w47.heap.size);omega));replace BK8:=am (blk_kept BK8.out hkp (fun hs_=>by have:=GP8.out;obtain⟨hs1_,hs2_⟩:=(hs_:w43.heap.size≤_∧_<w47.heap.size);omega));replace BK14:=am (blk_kept BK14.out hkp (fun hs_=>by have:=GP14.out;obtain⟨hs1_,hs2_⟩:=(hs_:w43.heap.size≤_∧_<w47.heap.size);omega));replace HOR50:=am (Kd.R_mono (Kd.R_tight rfl hy) (fun k_ hk_=>HOR50.out.1 k_ hk_.symm));have HL102:=am (((Kd.R_reads' hy).1:t49.length=t101.length));replace HB:=am (hb);have HMw98:=am ((hkp.1:w93.heap.size≤w98.heap.size));clear m0_ m1_ m2_ m3_ m4_ m5_ m6_ m7_ m8_ m9_ m10_ m11_ m12_ m13_ m14_ m15_ m16_ m17_ m18_ m19_ m20_ m21_ m22_ m23_ m24_ m25_ m26_ m27_ m28_ m29_ m30_ m31_;(try clear hb);(try clear hkp);(try clear hy);have hczw98_0:=bc BK5.out 0;have hczw98_1:=bc BK5.out 1;have hfzw98_0:=blk_frozen BK5.out 0;have hfzw98_1:=blk_frozen BK5.out 1;have hczw98_0:=bc BK8.out 0;have hczw98_1:=bc BK8.out 1;have hczw98_2:=bc BK8.out 2;have hfzw98_0:=blk_frozen BK8.out 0;have hfzw98_1:=blk_frozen BK8.out 1;have hfzw98_2:=blk_frozen BK8.out 2;have hczw98_0:=bc BK14.out 0;have hczw98_1:=bc BK14.out 1;have hfzw98_0:=blk_frozen BK14.out 0;have hfzw98_1:=blk_frozen BK14.out 1)|(go_at_call 22;(with_reducible refine(laws_eqIntSS.calls k _ _ t59 _ _ t33 true _ ?side1 ?side2 ?side3 ?side4 A104.out).mono ?_);(case side1=>exact(Kd.S_reads' HOR61.out).2.2);(case side2=>(have e_:=Kd.S_reads' HOR61.out;rw[← e_.1];exact e_.2.1));(case side3=>exact(Kd.S_reads' HOR35.out).2.2);(case side4=>(have e_:=Kd.S_reads' HOR35.out;rw[← e_.1];exact e_.2.1));rintro e w103 ⟨rfl,hb0_⟩;have hb:=hb0_.below;clear hb0_;replace HOR17:=am (Kd.R_below HOR17.out hb);replace HOR21:=am (Kd.R_below HOR21.out hb);replace HOR25:=am (Kd.R_below HOR25.out hb);replace HOR35:=am (Kd.S_below HOR35.out hb);replace HOR40:=am (Kd.R_below HOR40.out hb);replace HOR46:=am (Kd.R_below HOR46.out hb);replace HOR50:=am (Kd.R_below HOR50.out hb);replace HOR61:=am (Kd.S_below HOR61.out hb);replace HOR70:=am (Kd.R_below HOR70.out hb);replace HOR77:=am (Kd.R_below HOR77.out hb);replace HOR84:=am (Kd.R_below HOR84.out hb);replace BK5:=am (blk_below BK5.out hb);replace BK8:=am (blk_below BK8.out hb);replace BK14:=am (blk_below BK14.out hb);replace HB:=am (below_step HB.out hb);have HMw103:=am ((hb.size:w98.heap.size≤w103.heap.size));(try clear hb);have hczw103_0:=bc BK5.out 0;have hczw103_1:=bc BK5.out 1;have hfzw103_0:=blk_frozen BK5.out 0;have hfzw103_1:=blk_frozen BK5.out 1;have hczw103_0:=bc BK8.out 0;have hczw103_1:=bc BK8.out 1;have hczw103_2:=bc BK8.out 2;have hfzw103_0:=blk_frozen BK8.out 0;have hfzw103_1:=blk_frozen BK8.out 1;have hfzw103_2:=blk_frozen BK8.out 2;have hczw103_0:=bc BK14.out 0;have hczw103_1:=bc BK14.out 1;have hfzw103_0:=blk_frozen BK14.out 0;have hfzw103_1:=blk_frozen BK14.out 1)|((with_reducible refine gate_callee (f:=26) rfl ?_);refine goesL_ (some 116) rfl rfl Try.func26 (by kernel_rfl) rfl #[.slice AR61 t59.length cR61,.int .i64 1] rfl (by(try simp only[List.map_toArray,List.map_cons,List.map_nil]);first|done|rfl) ?_;(with_reducible refine(laws_markIntSS.calls k (fun k_=>w52.heap.size≤k_∧k_<w57.heap.size) (.slice AR61 t59.length cR61) t59 1 t143 t109 w _ ?side1 ?side2 A107.out).mono ?_);(case side1=>exact HB.out);(case side2=>exact HOR61.out);rintro e w106 ⟨rfl,hy,hb,hkp⟩;refine⟨_,rfl,?_⟩;have m0_:=HMw1.out;have m1_:=HG5.out;have m2_:=HMw2.out;have m3_:=HG8.out;have m4_:=HMw3.out;have m5_:=HMw6.out;have m6_:=HMw9.out;have m7_:=HMw12.out;have m8_:=HMw13.out;have m9_:=HMw18.out;have m10_:=HMw22.out;have m11_:=HMw26.out;have m12_:=HMw31.out;have m13_:=HMw36.out;have m14_:=HMw41.out;have m15_:=HG14.out;have m16_:=HMw42.out;have m17_:=HMw43.out;have m18_:=HMw47.out;have m19_:=HMw51.out;have m20_:=HMw52.out;have m21_:=HMw57.out;have m22_:=HMw62.out;have m23_:=HMw65.out;have m24_:=HMw66.out;have m25_:=HMw71.out;have m26_:=HMw74.out;have m27_:=HMw78.out;have m28_:=HMw81.out;have m29_:=HMw85.out;have m30_:=HMw88.out;have m31_:=HMw93.out;have m32_:=HMw98.out;have m33_:=HMw103.out;replace HOR17:=am (Kd.R_kept HOR17.out hkp (fun k_ hz_ hs_=>by obtain⟨hz1_,hz2_⟩:=hz_;obtain⟨hs1_,hs2_⟩:=(hs_:w52.heap.size≤_∧_<w57.heap.size);omega));replace HOR21:=am (Kd.R_kept HOR21.out hkp (fun k_ hz_ hs_=>by obtain⟨hz1_,hz2_⟩:=hz_;obtain⟨hs1_,hs2_⟩:=(hs_:w52.heap.size≤_∧_<w57.heap.size);omega));replace HOR25:=am (Kd.R_kept HOR25.out hkp (fun k_ hz_ hs_=>by obtain⟨hz1_,hz2_⟩:=hz_;obtain⟨hs1_,hs2_⟩:=(hs_:w52.heap.size≤_∧_<w57.heap.size);omega));replace HOR35:=am (Kd.S_kept HOR35.out hkp (fun k_ hz_ hs_=>by obtain⟨hz1_,hz2_⟩:=hz_;obtain⟨hs1_,hs2_⟩:=(hs_:w52.heap.size≤_∧_<w57.heap.size);omega));replace HOR40:=am (Kd.R_kept HOR40.out hkp (fun k_ hz_ hs_=>by obtain⟨hz1_,hz2_⟩:=hz_;obtain⟨hs1_,hs2_⟩:=(hs_:w52.heap.size≤_∧_<w57.heap.size);omega));replace HOR46:=am (Kd.R_kept HOR46.out hkp (fun k_ hz_ hs_=>by obtain⟨hz1_,hz2_⟩:=hz_;obtain⟨hs1_,hs2_⟩:=(hs_:w52.heap.size≤_∧_<w57.heap.size);omega));replace HOR50:=am (Kd.R_kept HOR50.out hkp (fun k_ hz_ hs_=>by obtain⟨hz1_,hz2_⟩:=hz_;obtain⟨hs1_,hs2_⟩:=(hs_:w52.heap.size≤_∧_<w57.heap.size);omega));replace HOR70:=am (Kd.R_kept HOR70.out hkp (fun k_ hz_ hs_=>by obtain⟨hz1_,hz2_⟩:=hz_;obtain⟨hs1_,hs2_⟩:=(hs_:w52.heap.size≤_∧_<w57.heap.size);omega));replace HOR77:=am (Kd.R_kept HOR77.out hkp (fun k_ hz_ hs_=>by obtain⟨hz1_,hz2_⟩:=hz_;obtain⟨hs1_,hs2_⟩:=(hs_:w52.heap.size≤_∧_<w57.heap.size);omega));replace HOR84:=am (Kd.R_kept HOR84.out hkp (fun k_ hz_ hs_=>by obtain⟨hz1_,hz2_⟩:=hz_;obtain⟨hs1_,hs2_⟩:=(hs_:w52.heap.size≤_∧_<w57.heap.size);omega));replace BK5:=am (blk_kept BK5.out hkp (fun hs_=>by have:=GP5.out;obtain⟨hs1_,hs2_⟩:=(hs_:w52.heap.size≤_∧_<w57.heap.size);omega));replace BK8:=am (blk_kept BK8.out hkp (fun hs_=>by have:=GP8.out;obtain⟨hs1_,hs2_⟩:=(hs_:w52.heap.size≤_∧_<w57.heap.size);omega));replace BK14:=am (blk_kept BK14.out hkp (fun hs_=>by have:=GP14.out;obtain⟨hs1_,hs2_⟩:=(hs_:w52.heap.size≤_∧_<w57.heap.size);omega));replace HOR61:=am (hy);have HL110:=am (((Kd.S_reads' hy).1:t59.length=t109.length));replace HB:=am (hb);have HMw106:=am ((hkp.1:w103.heap.size≤w106.heap.size));clear m0_ m1_ m2_ m3_ m4_ m5_ m6_ m7_ m8_ m9_ m10_ m11_ m12_ m13_ m14_ m15_ m16_ m17_ m18_ m19_ m20_ m21_ m22_ m23_ m24_ m25_ m26_ m27_ m28_ m29_ m30_ m31_ m32_ m33_;(try clear hb);(try clear hkp);(try clear hy);have hczw106_0:=bc BK5.out 0;have hczw106_1:=bc BK5.out 1;have hfzw106_0:=blk_frozen BK5.out 0;have hfzw106_1:=blk_frozen BK5.out 1;have hczw106_0:=bc BK8.out 0;have hczw106_1:=bc BK8.out 1;have hczw106_2:=bc BK8.out 2;have hfzw106_0:=blk_frozen BK8.out 0;have hfzw106_1:=blk_frozen BK8.out 1;have hfzw106_2:=blk_frozen BK8.out 2;have hczw106_0:=bc BK14.out 0;have hczw106_1:=bc BK14.out 1;have hfzw106_0:=blk_frozen BK14.out 0;have hfzw106_1:=blk_frozen BK14.out 1)|((with_reducible refine gate_callee (f:=27) rfl ?_);refine goesL_ (some 119) rfl rfl Try.func27 (by kernel_rfl) rfl #[.slice AR61 t59.length cR61,.int .i64 1] rfl (by(try simp only[List.map_toArray,List.map_cons,List.map_nil]);first|done|rfl) ?_;refine calls_of_args (args' := #[.slice AR61 t109.length cR61,.int .i64 1]) (by rw[← HL110.out]) ?_;(with_reducible refine(laws_heldIntSS.calls k _ _ t109 1 t143 _ ?side1 ?side2 A112.out).mono ?_);(case side1=>exact(Kd.S_reads' HOR61.out).2.2);(case side2=>(have e_:=Kd.S_reads' HOR61.out;rw[← e_.1];exact e_.2.1));rintro e w111 ⟨rfl,hb0_⟩;have hb:=hb0_.below;clear hb0_;refine⟨_,rfl,?_⟩;replace HOR17:=am (Kd.R_below HOR17.out hb);replace HOR21:=am (Kd.R_below HOR21.out hb);replace HOR25:=am (Kd.R_below HOR25.out hb);replace HOR35:=am (Kd.S_below HOR35.out hb);replace HOR40:=am (Kd.R_below HOR40.out hb);replace HOR46:=am (Kd.R_below HOR46.out hb);replace HOR50:=am (Kd.R_below HOR50.out hb);replace HOR61:=am (Kd.S_below HOR61.out hb);replace HOR70:=am (Kd.R_below HOR70.out hb);replace HOR77:=am (Kd.R_below HOR77.out hb);replace HOR84:=am (Kd.R_below HOR84.out hb);replace BK5:=am (blk_below BK5.out hb);replace BK8:=am (blk_below BK8.out hb);replace BK14:=am (blk_below BK14.out hb);replace HB:=am (below_step HB.out hb);have HMw111:=am ((hb.size:w106.heap.size≤w111.heap.size));(try clear hb);have hczw111_0:=bc BK5.out 0;have hczw111_1:=bc BK5.out 1;have hfzw111_0:=blk_frozen BK5.out 0;have hfzw111_1:=blk_frozen BK5.out 1;have hczw111_0:=bc BK8.out 0;have hczw111_1:=bc BK8.out 1;have hczw111_2:=bc BK8.out 2;have hfzw111_0:=blk_frozen BK8.out 0;have hfzw111_1:=blk_frozen BK8.out 1;have hfzw111_2:=blk_frozen BK8.out 2;have hczw111_0:=bc BK14.out 0;have hczw111_1:=bc BK14.out 1;have hfzw111_0:=blk_frozen BK14.out 0;have hfzw111_1:=blk_frozen BK14.out 1))
    try go_wp2
    have hbd_:Below w111.heap.size w111 w111.drew:=below_drew1 (Below.refl _ _)
    replace HOR17:=am (Kd.R_below HOR17.out hbd_)
    replace HOR21:=am (Kd.R_below HOR21.out hbd_)
    replace HOR25:=am (Kd.R_below HOR25.out hbd_)
    replace HOR35:=am (Kd.S_below HOR35.out hbd_)
    replace HOR40:=am (Kd.R_below HOR40.out hbd_)
    replace HOR46:=am (Kd.R_below HOR46.out hbd_)
    replace HOR50:=am (Kd.R_below HOR50.out hbd_)
    replace HOR61:=am (Kd.S_below HOR61.out hbd_)
    replace HOR70:=am (Kd.R_below HOR70.out hbd_)
    replace HOR77:=am (Kd.R_below HOR77.out hbd_)
    replace HOR84:=am (Kd.R_below HOR84.out hbd_)
    replace BK5:=am (blk_below BK5.out hbd_)
    replace BK8:=am (blk_below BK8.out hbd_)
    replace BK14:=am (blk_below BK14.out hbd_)
    replace HB:=am (below_step HB.out hbd_)
    refine start_ (n:=15) (S:=fun w'=>w'.cell? ⟨gb5,0,none⟩=some (.slice A0_0 l0_0.length c0_0)∧w'.cell? ⟨gb5,1,none⟩=some (.int .i64 a0_1)∧w'.cell? ⟨gb8,0,none⟩=some (.int .i64 a3_0)∧w'.cell? ⟨gb8,1,none⟩=some (.int .i64 a3_1)∧w'.cell? ⟨gb8,2,none⟩=some (.int .i64 a3_2)) (ds:=[]) (fl 0 15) (by kernel_rfl) rfl rfl ⟨bc BK5.out 0,bc BK5.out 1,bc BK8.out 0,bc BK8.out 1,bc BK8.out 2⟩ (fun hHeld=>?_)
    have HMw114:Aside0 (w111.heap.size≤w111.drew.heap.size):=⟨Nat.le_refl _⟩
    clear hbd_
    generalize w111.drew=w114 at HOR17 HOR21 HOR25 HOR35 HOR40 HOR46 HOR50 HOR61 HOR70 HOR77 HOR84 BK5 BK8 BK14 HB HMw114 hHeld ⊢
    refine pk 2 (some 128) #[false,false,true,false,false,false,false,false,false,false,false,false,false,false,false] (h:=?_)
    refine pk 4 (some 130) #[false,false,true,false,true,false,false,false,false,false,false,false,false,false,false] (h:=?_)
    refine pk 8 (some 134) #[false,false,true,false,true,false,false,false,true,false,false,false,false,false,false] (h:=?_)
    refine tk 0 (some 126) #[true,false,true,false,true,false,false,false,true,false,false,false,false,false,false] hHeld rfl (by rintro w' ⟨s0,s1,s2,s3,s4⟩;go_simp;with_reducible rfl) (h:=?_)
    refine tk 6 (some 132) #[true,false,true,false,true,false,true,false,true,false,false,false,false,false,false] hHeld rfl (by rintro w' ⟨s0,s1,s2,s3,s4⟩;go_simp;with_reducible rfl) (h:=?_)
    refine one_ (i:=1) (N:=some 127) #[true,true,true,false,true,false,true,false,true,false,false,false,false,false,false] rfl rfl (by kernel_rfl) (by decide) (fun K hK=>?_)
    refine goes_ Try.func10 (by kernel_rfl) rfl #[.agg #[.slice A0_0 l0_0.length c0_0,.int .i64 a0_1]] (by rfl) rfl rfl (by(try simp only[List.map_toArray,List.map_cons,List.map_nil]);first|done|rfl) ?_
    (with_reducible refine(laws_toInstrument.calls k _ _ l0_0 a0_1 t117 t118 _ ?side1 ?side2 A116.out).mono ?_)
    (case side1=>exact Kd.C_below HR0_0.out HB.out)
    (case side2=>exact HC0_0.out)
    rintro e w115 ⟨vw115_0,rfl,ho0,hb⟩
    obtain⟨AR119,cR119,eo_⟩:=Kd.R_slice ho0
    subst eo_
    refine⟨_,rfl,?_⟩
    replace HOR17:=am (Kd.R_below HOR17.out hb)
    replace HOR21:=am (Kd.R_below HOR21.out hb)
    replace HOR25:=am (Kd.R_below HOR25.out hb)
    replace HOR35:=am (Kd.S_below HOR35.out hb)
    replace HOR40:=am (Kd.R_below HOR40.out hb)
    replace HOR46:=am (Kd.R_below HOR46.out hb)
    replace HOR50:=am (Kd.R_below HOR50.out hb)
    replace HOR61:=am (Kd.S_below HOR61.out hb)
    replace HOR70:=am (Kd.R_below HOR70.out hb)
    replace HOR77:=am (Kd.R_below HOR77.out hb)
    replace HOR84:=am (Kd.R_below HOR84.out hb)
    replace BK5:=am (blk_below BK5.out hb)
    replace BK8:=am (blk_below BK8.out hb)
    replace BK14:=am (blk_below BK14.out hb)
    have HOR119:=am (Kd.R_lower (Kd.R_mono (ok':=fun k_=>w114.heap.size≤k_∧k_<w115.heap.size) (Kd.R_bound ho0) (fun k_ hk_=>⟨hk_.2.1,hk_.2.2.1⟩)) (below_size HB.out))
    have HMw115:=am ((hb.size:w114.heap.size≤w115.heap.size))
    replace HB:=am (below_step HB.out hb)
    (try clear hb)
    (try clear ho0)
    have hczw115_0:=bc BK5.out 0
    have hczw115_1:=bc BK5.out 1
    have hfzw115_0:=blk_frozen BK5.out 0
    have hfzw115_1:=blk_frozen BK5.out 1
    have hczw115_0:=bc BK8.out 0
    have hczw115_1:=bc BK8.out 1
    have hczw115_2:=bc BK8.out 2
    have hfzw115_0:=blk_frozen BK8.out 0
    have hfzw115_1:=blk_frozen BK8.out 1
    have hfzw115_2:=blk_frozen BK8.out 2
    have hczw115_0:=bc BK14.out 0
    have hczw115_1:=bc BK14.out 1
    have hfzw115_0:=blk_frozen BK14.out 0
    have hfzw115_1:=blk_frozen BK14.out 1
    refine hK.out _ _ ⟨bc BK5.out 0,bc BK5.out 1,bc BK8.out 0,bc BK8.out 1,bc BK8.out 2⟩ (fun hHeld=>?_)
    clear hK K
    refine norm_ (a':=?_) ?_ ?_
    rotate_left
    (show Act.put _ (some 127) _=_;simp only[Act.put,List.setIfInBounds_toArray,List.set_cons_zero,List.set_cons_succ,i64_w,i32_w];rfl)
    refine one_ (i:=3) (N:=some 129) #[true,true,true,true,true,false,true,false,true,false,false,false,false,false,false] rfl rfl (by kernel_rfl) (by decide) (fun K hK=>?_)
    refine goes_ Try.func11 (by kernel_rfl) rfl #[.slice A1 l1.length c1] (by rfl) rfl rfl (by(try simp only[List.map_toArray,List.map_cons,List.map_nil]);first|done|rfl) ?_
    (with_reducible refine(laws_toNoteS.calls k _ _ l1 t122 _ ?side1 ?side2 A121.out).mono ?_)
    (case side1=>exact Kd.C_below HR1.out HB.out)
    (case side2=>exact HC1.out)
    rintro e w120 ⟨vw120_0,rfl,ho0,hb⟩
    obtain⟨AR123,cR123,eo_⟩:=Kd.R_slice ho0
    subst eo_
    refine⟨_,rfl,?_⟩
    replace HOR17:=am (Kd.R_below HOR17.out hb)
    replace HOR21:=am (Kd.R_below HOR21.out hb)
    replace HOR25:=am (Kd.R_below HOR25.out hb)
    replace HOR35:=am (Kd.S_below HOR35.out hb)
    replace HOR40:=am (Kd.R_below HOR40.out hb)
    replace HOR46:=am (Kd.R_below HOR46.out hb)
    replace HOR50:=am (Kd.R_below HOR50.out hb)
    replace HOR61:=am (Kd.S_below HOR61.out hb)
    replace HOR70:=am (Kd.R_below HOR70.out hb)
    replace HOR77:=am (Kd.R_below HOR77.out hb)
    replace HOR84:=am (Kd.R_below HOR84.out hb)
    replace HOR119:=am (Kd.R_below HOR119.out hb)
    replace BK5:=am (blk_below BK5.out hb)
    replace BK8:=am (blk_below BK8.out hb)
    replace BK14:=am (blk_below BK14.out hb)
    have HOR123:=am (Kd.R_lower (Kd.R_mono (ok':=fun k_=>w115.heap.size≤k_∧k_<w120.heap.size) (Kd.R_bound ho0) (fun k_ hk_=>⟨hk_.2.1,hk_.2.2.1⟩)) (below_size HB.out))
    have HMw120:=am ((hb.size:w115.heap.size≤w120.heap.size))
    replace HB:=am (below_step HB.out hb)
    (try clear hb)
    (try clear ho0)
    have hczw120_0:=bc BK5.out 0
    have hczw120_1:=bc BK5.out 1
    have hfzw120_0:=blk_frozen BK5.out 0
    have hfzw120_1:=blk_frozen BK5.out 1
    have hczw120_0:=bc BK8.out 0
    have hczw120_1:=bc BK8.out 1
    have hczw120_2:=bc BK8.out 2
    have hfzw120_0:=blk_frozen BK8.out 0
    have hfzw120_1:=blk_frozen BK8.out 1
    have hfzw120_2:=blk_frozen BK8.out 2
    have hczw120_0:=bc BK14.out 0
    have hczw120_1:=bc BK14.out 1
    have hfzw120_0:=blk_frozen BK14.out 0
    have hfzw120_1:=blk_frozen BK14.out 1
    refine hK.out _ _ ⟨bc BK5.out 0,bc BK5.out 1,bc BK8.out 0,bc BK8.out 1,bc BK8.out 2⟩ (fun hHeld=>?_)
    clear hK K
    refine norm_ (a':=?_) ?_ ?_
    rotate_left
    (show Act.put _ (some 129) _=_;simp only[Act.put,List.setIfInBounds_toArray,List.set_cons_zero,List.set_cons_succ,i64_w,i32_w];rfl)
    refine one_ (i:=5) (N:=some 131) #[true,true,true,true,true,true,true,false,true,false,false,false,false,false,false] rfl rfl (by kernel_rfl) (by decide) (fun K hK=>?_)
    refine goes_ Try.func12 (by kernel_rfl) rfl #[.slice A2 l2.length c2] (by rfl) rfl rfl (by(try simp only[List.map_toArray,List.map_cons,List.map_nil]);first|done|rfl) ?_
    (with_reducible refine(laws_toHoleS.calls k _ _ l2 t126 _ ?side1 ?side2 A125.out).mono ?_)
    (case side1=>exact Kd.C_below HR2.out HB.out)
    (case side2=>exact HC2.out)
    rintro e w124 ⟨vw124_0,rfl,ho0,hb⟩
    obtain⟨AR127,cR127,eo_⟩:=Kd.R_slice ho0
    subst eo_
    refine⟨_,rfl,?_⟩
    replace HOR17:=am (Kd.R_below HOR17.out hb)
    replace HOR21:=am (Kd.R_below HOR21.out hb)
    replace HOR25:=am (Kd.R_below HOR25.out hb)
    replace HOR35:=am (Kd.S_below HOR35.out hb)
    replace HOR40:=am (Kd.R_below HOR40.out hb)
    replace HOR46:=am (Kd.R_below HOR46.out hb)
    replace HOR50:=am (Kd.R_below HOR50.out hb)
    replace HOR61:=am (Kd.S_below HOR61.out hb)
    replace HOR70:=am (Kd.R_below HOR70.out hb)
    replace HOR77:=am (Kd.R_below HOR77.out hb)
    replace HOR84:=am (Kd.R_below HOR84.out hb)
    replace HOR119:=am (Kd.R_below HOR119.out hb)
    replace HOR123:=am (Kd.R_below HOR123.out hb)
    replace BK5:=am (blk_below BK5.out hb)
    replace BK8:=am (blk_below BK8.out hb)
    replace BK14:=am (blk_below BK14.out hb)
    have HOR127:=am (Kd.R_lower (Kd.R_mono (ok':=fun k_=>w120.heap.size≤k_∧k_<w124.heap.size) (Kd.R_bound ho0) (fun k_ hk_=>⟨hk_.2.1,hk_.2.2.1⟩)) (below_size HB.out))
    have HMw124:=am ((hb.size:w120.heap.size≤w124.heap.size))
    replace HB:=am (below_step HB.out hb)
    (try clear hb)
    (try clear ho0)
    have hczw124_0:=bc BK5.out 0
    have hczw124_1:=bc BK5.out 1
    have hfzw124_0:=blk_frozen BK5.out 0
    have hfzw124_1:=blk_frozen BK5.out 1
    have hczw124_0:=bc BK8.out 0
    have hczw124_1:=bc BK8.out 1
    have hczw124_2:=bc BK8.out 2
    have hfzw124_0:=blk_frozen BK8.out 0
    have hfzw124_1:=blk_frozen BK8.out 1
    have hfzw124_2:=blk_frozen BK8.out 2
    have hczw124_0:=bc BK14.out 0
    have hczw124_1:=bc BK14.out 1
    have hfzw124_0:=blk_frozen BK14.out 0
    have hfzw124_1:=blk_frozen BK14.out 1
    refine hK.out _ _ ⟨bc BK5.out 0,bc BK5.out 1,bc BK8.out 0,bc BK8.out 1,bc BK8.out 2⟩ (fun hHeld=>?_)
    clear hK K
    refine norm_ (a':=?_) ?_ ?_
    rotate_left
    (show Act.put _ (some 131) _=_;simp only[Act.put,List.setIfInBounds_toArray,List.set_cons_zero,List.set_cons_succ,i64_w,i32_w];rfl)
    refine one_ (i:=7) (N:=some 133) (fl 9 15) rfl rfl (by kernel_rfl) (by decide) (fun K hK=>?_)
    refine goes_ Try.func13 (by kernel_rfl) rfl #[.agg #[.int .i64 a3_0,.int .i64 a3_1,.int .i64 a3_2]] (by rfl) rfl rfl (by(try simp only[List.map_toArray,List.map_cons,List.map_nil]);first|done|rfl) ?_
    (with_reducible refine(laws_toAction.calls a3_0 a3_1 a3_2 t130 t131 t132 _ A129.out).mono ?_)
    rintro e w128 ⟨rfl,hb0_⟩
    have hb:=hb0_
    clear hb0_
    refine⟨_,rfl,?_⟩
    replace HOR17:=am (Kd.R_below HOR17.out hb)
    replace HOR21:=am (Kd.R_below HOR21.out hb)
    replace HOR25:=am (Kd.R_below HOR25.out hb)
    replace HOR35:=am (Kd.S_below HOR35.out hb)
    replace HOR40:=am (Kd.R_below HOR40.out hb)
    replace HOR46:=am (Kd.R_below HOR46.out hb)
    replace HOR50:=am (Kd.R_below HOR50.out hb)
    replace HOR61:=am (Kd.S_below HOR61.out hb)
    replace HOR70:=am (Kd.R_below HOR70.out hb)
    replace HOR77:=am (Kd.R_below HOR77.out hb)
    replace HOR84:=am (Kd.R_below HOR84.out hb)
    replace HOR119:=am (Kd.R_below HOR119.out hb)
    replace HOR123:=am (Kd.R_below HOR123.out hb)
    replace HOR127:=am (Kd.R_below HOR127.out hb)
    replace BK5:=am (blk_below BK5.out hb)
    replace BK8:=am (blk_below BK8.out hb)
    replace BK14:=am (blk_below BK14.out hb)
    replace HB:=am (below_step HB.out hb)
    have HMw128:=am ((hb.size:w124.heap.size≤w128.heap.size))
    (try clear hb)
    have hczw128_0:=bc BK5.out 0
    have hczw128_1:=bc BK5.out 1
    have hfzw128_0:=blk_frozen BK5.out 0
    have hfzw128_1:=blk_frozen BK5.out 1
    have hczw128_0:=bc BK8.out 0
    have hczw128_1:=bc BK8.out 1
    have hczw128_2:=bc BK8.out 2
    have hfzw128_0:=blk_frozen BK8.out 0
    have hfzw128_1:=blk_frozen BK8.out 1
    have hfzw128_2:=blk_frozen BK8.out 2
    have hczw128_0:=bc BK14.out 0
    have hczw128_1:=bc BK14.out 1
    have hfzw128_0:=blk_frozen BK14.out 0
    have hfzw128_1:=blk_frozen BK14.out 1
    refine hK.out _ _ ⟨bc BK5.out 0,bc BK5.out 1,bc BK8.out 0,bc BK8.out 1,bc BK8.out 2⟩ (fun hHeld=>?_)
    clear hK K
    refine norm_ (a':=?_) ?_ ?_
    rotate_left
    (show Act.put _ (some 133) _=_;simp only[Act.put,List.setIfInBounds_toArray,List.set_cons_zero,List.set_cons_succ,i64_w,i32_w];rfl)
    refine one_ (i:=9) (N:=some 135) (fl 10 15) rfl rfl (by kernel_rfl) (by decide) (fun K hK=>?_)
    refine goes_ Try.func21 (by kernel_rfl) rfl #[.agg #[.slice AR119 t117.length cR119,.int .i64 t118],.slice AR123 t122.length cR123,.slice AR127 t126.length cR127,.agg #[.int .i64 t130,.int .i64 t131,.int .i64 t132],.int .i64 a4] (by rfl) rfl rfl (by(try simp only[List.map_toArray,List.map_cons,List.map_nil]);first|done|rfl) ?_
    (with_reducible refine(impl_FaultsOf.calls k _ _ t117 t118 _ _ t122 _ _ t126 t130 t131 t132 a4 t135 t136 _ ?side1 ?side2 ?side3 ?side4 ?side5 ?side6 A134.out).mono ?_)
    (case side1=>exact(Kd.R_reads' HOR119.out).2.2)
    (case side2=>(have e_:=Kd.R_reads' HOR119.out;rw[← e_.1];exact e_.2.1))
    (case side3=>exact(Kd.R_reads' HOR123.out).2.2)
    (case side4=>(have e_:=Kd.R_reads' HOR123.out;rw[← e_.1];exact e_.2.1))
    (case side5=>exact(Kd.R_reads' HOR127.out).2.2)
    (case side6=>(have e_:=Kd.R_reads' HOR127.out;rw[← e_.1];exact e_.2.1))
    rintro e w133 ⟨vw133_0,rfl,ho0,hb⟩
    obtain⟨AR137,cR137,eo_⟩:=Kd.S_slice ho0
    subst eo_
    refine⟨_,rfl,?_⟩
    replace HOR17:=am (Kd.R_below HOR17.out hb)
    replace HOR21:=am (Kd.R_below HOR21.out hb)
    replace HOR25:=am (Kd.R_below HOR25.out hb)
    replace HOR35:=am (Kd.S_below HOR35.out hb)
    replace HOR40:=am (Kd.R_below HOR40.out hb)
    replace HOR46:=am (Kd.R_below HOR46.out hb)
    replace HOR50:=am (Kd.R_below HOR50.out hb)
    replace HOR61:=am (Kd.S_below HOR61.out hb)
    replace HOR70:=am (Kd.R_below HOR70.out hb)
    replace HOR77:=am (Kd.R_below HOR77.out hb)
    replace HOR84:=am (Kd.R_below HOR84.out hb)
    replace HOR119:=am (Kd.R_below HOR119.out hb)
    replace HOR123:=am (Kd.R_below HOR123.out hb)
    replace HOR127:=am (Kd.R_below HOR127.out hb)
    replace BK5:=am (blk_below BK5.out hb)
    replace BK8:=am (blk_below BK8.out hb)
    replace BK14:=am (blk_below BK14.out hb)
    have HOR137:=am (Kd.S_lower (Kd.S_mono (ok':=fun k_=>w128.heap.size≤k_∧k_<w133.heap.size) (Kd.S_bound ho0) (fun k_ hk_=>⟨hk_.2.1,hk_.2.2.1⟩)) (below_size HB.out))
    have HMw133:=am ((hb.size:w128.heap.size≤w133.heap.size))
    replace HB:=am (below_step HB.out hb)
    (try clear hb)
    (try clear ho0)
    have hczw133_0:=bc BK5.out 0
    have hczw133_1:=bc BK5.out 1
    have hfzw133_0:=blk_frozen BK5.out 0
    have hfzw133_1:=blk_frozen BK5.out 1
    have hczw133_0:=bc BK8.out 0
    have hczw133_1:=bc BK8.out 1
    have hczw133_2:=bc BK8.out 2
    have hfzw133_0:=blk_frozen BK8.out 0
    have hfzw133_1:=blk_frozen BK8.out 1
    have hfzw133_2:=blk_frozen BK8.out 2
    have hczw133_0:=bc BK14.out 0
    have hczw133_1:=bc BK14.out 1
    have hfzw133_0:=blk_frozen BK14.out 0
    have hfzw133_1:=blk_frozen BK14.out 1
    refine hK.out _ _ ⟨bc BK5.out 0,bc BK5.out 1,bc BK8.out 0,bc BK8.out 1,bc BK8.out 2⟩ (fun hHeld=>?_)
    clear hK K
    refine norm_ (a':=?_) ?_ ?_
    rotate_left
    (show Act.put _ (some 135) _=_;simp only[Act.put,List.setIfInBounds_toArray,List.set_cons_zero,List.set_cons_succ,i64_w,i32_w];rfl)
    refine pk 10 (some 125) (fl 11 15) (h:=?_)
    refine pk 11 (some 136) (fl 12 15) (h:=?_)
    refine pk 12 (some 137) (fl 13 15) (h:=?_)
    refine pk 13 (some 22) (fl 14 15) (h:=?_)
    refine pk 14 (some 23) (fl 15 15) (h:=?_)
    refine done_ (by kernel_rfl) ?_
    go_wp2_with (first|((with_reducible refine gate_callee (f:=22) rfl ?_);refine goesL_ (some 140) rfl rfl Try.func22 (by kernel_rfl) rfl #[.slice AR137 t135.length cR137,.slice AR35 t33.length cR35] rfl (by(try simp only[List.map_toArray,List.map_cons,List.map_nil]);first|done|rfl) ?_;(with_reducible refine(laws_eqIntSS.calls k _ _ t135 _ _ t33 true _ ?side1 ?side2 ?side3 ?side4 A139.out).mono ?_);(case side1=>exact(Kd.S_reads' HOR137.out).2.2);(case side2=>(have e_:=Kd.S_reads' HOR137.out;rw[← e_.1];exact e_.2.1));(case side3=>exact(Kd.S_reads' HOR35.out).2.2);(case side4=>(have e_:=Kd.S_reads' HOR35.out;rw[← e_.1];exact e_.2.1));rintro e w138 ⟨rfl,hb0_⟩;have hb:=hb0_.below;clear hb0_;refine⟨_,rfl,?_⟩;replace HOR17:=am (Kd.R_below HOR17.out hb);replace HOR21:=am (Kd.R_below HOR21.out hb);replace HOR25:=am (Kd.R_below HOR25.out hb);replace HOR35:=am (Kd.S_below HOR35.out hb);replace HOR40:=am (Kd.R_below HOR40.out hb);replace HOR46:=am (Kd.R_below HOR46.out hb);replace HOR50:=am (Kd.R_below HOR50.out hb);replace HOR61:=am (Kd.S_below HOR61.out hb);replace HOR70:=am (Kd.R_below HOR70.out hb);replace HOR77:=am (Kd.R_below HOR77.out hb);replace HOR84:=am (Kd.R_below HOR84.out hb);replace HOR119:=am (Kd.R_below HOR119.out hb);replace HOR123:=am (Kd.R_below HOR123.out hb);replace HOR127:=am (Kd.R_below HOR127.out hb);replace HOR137:=am (Kd.S_below HOR137.out hb);replace BK5:=am (blk_below BK5.out hb);replace BK8:=am (blk_below BK8.out hb);replace BK14:=am (blk_below BK14.out hb);replace HB:=am (below_step HB.out hb);have HMw138:=am ((hb.size:w133.heap.size≤w138.heap.size));(try clear hb);have hczw138_0:=bc BK5.out 0;have hczw138_1:=bc BK5.out 1;have hfzw138_0:=blk_frozen BK5.out 0;have hfzw138_1:=blk_frozen BK5.out 1;have hczw138_0:=bc BK8.out 0;have hczw138_1:=bc BK8.out 1;have hczw138_2:=bc BK8.out 2;have hfzw138_0:=blk_frozen BK8.out 0;have hfzw138_1:=blk_frozen BK8.out 1;have hfzw138_2:=blk_frozen BK8.out 2;have hczw138_0:=bc BK14.out 0;have hczw138_1:=bc BK14.out 1;have hfzw138_0:=blk_frozen BK14.out 0;have hfzw138_1:=blk_frozen BK14.out 1)|((with_reducible refine gate_callee (f:=27) rfl ?_);refine goesL_ (some 149) rfl rfl Try.func27 (by kernel_rfl) rfl #[.slice AR61 t59.length cR61,.int .i64 1] rfl (by(try simp only[List.map_toArray,List.map_cons,List.map_nil]);first|done|rfl) ?_;refine calls_of_args (args' := #[.slice AR61 t109.length cR61,.int .i64 1]) (by rw[← HL110.out]) ?_;(with_reducible refine(laws_heldIntSS.calls k _ _ t109 1 t143 _ ?side1 ?side2 A142.out).mono ?_);(case side1=>exact(Kd.S_reads' HOR61.out).2.2);(case side2=>(have e_:=Kd.S_reads' HOR61.out;rw[← e_.1];exact e_.2.1));rintro e w141 ⟨rfl,hb0_⟩;have hb:=hb0_.below;clear hb0_;refine⟨_,rfl,?_⟩;replace HOR17:=am (Kd.R_below HOR17.out hb);replace HOR21:=am (Kd.R_below HOR21.out hb);replace HOR25:=am (Kd.R_below HOR25.out hb);replace HOR35:=am (Kd.S_below HOR35.out hb);replace HOR40:=am (Kd.R_below HOR40.out hb);replace HOR46:=am (Kd.R_below HOR46.out hb);replace HOR50:=am (Kd.R_below HOR50.out hb);replace HOR61:=am (Kd.S_below HOR61.out hb);replace HOR70:=am (Kd.R_below HOR70.out hb);replace HOR77:=am (Kd.R_below HOR77.out hb);replace HOR84:=am (Kd.R_below HOR84.out hb);replace HOR119:=am (Kd.R_below HOR119.out hb);replace HOR123:=am (Kd.R_below HOR123.out hb);replace HOR127:=am (Kd.R_below HOR127.out hb);replace HOR137:=am (Kd.S_below HOR137.out hb);replace BK5:=am (blk_below BK5.out hb);replace BK8:=am (blk_below BK8.out hb);replace BK14:=am (blk_below BK14.out hb);replace HB:=am (below_step HB.out hb);have HMw141:=am ((hb.size:w138.heap.size≤w141.heap.size));(try clear hb);have hczw141_0:=bc BK5.out 0;have hczw141_1:=bc BK5.out 1;have hfzw141_0:=blk_frozen BK5.out 0;have hfzw141_1:=blk_frozen BK5.out 1;have hczw141_0:=bc BK8.out 0;have hczw141_1:=bc BK8.out 1;have hczw141_2:=bc BK8.out 2;have hfzw141_0:=blk_frozen BK8.out 0;have hfzw141_1:=blk_frozen BK8.out 1;have hfzw141_2:=blk_frozen BK8.out 2;have hczw141_0:=bc BK14.out 0;have hczw141_1:=bc BK14.out 1;have hfzw141_0:=blk_frozen BK14.out 0;have hfzw141_1:=blk_frozen BK14.out 1))
    go_ret
    exact⟨rfl,HB.out⟩
end Go.Proofs.Ytipklbjbgbbgpaa.PFnExactFaultsOf
