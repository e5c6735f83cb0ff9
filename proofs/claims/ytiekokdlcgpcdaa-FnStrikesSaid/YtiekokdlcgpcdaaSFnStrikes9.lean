/- Walks of functions that FnStrikes reaches. No conditions beyond the arguments' being read. -/
import Derived.Test.YtiekokdlcgpcdaaSFnStrikes0
import Derived.Test.YtiekokdlcgpcdaaSFnStrikes1
import Derived.Test.YtiekokdlcgpcdaaSFnStrikes2
import Derived.Test.YtiekokdlcgpcdaaSFnStrikes5
import Derived.Test.YtiekokdlcgpcdaaSFnStrikes6
namespace Go.Proofs.Ytiekokdlcgpcdaa.PFnStrikes
open Go.RowKit Go.Proofs.YtiekokdlcgpcdaaW.PrintWords Go.Proofs.YtiekokdlcgpcdaaW.PrintLast Go.Proofs.YtiekokdlcgpcdaaW.PrintMore
attribute [local go_sem] max2_int min2_int max_two min_two max_three min_three max_four min_four
set_option linter.unusedVariables false
set_option linter.unusedSimpArgs false

def spec_GreatestRest.l0:Nat→List (S41)→List (S45)→Int→Option (Int×Bool)
 | 0,_,_,_=>none
 | k+1,x0,x1,x6=>if x6>0 then((spec_coGive.f k x0 x1 x6).bind fun bt404=>(if bt404.2=true then(some (x6,true)) else(spec_GreatestRest.l0 k x0 x1 (wrap64 (x6 - 1))))) else(some (0,false))
def spec_GreatestRest.f (k:Nat) (l0:List (S41)) (l1:List (S45)):Option (Int×Bool):=(spec_coAsked.f k l0 l1 1).bind fun t403=>(if t403=true then(spec_GreatestRest.l0 k l0 l1 200) else(some (0,false)))
set_option maxHeartbeats 8000000 in
set_option maxRecDepth 100000 in
theorem spec_GreatestRest.calls (k:Nat) (A0:Option Addr) (c0:Nat) (l0:List (S41)) (A1:Option Addr) (c1:Nat) (l1:List (S45)) (r1:Int) (r2:Bool) (w:World) (hr0:Kd.C k41 w A0 l0.length l0) (hc0:l0.length≤c0) (hr1:Kd.C k45 w A1 l1.length l1) (hc1:l1.length≤c1) (h:spec_GreatestRest.f k l0 l1=some (r1,r2)) :
  Calls Try.prog 11 #[.slice A0 l0.length c0,.slice A1 l1.length c1] w fun e w'=>e = .returned (.tuple #[.int .i64 r1,.bool r2])∧Below w.heap.size w w':=by
 have HR0:=am hr0
 have HC0:=am hc0
 clear hr0 hc0
 have HR1:=am hr1
 have HC1:=am hc1
 clear hr1 hc1
 have HB:=am (Below.refl w.heap.size w)
 have H:((spec_coAsked.f k l0 l1 1).bind fun t403=>(if t403=true then(spec_GreatestRest.l0 k l0 l1 200) else(some (0,false))))=some (r1,r2):=h
 clear h
 replace H:=Option.bind_eq_some_iff.mp H
 obtain⟨t403,A30,H⟩:=H
 replace H:(if t403=true then(spec_GreatestRest.l0 k l0 l1 200) else(some (0,false)))=some (r1,r2):=H
 have A3:=am A30
 clear A30
 by_cases c4:t403=true
 ·subst c4
  replace H:=(if_pos rfl).symm.trans H
  have H':=am H
  clear H
  go_enter Try.func11,Try.ntmps11
  go_wp2_with (first|((with_reducible refine gate_callee (f:=26) rfl ?_);refine goesL_ (some 11) rfl rfl Try.func26 (by kernel_rfl) rfl #[.slice A0 l0.length c0,.slice A1 l1.length c1,.int .i64 1] rfl tl ?_;(with_reducible refine(spec_coAsked.calls k _ _ l0 _ _ l1 1 true _ ?side1 ?side2 ?side3 ?side4 A3.out).mono ?_);(case side1=>repeat(first|exact HR0.out|(with_reducible refine Kd.C_alloc ?_ _)|(with_reducible refine Kd.C_drewN ?_ _)|(with_reducible refine Kd.C_drew ?_)));(case side2=>exact HC0.out);(case side3=>repeat(first|exact HR1.out|(with_reducible refine Kd.C_alloc ?_ _)|(with_reducible refine Kd.C_drewN ?_ _)|(with_reducible refine Kd.C_drew ?_)));(case side4=>exact HC1.out);rintro e w5 ⟨rfl,hb⟩;refine⟨_,rfl,?_⟩;replace HB:=am (below_step bl hb);(try clear hb)))
  go_loopg [6] k (fun kq v6 w'=>∃(x6_1:Int),v6 = .int .i64 x6_1∧Aside0 (spec_GreatestRest.l0 kq l0 l1 x6_1=some (r1,r2))∧Aside0 (kq≤k)∧Aside0 (Below w.heap.size w w'))
  case atStart=>exact⟨(200),fin2,H',⟨Nat.le_refl _⟩,⟨bl⟩⟩
  case round =>
   clear H'
   try clear c4
   obtain⟨x6_1,rfl,HA,HK1,HB⟩:=hrel
   cases gk with
   | zero=>exact absurd HA.out (by simp [spec_GreatestRest.l0])
   | succ k1 =>
    have H:=HA.out
    clear HA
    simp only[spec_GreatestRest.l0] at H
    rcases itc H with⟨c6,H⟩|⟨c6,H⟩
    ·have c6b0:decide (0<x6_1)=true:=decide_eq_true c6
     clear c6
     replace H:=Option.bind_eq_some_iff.mp H
     obtain⟨⟨t404,t405⟩,A70,H⟩:=H
     replace H:(if t405=true then(some (x6_1,true)) else(spec_GreatestRest.l0 k1 l0 l1 (wrap64 (x6_1 - 1))))=some (r1,r2):=H
     have A7:=am A70
     clear A70
     by_cases c8:t405=true
     ·subst c8
      replace H:=(if_pos rfl).symm.trans H
      simp only[Option.some.injEq,Prod.mk.injEq] at H
      obtain⟨rfl,rfl⟩:=H
      go_wp2_with (first|((with_reducible refine gate_callee (f:=27) rfl ?_);refine goesL_ (some 21) rfl rfl Try.func27 (by kernel_rfl) rfl #[.slice A0 l0.length c0,.slice A1 l1.length c1,.int .i64 x6_1] rfl tl ?_;(with_reducible refine(spec_coGive.calls k1 _ _ l0 _ _ l1 x6_1 t404 true _ ?side1 ?side2 ?side3 ?side4 A7.out).mono ?_);(case side1=>exact cup (Kd.C_below HR0.out HB.out));(case side2=>exact HC0.out);(case side3=>exact cup (Kd.C_below HR1.out HB.out));(case side4=>exact HC1.out);rintro e w9 ⟨v406,rfl,ho0,hb⟩;refine⟨_,rfl,?_⟩;have HO407:=am (Kd.R_lower ho0 (below_size bl));replace HB:=am (below_step bl hb);(try clear hb);(try clear ho0)))
      go_ret2
      exact⟨fin1,bl⟩
     ·replace c8:=Bool.eq_false_iff.mpr c8
      subst c8
      replace H:=(if_neg Bool.false_ne_true).symm.trans H
      have H':=am H
      clear H
      go_wp2_with (first|((with_reducible refine gate_callee (f:=27) rfl ?_);refine goesL_ (some 21) rfl rfl Try.func27 (by kernel_rfl) rfl #[.slice A0 l0.length c0,.slice A1 l1.length c1,.int .i64 x6_1] rfl tl ?_;(with_reducible refine(spec_coGive.calls k1 _ _ l0 _ _ l1 x6_1 t404 false _ ?side1 ?side2 ?side3 ?side4 A7.out).mono ?_);(case side1=>exact cup (Kd.C_below HR0.out HB.out));(case side2=>exact HC0.out);(case side3=>exact cup (Kd.C_below HR1.out HB.out));(case side4=>exact HC1.out);rintro e w10 ⟨v406,rfl,ho0,hb⟩;refine⟨_,rfl,?_⟩;have HO407:=am (Kd.R_lower ho0 (below_size bl));replace HB:=am (below_step bl hb);(try clear hb);(try clear ho0)))
      go_roundg k1
      case measure=>have:=HK1.out;omega
      case rel=>exact⟨(wrap64 (x6_1 - 1)),fin2,H',⟨by have:=HK1.out;omega⟩,⟨bl⟩⟩
    ·have c6b0:decide (0<x6_1)=false:=decide_eq_false c6
     clear c6
     simp only[Option.some.injEq,Prod.mk.injEq] at H
     obtain⟨rfl,rfl⟩:=H
     go_wp2
     go_ret2
     exact⟨fin1,bl⟩
 ·replace c4:=Bool.eq_false_iff.mpr c4
  subst c4
  replace H:=(if_neg Bool.false_ne_true).symm.trans H
  simp only[Option.some.injEq,Prod.mk.injEq] at H
  obtain⟨rfl,rfl⟩:=H
  go_enter Try.func11,Try.ntmps11
  go_wp2_with (first|((with_reducible refine gate_callee (f:=26) rfl ?_);refine goesL_ (some 11) rfl rfl Try.func26 (by kernel_rfl) rfl #[.slice A0 l0.length c0,.slice A1 l1.length c1,.int .i64 1] rfl tl ?_;(with_reducible refine(spec_coAsked.calls k _ _ l0 _ _ l1 1 false _ ?side1 ?side2 ?side3 ?side4 A3.out).mono ?_);(case side1=>repeat(first|exact HR0.out|(with_reducible refine Kd.C_alloc ?_ _)|(with_reducible refine Kd.C_drewN ?_ _)|(with_reducible refine Kd.C_drew ?_)));(case side2=>exact HC0.out);(case side3=>repeat(first|exact HR1.out|(with_reducible refine Kd.C_alloc ?_ _)|(with_reducible refine Kd.C_drewN ?_ _)|(with_reducible refine Kd.C_drew ?_)));(case side4=>exact HC1.out);rintro e w11 ⟨rfl,hb⟩;refine⟨_,rfl,?_⟩;replace HB:=am (below_step bl hb);(try clear hb)))
  go_ret2
  exact⟨fin1,bl⟩

def spec_DrawDampersNeeded.f (k:Nat) (l0:List Int):Option ((List (S41))×(List (S45))×Int×Int):=(spec_l1Cur_comb.f k l0 0 0).bind fun bt409=>((spec_l1Cur_strikes.f k l0 bt409.2.1 bt409.2.2 bt409.1).bind fun bt414=>((spec_l1Cur_restOf.f l0 bt414.2.1 bt414.2.2).bind fun bt419=>((spec_l1Cur_among.f l0 bt419.2.1 bt419.2.2 (([0,501]:List Int))).bind fun bt425=>((spec_l1Cur_among.f l0 bt425.2.1 bt425.2.2 (([1,5,10,40,500,bt425.1]:List Int))).bind fun bt431=>(some (bt409.1,bt414.1,bt419.1,bt431.1))))))
set_option maxHeartbeats 8000000 in
set_option maxRecDepth 100000 in
theorem spec_DrawDampersNeeded.calls (k:Nat) (A0:Option Addr) (c0:Nat) (l0:List Int) (r1:List (S41)) (r2:List (S45)) (r3:Int) (r4:Int) (w:World) (hr0:Kd.C (Kd.int .u8) w A0 l0.length l0) (hc0:l0.length≤c0) (h:spec_DrawDampersNeeded.f k l0=some (r1,r2,r3,r4)) :
  Calls Try.prog 12 #[.slice A0 l0.length c0] w fun e w'=>∃ v0_ v1_:Value,e = .returned (.tuple #[v0_,v1_,.int .i64 r3,.int .i64 r4])∧Kd.R k41 41 w' w.heap.size (fun _=>True) v0_ r1∧Kd.R k45 45 w' w.heap.size (fun _=>True) v1_ r2∧Below w.heap.size w w':=by
 have hu50:=Try.underlying50
 have HR0:=am hr0
 have HC0:=am hc0
 clear hr0 hc0
 have HB:=am (Below.refl w.heap.size w)
 have H:((spec_l1Cur_comb.f k l0 0 0).bind fun bt409=>((spec_l1Cur_strikes.f k l0 bt409.2.1 bt409.2.2 bt409.1).bind fun bt414=>((spec_l1Cur_restOf.f l0 bt414.2.1 bt414.2.2).bind fun bt419=>((spec_l1Cur_among.f l0 bt419.2.1 bt419.2.2 (([0,501]:List Int))).bind fun bt425=>((spec_l1Cur_among.f l0 bt425.2.1 bt425.2.2 (([1,5,10,40,500,bt425.1]:List Int))).bind fun bt431=>(some (bt409.1,bt414.1,bt419.1,bt431.1)))))))=some (r1,r2,r3,r4):=h
 clear h
 replace H:=Option.bind_eq_some_iff.mp H
 obtain⟨⟨t409,t412,t413⟩,A20,H⟩:=H
 replace H:((spec_l1Cur_strikes.f k l0 t412 t413 t409).bind fun bt414=>((spec_l1Cur_restOf.f l0 bt414.2.1 bt414.2.2).bind fun bt419=>((spec_l1Cur_among.f l0 bt419.2.1 bt419.2.2 (([0,501]:List Int))).bind fun bt425=>((spec_l1Cur_among.f l0 bt425.2.1 bt425.2.2 (([1,5,10,40,500,bt425.1]:List Int))).bind fun bt431=>(some (t409,bt414.1,bt419.1,bt431.1))))))=some (r1,r2,r3,r4):=H
 have A2:=am A20
 clear A20
 replace H:=Option.bind_eq_some_iff.mp H
 obtain⟨⟨t414,t417,t418⟩,A30,H⟩:=H
 replace H:((spec_l1Cur_restOf.f l0 t417 t418).bind fun bt419=>((spec_l1Cur_among.f l0 bt419.2.1 bt419.2.2 (([0,501]:List Int))).bind fun bt425=>((spec_l1Cur_among.f l0 bt425.2.1 bt425.2.2 (([1,5,10,40,500,bt425.1]:List Int))).bind fun bt431=>(some (t409,t414,bt419.1,bt431.1)))))=some (r1,r2,r3,r4):=H
 have A3:=am A30
 clear A30
 replace H:=Option.bind_eq_some_iff.mp H
 obtain⟨⟨t419,t420,t421⟩,A40,H⟩:=H
 replace H:((spec_l1Cur_among.f l0 t420 t421 (([0,501]:List Int))).bind fun bt425=>((spec_l1Cur_among.f l0 bt425.2.1 bt425.2.2 (([1,5,10,40,500,bt425.1]:List Int))).bind fun bt431=>(some (t409,t414,t419,bt431.1))))=some (r1,r2,r3,r4):=H
 have A4:=am A40
 clear A40
 obtain⟨y422,hy422⟩:∃ y_:List Int,y_=(([0,501]:List Int)):=⟨_,rfl⟩
 replace H:((spec_l1Cur_among.f l0 t420 t421 y422).bind fun bt425=>((spec_l1Cur_among.f l0 bt425.2.1 bt425.2.2 (([1,5,10,40,500,bt425.1]:List Int))).bind fun bt431=>(some (t409,t414,t419,bt431.1))))=some (r1,r2,r3,r4):=by subst hy422;exact H
 have Ny422:=am hy422
 clear hy422
 replace H:=Option.bind_eq_some_iff.mp H
 obtain⟨⟨t425,t426,t427⟩,A50,H⟩:=H
 replace H:((spec_l1Cur_among.f l0 t426 t427 (([1,5,10,40,500,t425]:List Int))).bind fun bt431=>(some (t409,t414,t419,bt431.1)))=some (r1,r2,r3,r4):=H
 have A5:=am A50
 clear A50
 obtain⟨y428,hy428⟩:∃ y_:List Int,y_=(([1,5,10,40,500,t425]:List Int)):=⟨_,rfl⟩
 replace H:((spec_l1Cur_among.f l0 t426 t427 y428).bind fun bt431=>(some (t409,t414,t419,bt431.1)))=some (r1,r2,r3,r4):=by subst hy428;exact H
 have Ny428:=am hy428
 clear hy428
 replace H:=Option.bind_eq_some_iff.mp H
 obtain⟨⟨t431,t432,t433⟩,A60,H⟩:=H
 replace H:(some (t409,t414,t419,t431))=some (r1,r2,r3,r4):=H
 have A6:=am A60
 clear A60
 simp only[Option.some.injEq,Prod.mk.injEq] at H
 obtain⟨rfl,rfl,rfl,rfl⟩:=H
 go_enter Try.func12,Try.ntmps12
 go_wp2_with (first|((with_reducible refine gate_dst (N:=10) rfl ?_);refine box_event ?hg (N:=10) ?hd (cs := #[.slice A0 l0.length c0,.int .i64 0,.int .u64 0]) (t:=50) ?hr ?_;(case hd=>rfl);(case hg=>rfl);(case hr=>first|(go_simp;done)|(go_simp;rfl));intro gb408 hg w7 hbox hb;have BK408:=am (hbox);have GW408:=am (ge_ bl hg);have GE408:=am (ge_ bl hg);have HI408:=am ((show IsS50 w w7 gb408 l0 0 0 from⟨_,_,hbox,(by rw[hg];exact(below_size bl):w.heap.size≤gb408),HR0.out⟩));replace HB:=am (below_step bl hb);clear hb hbox hg)|((with_reducible refine gate_callee (f:=21) rfl ?_);refine goesL_ (some 12) rfl rfl Try.func21 (by kernel_rfl) rfl #[.pointer (some ⟨gb408,0,none⟩)] rfl tl ?_;(with_reducible refine(spec_l1Cur_comb.calls k gb408 l0 0 0 t409 t412 t413 w _ ?side1 ?side2 A2.out).mono ?_);(case side1=>repeat(first|(with_reducible first|exact HI408.out|apply IsS50.alloc|apply IsS50.drewN|apply IsS50.drew|apply IsS50.set_1|apply IsS50.set_2)|exact HI408.out));(case side2=>repeat(first|(with_reducible first|exact HB.out|apply below_alloc|apply pw_below_drewN|apply below_drew1|refine below_set ?_ (IsS50.ge HI408.out))|exact HB.out));rintro e w8 ⟨v410,rfl,ho0,hi,hb,hk⟩;refine⟨_,rfl,?_⟩;have HO411:=am (Kd.R_lower ho0 (below_size (by repeat(first|(with_reducible first|exact HB.out|apply below_alloc|apply pw_below_drewN|apply below_drew1|refine below_set ?_ (IsS50.ge HI408.out))|exact HB.out))));replace HB:=am (hb);replace HI408:=am (hi);(try clear hb);(try clear hk);(try clear hi);(try clear ho0);obtain⟨Ao9,co9,eo9⟩:=Kd.R_slice HO411.out;subst eo9)|((with_reducible refine gate_callee (f:=22) rfl ?_);refine goesL_ (some 16) rfl rfl Try.func22 (by kernel_rfl) rfl #[.pointer (some ⟨gb408,0,none⟩),.slice Ao9 t409.length co9] rfl tl ?_;(with_reducible refine(spec_l1Cur_strikes.calls k gb408 l0 t412 t413 _ _ t409 t414 t417 t418 w _ ?side1 ?side2 ?side3 ?side4 A3.out).mono ?_);(case side1=>repeat(first|(with_reducible first|exact HI408.out|apply IsS50.alloc|apply IsS50.drewN|apply IsS50.drew|apply IsS50.set_1|apply IsS50.set_2)|exact HI408.out));(case side2=>repeat(first|(with_reducible first|exact HB.out|apply below_alloc|apply pw_below_drewN|apply below_drew1|refine below_set ?_ (IsS50.ge HI408.out))|exact HB.out));(case side3=>exact Kd.C_foot_own (IsS50.apart (show IsS50 w _ gb408 l0 t412 t413 from by repeat(first|(with_reducible first|exact HI408.out|apply IsS50.alloc|apply IsS50.drewN|apply IsS50.drew|apply IsS50.set_1|apply IsS50.set_2)|exact HI408.out)) (rup HO411.out) (by decide)) (fun _ h_=>h_.2));(case side4=>exact(Kd.R_reads' HO411.out).2.1);rintro e w10 ⟨v415,rfl,ho0,hi,hb,hk⟩;refine⟨_,rfl,?_⟩;replace HO411:=am (Kd.R_mono (Kd.R_keep (IsS50.apart (show IsS50 w _ gb408 l0 t412 t413 from by repeat(first|(with_reducible first|exact HI408.out|apply IsS50.alloc|apply IsS50.drewN|apply IsS50.drew|apply IsS50.set_1|apply IsS50.set_2)|exact HI408.out)) (rup HO411.out) (by decide)) hk (fun _ h=>h.2)) (fun _ h=>h.1));have HO416:=am (Kd.R_lower ho0 (below_size (by repeat(first|(with_reducible first|exact HB.out|apply below_alloc|apply pw_below_drewN|apply below_drew1|refine below_set ?_ (IsS50.ge HI408.out))|exact HB.out))));replace HB:=am (hb);replace HI408:=am (hi);(try clear hb);(try clear hk);(try clear hi);(try clear ho0))|((with_reducible refine gate_callee (f:=23) rfl ?_);refine goesL_ (some 18) rfl rfl Try.func23 (by kernel_rfl) rfl #[.pointer (some ⟨gb408,0,none⟩)] rfl tl ?_;(with_reducible refine(spec_l1Cur_restOf.calls gb408 l0 t417 t418 t419 t420 t421 w _ ?side1 ?side2 A4.out).mono ?_);(case side1=>repeat(first|(with_reducible first|exact HI408.out|apply IsS50.alloc|apply IsS50.drewN|apply IsS50.drew|apply IsS50.set_1|apply IsS50.set_2)|exact HI408.out));(case side2=>repeat(first|(with_reducible first|exact HB.out|apply below_alloc|apply pw_below_drewN|apply below_drew1|refine below_set ?_ (IsS50.ge HI408.out))|exact HB.out));rintro e w11 ⟨rfl,hi,hb,hk⟩;refine⟨_,rfl,?_⟩;replace HO411:=am (Kd.R_mono (Kd.R_keep (IsS50.apart (show IsS50 w _ gb408 l0 t417 t418 from by repeat(first|(with_reducible first|exact HI408.out|apply IsS50.alloc|apply IsS50.drewN|apply IsS50.drew|apply IsS50.set_1|apply IsS50.set_2)|exact HI408.out)) (rup HO411.out) (by decide)) hk (fun _ h=>h.2)) (fun _ h=>h.1));replace HO416:=am (Kd.R_mono (Kd.R_keep (IsS50.apart (show IsS50 w _ gb408 l0 t417 t418 from by repeat(first|(with_reducible first|exact HI408.out|apply IsS50.alloc|apply IsS50.drewN|apply IsS50.drew|apply IsS50.set_1|apply IsS50.set_2)|exact HI408.out)) (rup HO416.out) (by decide)) hk (fun _ h=>h.2)) (fun _ h=>h.1));replace HB:=am (hb);replace HI408:=am (hi);(try clear hb);(try clear hk);(try clear hi))|((with_reducible refine gate_dst (N:=21) rfl ?_);refine Kd.R_lit (Kd.int .i64) _ 3 ?hg (N:=21) ?hd (xs:=([0,501]:List Int)) (inner:=[.int .i64 0,.int .i64 501]) (ok:=fun _=>True) (okp:=fun _=>True) ?hr ?hp (fun _ hk=>hk) trivial (Below.refl _ _) (Nat.le_refl _) (by simp) ?_;(case hd=>rfl);(case hg=>rfl);(case hr=>first|(go_simp;done)|(go_simp;rfl));(case hp=>exact(Reps.one (show Kd.M (Kd.int .i64) _ _ _ 0 [.int .i64 0] from rfl) (Reps.one (show Kd.M (Kd.int .i64) _ _ _ 501 [.int .i64 501] from rfl) (Reps.none _ _))));intro v423 w12 ho13 hb hg_ hnew_;clear hg_ hnew_;(first|rw[← Ny422.out] at ho13|(simp only[Int.reduceToNat] at ho13;rw[← Ny422.out] at ho13));replace HO411:=am (Kd.R_below (rup HO411.out) hb);replace HO416:=am (Kd.R_below (rup HO416.out) hb);have HO424:=am (Kd.R_lower ho13 (below_size (by repeat(first|(with_reducible first|exact HB.out|apply below_alloc|apply pw_below_drewN|apply below_drew1|refine below_set ?_ (IsS50.ge HI408.out))|exact HB.out))));replace HB:=am (below_step (by repeat(first|(with_reducible first|exact HB.out|apply below_alloc|apply pw_below_drewN|apply below_drew1|refine below_set ?_ (IsS50.ge HI408.out))|exact HB.out)) hb);replace HI408:=am (IsS50.below (by repeat(first|(with_reducible first|exact HI408.out|apply IsS50.alloc|apply IsS50.drewN|apply IsS50.drew|apply IsS50.set_1|apply IsS50.set_2)|exact HI408.out)) hb);clear hb ho13;obtain⟨Ao14,co14,eo14⟩:=Kd.R_slice HO424.out;subst eo14)|((with_reducible refine gate_callee (f:=31) rfl ?_);refine goesL_ (some 22) rfl rfl Try.func31 (by kernel_rfl) rfl #[.pointer (some ⟨gb408,0,none⟩),.slice Ao14 y422.length co14] rfl tl ?_;(with_reducible refine(spec_l1Cur_among.calls gb408 l0 t420 t421 _ _ y422 t425 t426 t427 w _ ?side1 ?side2 ?side3 ?side4 ?side5 A5.out).mono ?_);(case side1=>repeat(first|(with_reducible first|exact HI408.out|apply IsS50.alloc|apply IsS50.drewN|apply IsS50.drew|apply IsS50.set_1|apply IsS50.set_2)|exact HI408.out));(case side2=>repeat(first|(with_reducible first|exact HB.out|apply below_alloc|apply pw_below_drewN|apply below_drew1|refine below_set ?_ (IsS50.ge HI408.out))|exact HB.out));(case side3=>repeat(first|exact(Kd.R_reads' HO424.out).2.2|(with_reducible refine Kd.C_alloc ?_ _)|(with_reducible refine Kd.C_drewN ?_ _)|(with_reducible refine Kd.C_drew ?_)));(case side4=>exact(Kd.R_reads' HO424.out).2.1);(case side5=>exact far_slice (IsS50.own_ne HI408.out HO424.out (by decide)));rintro e w15 ⟨rfl,hi,hb,hk⟩;refine⟨_,rfl,?_⟩;replace HO411:=am (Kd.R_mono (Kd.R_keep (IsS50.apart (show IsS50 w _ gb408 l0 t420 t421 from by repeat(first|(with_reducible first|exact HI408.out|apply IsS50.alloc|apply IsS50.drewN|apply IsS50.drew|apply IsS50.set_1|apply IsS50.set_2)|exact HI408.out)) (rup HO411.out) (by decide)) hk (fun _ h=>h.2)) (fun _ h=>h.1));replace HO416:=am (Kd.R_mono (Kd.R_keep (IsS50.apart (show IsS50 w _ gb408 l0 t420 t421 from by repeat(first|(with_reducible first|exact HI408.out|apply IsS50.alloc|apply IsS50.drewN|apply IsS50.drew|apply IsS50.set_1|apply IsS50.set_2)|exact HI408.out)) (rup HO416.out) (by decide)) hk (fun _ h=>h.2)) (fun _ h=>h.1));replace HO424:=am (Kd.R_mono (Kd.R_keep (IsS50.apart (show IsS50 w _ gb408 l0 t420 t421 from by repeat(first|(with_reducible first|exact HI408.out|apply IsS50.alloc|apply IsS50.drewN|apply IsS50.drew|apply IsS50.set_1|apply IsS50.set_2)|exact HI408.out)) (rup HO424.out) (by decide)) hk (fun _ h=>h.2)) (fun _ h=>h.1));replace HB:=am (hb);replace HI408:=am (hi);(try clear hb);(try clear hk);(try clear hi))|((with_reducible refine gate_dst (N:=23) rfl ?_);refine Kd.R_lit (Kd.int .i64) _ 3 ?hg (N:=23) ?hd (xs:=([1,5,10,40,500,t425]:List Int)) (inner:=[.int .i64 1,.int .i64 5,.int .i64 10,.int .i64 40,.int .i64 500,.int .i64 t425]) (ok:=fun _=>True) (okp:=fun _=>True) ?hr ?hp (fun _ hk=>hk) trivial (Below.refl _ _) (Nat.le_refl _) (by simp) ?_;(case hd=>rfl);(case hg=>rfl);(case hr=>first|(go_simp;done)|(go_simp;rfl));(case hp=>exact(Reps.one (show Kd.M (Kd.int .i64) _ _ _ 1 [.int .i64 1] from rfl) (Reps.one (show Kd.M (Kd.int .i64) _ _ _ 5 [.int .i64 5] from rfl) (Reps.one (show Kd.M (Kd.int .i64) _ _ _ 10 [.int .i64 10] from rfl) (Reps.one (show Kd.M (Kd.int .i64) _ _ _ 40 [.int .i64 40] from rfl) (Reps.one (show Kd.M (Kd.int .i64) _ _ _ 500 [.int .i64 500] from rfl) (Reps.one (show Kd.M (Kd.int .i64) _ _ _ t425 [.int .i64 t425] from rfl) (Reps.none _ _))))))));intro v429 w16 ho17 hb hg_ hnew_;clear hg_ hnew_;(first|rw[← Ny428.out] at ho17|(simp only[Int.reduceToNat] at ho17;rw[← Ny428.out] at ho17));replace HO411:=am (Kd.R_below (rup HO411.out) hb);replace HO416:=am (Kd.R_below (rup HO416.out) hb);have HO430:=am (Kd.R_lower (Kd.R_new' ho17 (Kd.R_lt (rup HO424.out))) (below_size (by repeat(first|(with_reducible first|exact HB.out|apply below_alloc|apply pw_below_drewN|apply below_drew1|refine below_set ?_ (IsS50.ge HI408.out))|exact HB.out))));replace HO424:=am (Kd.R_elder' (rup HO424.out) (Kd.R_base ho17) hb);replace HB:=am (below_step (by repeat(first|(with_reducible first|exact HB.out|apply below_alloc|apply pw_below_drewN|apply below_drew1|refine below_set ?_ (IsS50.ge HI408.out))|exact HB.out)) hb);replace HI408:=am (IsS50.below (by repeat(first|(with_reducible first|exact HI408.out|apply IsS50.alloc|apply IsS50.drewN|apply IsS50.drew|apply IsS50.set_1|apply IsS50.set_2)|exact HI408.out)) hb);clear hb ho17;obtain⟨Ao18,co18,eo18⟩:=Kd.R_slice HO430.out;subst eo18)|((with_reducible refine gate_callee (f:=31) rfl ?_);refine goesL_ (some 24) rfl rfl Try.func31 (by kernel_rfl) rfl #[.pointer (some ⟨gb408,0,none⟩),.slice Ao18 y428.length co18] rfl tl ?_;(with_reducible refine(spec_l1Cur_among.calls gb408 l0 t426 t427 _ _ y428 t431 t432 t433 w _ ?side1 ?side2 ?side3 ?side4 ?side5 A6.out).mono ?_);(case side1=>repeat(first|(with_reducible first|exact HI408.out|apply IsS50.alloc|apply IsS50.drewN|apply IsS50.drew|apply IsS50.set_1|apply IsS50.set_2)|exact HI408.out));(case side2=>repeat(first|(with_reducible first|exact HB.out|apply below_alloc|apply pw_below_drewN|apply below_drew1|refine below_set ?_ (IsS50.ge HI408.out))|exact HB.out));(case side3=>repeat(first|exact(Kd.R_reads' HO430.out).2.2|(with_reducible refine Kd.C_alloc ?_ _)|(with_reducible refine Kd.C_drewN ?_ _)|(with_reducible refine Kd.C_drew ?_)));(case side4=>exact(Kd.R_reads' HO430.out).2.1);(case side5=>exact far_slice (IsS50.own_ne HI408.out HO430.out (by decide)));rintro e w19 ⟨rfl,hi,hb,hk⟩;refine⟨_,rfl,?_⟩;replace HO411:=am (Kd.R_mono (Kd.R_keep (IsS50.apart (show IsS50 w _ gb408 l0 t426 t427 from by repeat(first|(with_reducible first|exact HI408.out|apply IsS50.alloc|apply IsS50.drewN|apply IsS50.drew|apply IsS50.set_1|apply IsS50.set_2)|exact HI408.out)) (rup HO411.out) (by decide)) hk (fun _ h=>h.2)) (fun _ h=>h.1));replace HO416:=am (Kd.R_mono (Kd.R_keep (IsS50.apart (show IsS50 w _ gb408 l0 t426 t427 from by repeat(first|(with_reducible first|exact HI408.out|apply IsS50.alloc|apply IsS50.drewN|apply IsS50.drew|apply IsS50.set_1|apply IsS50.set_2)|exact HI408.out)) (rup HO416.out) (by decide)) hk (fun _ h=>h.2)) (fun _ h=>h.1));replace HO424:=am (Kd.R_mono (Kd.R_keep (IsS50.apart (show IsS50 w _ gb408 l0 t426 t427 from by repeat(first|(with_reducible first|exact HI408.out|apply IsS50.alloc|apply IsS50.drewN|apply IsS50.drew|apply IsS50.set_1|apply IsS50.set_2)|exact HI408.out)) (rup HO424.out) (by decide)) hk (fun _ h=>h.2)) (fun _ h=>h.1));replace HO430:=am (Kd.R_mono (Kd.R_keep (IsS50.apart (show IsS50 w _ gb408 l0 t426 t427 from by repeat(first|(with_reducible first|exact HI408.out|apply IsS50.alloc|apply IsS50.drewN|apply IsS50.drew|apply IsS50.set_1|apply IsS50.set_2)|exact HI408.out)) (rup HO430.out) (by decide)) hk (fun _ h=>h.2)) (fun _ h=>h.1));replace HB:=am (hb);replace HI408:=am (hi);(try clear hb);(try clear hk);(try clear hi)))
 refine bodyPost_ret (results_list (rs:=[.tmp 2,.tmp 3,.tmp 4,.tmp 5]) rfl (by simp) (.tmp (.tmp (.tmp (.tmp .nil))))) rfl ?_
 exact⟨_,_,fin1,by(with_reducible repeat(first|apply Kd.R_alloc|apply Kd.R_drewN|apply Kd.R_drew));exact HO411.out,by(with_reducible repeat(first|apply Kd.R_alloc|apply Kd.R_drewN|apply Kd.R_drew));exact HO416.out,by repeat(first|(with_reducible first|exact HB.out|apply below_alloc|apply pw_below_drewN|apply below_drew1|refine below_set ?_ (IsS50.ge HI408.out))|exact HB.out)⟩

def slices_Clone_int_int.f (l0:List Int):Option (List Int):=if l0.length<17592186044416 then some l0 else none
set_option maxHeartbeats 8000000 in
set_option maxRecDepth 100000 in
theorem slices_Clone_int_int.calls (A0:Option Addr) (c0:Nat) (l0:List Int) (r:List Int) (w:World) (hr0:Kd.C (Kd.int .i64) w A0 l0.length l0) (hc0:l0.length≤c0) (h:slices_Clone_int_int.f l0=some r) :
  Calls Try.prog 42 #[.slice A0 l0.length c0] w fun e w'=>∃ v0_:Value,e = .returned (v0_)∧Kd.R (Kd.int .i64) 3 w' w.heap.size (fun _=>True) v0_ r∧Below w.heap.size w w':=by
 have hlt:l0.length<17592186044416:=by
  by_cases c:l0.length<17592186044416
  ·exact c
  ·rw[slices_Clone_int_int.f,if_neg c] at h;cases h
 rw[slices_Clone_int_int.f,if_pos hlt] at h
 obtain rfl:=Option.some.inj h
 clear h
 have HL:=am hlt
 have HR0:=am hr0
 have HB:=am (Below.refl w.heap.size w)
 have hq:∀(w:World) (a:Option Addr) (l c:Nat),(binOp .eql 27 (.slice a l c) (.slice none 0 0)).run Try.prog w = .ok (.bool a.isNone) w:=fun w a l c=>Go.Lib.run_eql_slice_nil w _ _ a l c _ _ Try.underlying27
 rcases A0 with _|ad
 ·have h0:l0=[]:=by
   rcases Nat.eq_zero_or_pos l0.length with h0|h0
   ·exact List.eq_nil_of_length_eq_zero h0
   ·obtain⟨ad,h,_⟩:=hr0.2.2 h0
    cases h
  subst h0
  clear hr0 hlt hc0
  go_enter Try.func42,Try.ntmps42
  go_wp2
  go_ret
  exact⟨_,rfl,Kd.R_nil _ _ _ _ _,HB.out⟩
 ·clear hr0 hlt hc0
  go_enter Try.func42,Try.ntmps42
  go_wp2_with (first|((with_reducible refine gate_dst (N:=5) rfl ?_);refine Kd.R_lit (Kd.int .i64) _ 3 ?hg (N:=5) ?hd (xs:=([]:List Int)) (inner:=[]) (ok:=fun _=>True) (okp:=fun _=>True) ?hr ?hp (fun _ hk=>hk) trivial (Below.refl _ _) (Nat.le_refl _) (by simp) ?_;(case hd=>rfl);(case hg=>rfl);(case hr=>first|(go_simp;done)|(go_simp;rfl));(case hp=>exact(Reps.none _ _));intro v115 w15 ho16 hb hg_ hnew_;clear hg_ hnew_;have HO116:=am (Kd.R_lower ho16 (below_size HB.out));replace HB:=am (below_step HB.out hb);clear hb ho16)|((with_reducible refine gate_builtin (b := .append) (xs := #[.tmp 5,.tmp 6]) rfl ?_);at_builtin;refine Kd.R_append_rows (Kd.int .i64) (w0:=w) w.heap.size rfl (.tmp 5) (.tmp 6) 27 3 (.int .i64 0) 8 rfl Try.underlying27 info3 rfl (by decide) (by omega) v115 [] l0 _ _ _ (fun _=>True) (fun _=>False) rfl rfl ?aO ?aR (fun _ _ h=>h) (fun _ h=>h.elim) ?aF ?aB ?aS ?aL ?_;(case aR=>exact(Kd.C_below HR0.out HB.out));(case aB=>exact HB.out);(case aF=>exact(fun _ _=>trivial));(case aO=>exact HO116.out);(case aS=>exact(below_size HB.out));(case aL=>have:=HL.out;simp only[List.length_nil];omega);intro v118 w17 ho hb hg hat;replace HB:=am (hb);have HO119:=am (ho);clear HO116 ho hb hg hat))
  go_ret
  exact⟨_,rfl,HO119.out,HB.out⟩

namespace slices_Sort_int_int
open Go.Shelf in
shelf_lay Lays.n189 Nm 189 at Try as layd
end slices_Sort_int_int
def slices_Sort_int_int.f (l0:List Int):Option (List Int):=if l0.length<4611686018427387904 then some (l0.mergeSort fun x y=>decide (x≤y)) else none
open Go.Sort in
set_option maxHeartbeats 8000000 in
set_option maxRecDepth 100000 in
theorem slices_Sort_int_int.calls (P0_:Nat→Prop) (u9000_:Value) (l0:List Int) (r:List Int) (w0 w:World) (hB:Below w0.heap.size w0 w) (ho0:Kd.R (Kd.int .i64) 3 w w0.heap.size P0_ u9000_ l0) (h:slices_Sort_int_int.f l0=some r) :
  Calls Try.prog 46 #[u9000_] w fun e w'=>e = .returned (.tuple #[])∧Kd.R (Kd.int .i64) 3 w' w0.heap.size (fun k_=>(P0_ k_∨w.heap.size≤k_)) u9000_ r∧Below w0.heap.size w0 w'∧Kept w w' (fun k_=>P0_ k_):=by
 have hlt:l0.length<4611686018427387904:=by
  by_cases c:l0.length<4611686018427387904
  ·exact c
  ·rw[slices_Sort_int_int.f,if_neg c] at h;cases h
 rw[slices_Sort_int_int.f,if_pos hlt] at h
 obtain rfl:=Option.some.inj h
 clear h
 obtain⟨hok,inner,hown,hreps⟩:=ho0
 have hin:inner=l0.map (Value.int .i64):=by
  apply List.ext_getElem?
  intro j
  have h1:inner.length=l0.length:=by rw[hreps.1];exact Nat.mul_one _
  by_cases hj:j<l0.length
  ·have h2:=hreps.2 j l0[j] (List.getElem?_eq_getElem hj)
   have h3:(inner.drop (j*1)).take 1=[Value.int .i64 l0[j]]:=h2
   rw[Nat.mul_one] at h3
   have h4:((inner.drop j).take 1)[0]?=some (Value.int .i64 l0[j]):=by rw[h3];rfl
   rw[List.getElem?_take_of_lt (by omega),List.getElem?_drop,Nat.add_zero] at h4
   rw[h4]
   simp [hj]
  ·rw[List.getElem?_eq_none (by omega),List.getElem?_eq_none (by simp;omega)]
 subst hin
 rcases hown.2 with⟨rfl,hn⟩|⟨g,cap,cur,rfl,hbase,hb,h1,h2,h3,h4⟩
 ·obtain rfl:l0=[]:=List.eq_nil_of_length_eq_zero hn
  refine(Any.slices_Sort_int_none slices_Sort_int_int.layd none 0 w).mono ?_
  rintro e w' ⟨rfl,rfl⟩
  rw[show([]:List Int).mergeSort (fun x y=>decide (x≤y))=[] from List.mergeSort_nil]
  exact⟨rfl,Kd.R_nil _ _ _ _ _,hB,Kept.refl _ _⟩
 ·have hg:g<w.heap.size:=(Array.getElem?_eq_some_iff.1 hb).1
  refine(Any.slices_Sort_int slices_Sort_int_int.layd g 0 cap l0 w (holds_of_blockI hb (by rw[← h4];exact congrArg (fun n=>List.take n cur.toList) (Nat.mul_one _).symm)) hg hlt).mono ?_
  rintro e w' ⟨rfl,n,os,rfl⟩
  have hl:(l0.mergeSort fun x y=>decide (x≤y)).length=l0.length:=List.length_mergeSort _
  have hgr:=grownBy_sortedI (n:=n) (os:=os) (w:=w) (g:=g) (l0.mergeSort fun x y=>decide (x≤y)).toArray
  have hP:P0_ g:=hok g (by simp [Value.ownBlock])
  refine⟨rfl,⟨?_,(l0.mergeSort fun x y=>decide (x≤y)).map (Value.int .i64),?_,?_⟩,?_,?_⟩
  ·intro k hk
   obtain rfl:g=k:=by simpa [Value.ownBlock] using hk
   exact .inl hP
  ·rw[hl]
   exact ownsRow_sortedI hl hbase hb h1 h2 h3
  ·refine⟨by rw[List.length_map];exact(Nat.mul_one _).symm,fun j p hp=>?_⟩
   show(((l0.mergeSort fun x y=>decide (x≤y)).map (Value.int .i64)).drop (j*1)).take 1=[Value.int .i64 p]
   rw[Nat.mul_one]
   apply List.ext_getElem?
   intro i
   by_cases hi:i<1
   ·obtain rfl:i=0:=by omega
    rw[List.getElem?_take_of_lt (by omega),List.getElem?_drop,Nat.add_zero,List.getElem?_map,hp]
    rfl
   ·rw[List.getElem?_take_eq_none (by omega),List.getElem?_eq_none (by simp;omega)]
  ·exact hB.grown hgr hB.size (fun k hk=>by cases hk;exact hbase)
  ·exact Kept.of_grown hgr (Kept.refl _ _) (fun k hk=>by cases hk;exact .inl hP)

def sort_Ints.f (l0:List Int):Option (List Int):=(slices_Sort_int_int.f l0).bind fun t434=>(some t434)
set_option maxHeartbeats 8000000 in
set_option maxRecDepth 100000 in
theorem sort_Ints.calls (P0_:Nat→Prop) (u9000_:Value) (l0:List Int) (r:List Int) (w0 w:World) (hB:Below w0.heap.size w0 w) (ho0:Kd.R (Kd.int .i64) 3 w w0.heap.size P0_ u9000_ l0) (h:sort_Ints.f l0=some r) :
  Calls Try.prog 43 #[u9000_] w fun e w'=>e = .returned (.tuple #[])∧Kd.R (Kd.int .i64) 3 w' w0.heap.size (fun k_=>(P0_ k_∨w.heap.size≤k_)) u9000_ r∧Below w0.heap.size w0 w'∧Kept w w' (fun k_=>P0_ k_):=by
 have HO0:=am (show Kd.R (Kd.int .i64) 3 w w0.heap.size (fun k_=>(P0_ k_∨w.heap.size≤k_)) u9000_ l0 from Kd.R_mono ho0 (fun k_ hk=>(.inl hk)))
 have HK:=am (Kept.refl w (fun k_=>P0_ k_))
 have HW0:=am hB.size
 have HB:=am hB
 clear hB
 have H:((slices_Sort_int_int.f l0).bind fun t434=>(some t434))=some r:=h
 clear h
 obtain⟨t434,A2,H⟩:=bnd H
 obtain rfl:=Option.some.inj H
 obtain⟨Ao3,co3,eo3⟩:=Kd.R_slice HO0.out
 subst eo3
 go_enter Try.func43,Try.ntmps43
 go_wp2_with (first|((with_reducible refine gate_callee (f:=46) rfl ?_);refine goesL_ (some 3) rfl rfl Try.func46 (by kernel_rfl) rfl #[.slice Ao3 l0.length co3] rfl tl ?_;(with_reducible refine(slices_Sort_int_int.calls (fun k_=>some k_=(.slice Ao3 l0.length co3:Value).ownBlock) (.slice Ao3 l0.length co3) l0 t434 w0 _ ?side1 ?side2 A2.out).mono ?_);(case side1=>repeat(first|(with_reducible first|exact HB.out|apply below_alloc|apply pw_below_drewN|apply below_drew1)|exact HB.out));(case side2=>exact Kd.R_tight rfl HO0.out);rintro e w4 ⟨rfl,hy0,hb,hkp⟩;refine⟨_,rfl,?_⟩;replace HK:=am (Kept.then_ (S:=(fun k_=>P0_ k_)) (by repeat(first|(with_reducible first|exact HK.out|apply Kept.alloc|apply Kept.drewN|apply Kept.drew)|exact HK.out)) hkp (fun k_ hs_=>(fun e_=>(HO0.out.1 k_ e_.symm)) hs_));replace HO0:=am (Kd.R_reok rfl hy0 (fun k_ e_=>HO0.out.1 k_ e_));replace HB:=am (hb);(try clear hb);(try clear hkp);(try clear hy0)))
 first|go_end0|((try simp only[Exit.inBlock,Exit.then]);refine bodyPost_ret (results_none rfl _ _ _) rfl ?_)
 exact⟨fin1,by(with_reducible repeat(first|apply Kd.R_alloc|apply Kd.R_drewN|apply Kd.R_drew));exact HO0.out,by repeat(first|(with_reducible first|exact HB.out|apply below_alloc|apply pw_below_drewN|apply below_drew1)|exact HB.out),by repeat(first|(with_reducible first|exact HK.out|apply Kept.alloc|apply Kept.drewN|apply Kept.drew)|exact HK.out)⟩

namespace slices_Compact_int_int
open Go.Shelf in
shelf_lay Lays2.n20 Nm2 20 at Try as layd
end slices_Compact_int_int
def slices_Compact_int_int.f (l0:List Int):Option (List Int):=if l0.length≤9223372036854775807 then some (Go.Lib.compact l0) else none
open Go.Sort in
set_option maxHeartbeats 8000000 in
set_option maxRecDepth 100000 in
theorem slices_Compact_int_int.calls (P0_:Nat→Prop) (u9000_:Value) (l0:List Int) (r:List Int) (w0 w:World) (hB:Below w0.heap.size w0 w) (ho0:Kd.R (Kd.int .i64) 3 w w0.heap.size P0_ u9000_ l0) (h:slices_Compact_int_int.f l0=some r) :
  Calls Try.prog 44 #[u9000_] w fun e w'=>∃ v0_:Value,e = .returned (v0_)∧Kd.R (Kd.int .i64) 3 w' w0.heap.size (fun k_=>(P0_ k_∨w.heap.size≤k_)) v0_ r∧Below w0.heap.size w0 w'∧Kept w w' (fun k_=>P0_ k_):=by
 have hlt:l0.length≤9223372036854775807:=by
  by_cases c:l0.length≤9223372036854775807
  ·exact c
  ·rw[slices_Compact_int_int.f,if_neg c] at h;cases h
 rw[slices_Compact_int_int.f,if_pos hlt] at h
 obtain rfl:=Option.some.inj h
 clear h
 obtain⟨hok,inner,hown,hreps⟩:=ho0
 have hin:inner=l0.map (Value.int .i64):=by
  apply List.ext_getElem?
  intro j
  have h1:inner.length=l0.length:=by rw[hreps.1];exact Nat.mul_one _
  by_cases hj:j<l0.length
  ·have h2:=hreps.2 j l0[j] (List.getElem?_eq_getElem hj)
   have h3:(inner.drop (j*1)).take 1=[Value.int .i64 l0[j]]:=h2
   rw[Nat.mul_one] at h3
   have h4:((inner.drop j).take 1)[0]?=some (Value.int .i64 l0[j]):=by rw[h3];rfl
   rw[List.getElem?_take_of_lt (by omega),List.getElem?_drop,Nat.add_zero] at h4
   rw[h4]
   simp [hj]
  ·rw[List.getElem?_eq_none (by omega),List.getElem?_eq_none (by simp;omega)]
 subst hin
 rcases hown.2 with⟨rfl,hn⟩|⟨g,cap,cur,rfl,hbase,hb,h1,h2,h3,h4⟩
 ·obtain rfl:l0=[]:=List.eq_nil_of_length_eq_zero hn
  refine(Any.slices_Compact_int_empty slices_Compact_int_int.layd none 0 w).mono ?_
  rintro e w' ⟨rfl,rfl⟩
  rw[show Go.Lib.compact ([]:List Int)=[] from rfl]
  exact⟨_,rfl,Kd.R_nil _ _ _ _ _,hB,Kept.refl _ _⟩
 ·have hg:g<w.heap.size:=(Array.getElem?_eq_some_iff.1 hb).1
  refine(Any.slices_Compact_int slices_Compact_int_int.layd g 0 cap l0 w (holds_of_blockI hb (by rw[← h4];exact congrArg (fun n=>List.take n cur.toList) (Nat.mul_one _).symm)) hlt h1).mono ?_
  rintro e w' ⟨rfl,q,rfl⟩
  have hcl:=Go.Lib.compact_length_le l0
  have hl:(Go.Lib.compact l0 ++ List.replicate (l0.length - (Go.Lib.compact l0).length) 0).length=l0.length:=by simp;omega
  have hgr:=grownBy_sortedI (n:=q) (os := #[]) (w:=w) (g:=g) (Go.Lib.compact l0 ++ List.replicate (l0.length - (Go.Lib.compact l0).length) 0).toArray
  have hhp:=heap_sortedI (n:=q) (os := #[]) (w:=w) (g:=g) (Go.Lib.compact l0 ++ List.replicate (l0.length - (Go.Lib.compact l0).length) 0).toArray hb
  rw[grow_empty] at hgr hhp
  have hP:P0_ g:=hok g (by simp [Value.ownBlock])
  have h3':cur.size=cap:=h3.trans (Nat.mul_one _)
  refine⟨_,rfl,⟨?_,(Go.Lib.compact l0).map (Value.int .i64),⟨by rw[List.length_map];exact(Nat.mul_one _).symm,.inr ⟨g,cap,_,rfl,hbase,hhp,by omega,h2,by simp [putCells];exact h3,?_⟩⟩,?_⟩,?_,?_⟩
  ·intro k hk
   obtain rfl:g=k:=by simpa [Value.ownBlock] using hk
   exact .inl hP
  ·have ht:=take_putCellsI cur (Go.Lib.compact l0 ++ List.replicate (l0.length - (Go.Lib.compact l0).length) 0) (by omega)
   have ht2:=congrArg (List.take (Go.Lib.compact l0).length) ht
   rw[List.take_take,hl,Nat.min_eq_left hcl,List.map_append,List.take_left' (by simp)] at ht2
   show List.take ((Go.Lib.compact l0).length*1) _=_
   rw[Nat.mul_one]
   exact ht2
  ·refine⟨by rw[List.length_map];exact(Nat.mul_one _).symm,fun j p hp=>?_⟩
   show(((Go.Lib.compact l0).map (Value.int .i64)).drop (j*1)).take 1=[Value.int .i64 p]
   rw[Nat.mul_one]
   apply List.ext_getElem?
   intro i
   by_cases hi:i<1
   ·obtain rfl:i=0:=by omega
    rw[List.getElem?_take_of_lt (by omega),List.getElem?_drop,Nat.add_zero,List.getElem?_map,hp]
    rfl
   ·rw[List.getElem?_take_eq_none (by omega),List.getElem?_eq_none (by simp;omega)]
  ·exact hB.grown hgr hB.size (fun k hk=>by cases hk;exact hbase)
  ·exact Kept.of_grown hgr (Kept.refl _ _) (fun k hk=>by cases hk;exact .inl hP)

def impl_sortedSet.f (l0:List Int):Option (List Int):=(slices_Clone_int_int.f l0).bind fun t435=>((sort_Ints.f t435).bind fun t438=>((slices_Compact_int_int.f t438).bind fun t439=>(some t439)))
set_option maxHeartbeats 8000000 in
set_option maxRecDepth 100000 in
theorem impl_sortedSet.calls (A0:Option Addr) (c0:Nat) (l0:List Int) (r:List Int) (w:World) (hr0:Kd.C (Kd.int .i64) w A0 l0.length l0) (hc0:l0.length≤c0) (h:impl_sortedSet.f l0=some r) :
  Calls Try.prog 32 #[.slice A0 l0.length c0] w fun e w'=>∃ v0_:Value,e = .returned (v0_)∧Kd.R (Kd.int .i64) 3 w' w.heap.size (fun _=>True) v0_ r∧Below w.heap.size w w':=by
 have HR0:=am hr0
 have HC0:=am hc0
 clear hr0 hc0
 have HB:=am (Below.refl w.heap.size w)
 have H:((slices_Clone_int_int.f l0).bind fun t435=>((sort_Ints.f t435).bind fun t438=>((slices_Compact_int_int.f t438).bind fun t439=>(some t439))))=some r:=h
 clear h
 obtain⟨t435,A2,H⟩:=bnd H
 obtain⟨t438,A3,H⟩:=bnd H
 obtain⟨t439,A4,H⟩:=bnd H
 obtain rfl:=Option.some.inj H
 go_enter Try.func32,Try.ntmps32
 go_wp2_with (first|((with_reducible refine gate_callee (f:=42) rfl ?_);refine goesL_ (some 5) rfl rfl Try.func42 (by kernel_rfl) rfl #[.slice A0 l0.length c0] rfl tl ?_;(with_reducible refine(slices_Clone_int_int.calls _ _ l0 t435 _ ?side1 ?side2 A2.out).mono ?_);(case side1=>repeat(first|exact HR0.out|(with_reducible refine Kd.C_alloc ?_ _)|(with_reducible refine Kd.C_drewN ?_ _)|(with_reducible refine Kd.C_drew ?_)));(case side2=>exact HC0.out);rintro e w5 ⟨v436,rfl,ho0,hb⟩;refine⟨_,rfl,?_⟩;have HO437:=am (Kd.R_lower ho0 (below_size bl));replace HB:=am (below_step bl hb);(try clear hb);(try clear ho0);obtain⟨Ao6,co6,eo6⟩:=Kd.R_slice HO437.out;subst eo6)|((with_reducible refine gate_callee (f:=43) rfl ?_);refine goesL_ (some 7) rfl rfl Try.func43 (by kernel_rfl) rfl #[.slice Ao6 t435.length co6] rfl tl ?_;(with_reducible refine(sort_Ints.calls (fun k_=>some k_=(.slice Ao6 t435.length co6:Value).ownBlock) (.slice Ao6 t435.length co6) t435 t438 w _ ?side1 ?side2 A3.out).mono ?_);(case side1=>repeat(first|(with_reducible first|exact HB.out|apply below_alloc|apply pw_below_drewN|apply below_drew1)|exact HB.out));(case side2=>exact Kd.R_tight rfl HO437.out);rintro e w7 ⟨rfl,hy0,hb,hkp⟩;refine⟨_,rfl,?_⟩;replace HO437:=am (Kd.R_reok rfl hy0 (fun k_ e_=>HO437.out.1 k_ e_));replace HB:=am (hb);(try clear hb);(try clear hkp);(try clear hy0))|((with_reducible refine gate_callee (f:=44) rfl ?_);refine goesL_ (some 9) rfl rfl Try.func44 (by kernel_rfl) rfl #[.slice Ao6 t435.length co6] rfl tl ?_;(with_reducible refine(slices_Compact_int_int.calls (fun k_=>some k_=(.slice Ao6 t435.length co6:Value).ownBlock) (.slice Ao6 t435.length co6) t438 t439 w _ ?side1 ?side2 A4.out).mono ?_);(case side1=>repeat(first|(with_reducible first|exact HB.out|apply below_alloc|apply pw_below_drewN|apply below_drew1)|exact HB.out));(case side2=>exact Kd.R_tight rfl HO437.out);rintro e w8 ⟨v440,rfl,ho0,hb,hkp⟩;refine⟨_,rfl,?_⟩;have HO441:=am (Kd.R_mono (ok':=fun k_=>True) ho0 (fun k_ hk_=>trivial));replace HB:=am (hb);clear HO437;(try clear hb);(try clear hkp);(try clear ho0)))
 go_ret
 exact⟨_,fin1,by(with_reducible repeat(first|apply Kd.R_alloc|apply Kd.R_drewN|apply Kd.R_drew));exact HO441.out,bl⟩

end Go.Proofs.Ytiekokdlcgpcdaa.PFnStrikes
