/- Walks of functions that FnStrikes reaches. No conditions beyond the arguments' being read. -/
import Derived.Test.YtiekokdlcgpcdaaSFnStrikes0
import Derived.Test.YtiekokdlcgpcdaaSFnStrikes2
import Derived.Test.YtiekokdlcgpcdaaSFnStrikes3
import Derived.Test.YtiekokdlcgpcdaaSFnStrikes4
import Derived.Test.YtiekokdlcgpcdaaSFnStrikes9
namespace Go.Proofs.Ytiekokdlcgpcdaa.PFnStrikes
open Go.RowKit Go.Proofs.YtiekokdlcgpcdaaW.PrintWords Go.Proofs.YtiekokdlcgpcdaaW.PrintLast Go.Proofs.YtiekokdlcgpcdaaW.PrintMore
attribute [local go_sem] max2_int min2_int max_two min_two max_three min_three max_four min_four
set_option linter.unusedVariables false
set_option linter.unusedSimpArgs false

mutual
def impl_DampersNeeded.j0:Nat→List (S41)→List (S45)→Int→Int→Bool→Option (List Int×Bool)
 | 0,_,_,_,_,_=>none
 | k+1,x0,x1,x2,x3,x36=>if x36=true then(some (([]:List Int),false)) else((impl_giveTeeth.f k x0 x1 x2).bind fun bt445=>(if bt445.2=true then(impl_DampersNeeded.l0 k x0 x1 x3 bt445.1 (([]:List Int)) bt445.1 (bt445.1.length:Int) 0) else(some (([]:List Int),false))))
def impl_DampersNeeded.l0:Nat→List (S41)→List (S45)→Int→List Int→List Int→List Int→Int→Int→Option (List Int×Bool)
 | 0,_,_,_,_,_,_,_,_=>none
 | k+1,x0,x1,x3,x10,x12,x47,x48,x49=>if x49<x48 then(if 0≤x49 then(if x49<(x47.length:Int) then(impl_DampersNeeded.l1 k x0 x1 x3 x10 x12 x49 (rd x47 x49) x47 x48 x49 x49 0) else(none)) else(none)) else((impl_sortedSet.f x12).bind fun t452=>(some (t452,true)))
def impl_DampersNeeded.l1:Nat→List (S41)→List (S45)→Int→List Int→List Int→Int→Int→List Int→Int→Int→Int→Int→Option (List Int×Bool)
 | 0,_,_,_,_,_,_,_,_,_,_,_,_=>none
 | k+1,x0,x1,x3,x10,x12,x13,x14,x47,x48,x49,x54,x55=>if x55<x54 then(if 0≤x55 then(if x55<(x10.length:Int) then(if(rd x10 x55)=x14 then(if 0≤x14 then(if x14<(x0.length:Int) then(if((rd_T41 x0 x14).f2)=0 then(if 0≤x13 then(if x13<(x1.length:Int) then(if x55<(x1.length:Int) then(if(wrap64 (((rd_T45 x1 x13).f1) - ((rd_T45 x1 x55).f1)))<x3 then(if x12.length<17592186044416 then(impl_DampersNeeded.l1 k x0 x1 x3 x10 (x12 ++ [x14]) x13 x14 x47 x48 x49 x54 (wrap64 (x55+1))) else(none)) else(impl_DampersNeeded.l1 k x0 x1 x3 x10 x12 x13 x14 x47 x48 x49 x54 (wrap64 (x55+1)))) else(none)) else(none)) else(none)) else(impl_DampersNeeded.l1 k x0 x1 x3 x10 x12 x13 x14 x47 x48 x49 x54 (wrap64 (x55+1)))) else(none)) else(none)) else(impl_DampersNeeded.l1 k x0 x1 x3 x10 x12 x13 x14 x47 x48 x49 x54 (wrap64 (x55+1)))) else(none)) else(none)) else(impl_DampersNeeded.l0 k x0 x1 x3 x10 x12 x47 x48 (wrap64 (x49+1)))
end
def impl_DampersNeeded.f (k:Nat) (l0:List (S41)) (l1:List (S45)) (a2:Int) (a3:Int):Option (List Int×Bool):=(impl_IsComb.f k l0).bind fun t442=>(if t442=true then((impl_AreStrikes.f k l1).bind fun t443=>(if t443=true then((impl_isRest.f a2).bind fun t444=>(if t444=true then(if a3<1 then(impl_DampersNeeded.j0 k l0 l1 a2 a3 true) else(impl_DampersNeeded.j0 k l0 l1 a2 a3 (decide (a3>500)))) else(impl_DampersNeeded.j0 k l0 l1 a2 a3 true))) else(impl_DampersNeeded.j0 k l0 l1 a2 a3 true))) else(impl_DampersNeeded.j0 k l0 l1 a2 a3 true))
set_option maxHeartbeats 8000000 in
set_option maxRecDepth 100000 in
theorem impl_DampersNeeded.calls (k:Nat) (A0:Option Addr) (c0:Nat) (l0:List (S41)) (A1:Option Addr) (c1:Nat) (l1:List (S45)) (a2:Int) (a3:Int) (r1:List Int) (r2:Bool) (w:World) (hr0:Kd.C k41 w A0 l0.length l0) (hc0:l0.length≤c0) (hr1:Kd.C k45 w A1 l1.length l1) (hc1:l1.length≤c1) (h:impl_DampersNeeded.f k l0 l1 a2 a3=some (r1,r2)) :
  Calls Try.prog 13 #[.slice A0 l0.length c0,.slice A1 l1.length c1,.int .i64 a2,.int .i64 a3] w fun e w'=>∃ v0_:Value,e = .returned (.tuple #[v0_,.bool r2])∧Kd.R (Kd.int .i64) 3 w' w.heap.size (fun _=>True) v0_ r1∧Below w.heap.size w w':=by
 have HR0:=am hr0
 have HC0:=am hc0
 clear hr0 hc0
 have HR1:=am hr1
 have HC1:=am hc1
 clear hr1 hc1
 have HB:=am (Below.refl w.heap.size w)
 have H:((impl_IsComb.f k l0).bind fun t442=>(if t442=true then((impl_AreStrikes.f k l1).bind fun t443=>(if t443=true then((impl_isRest.f a2).bind fun t444=>(if t444=true then(if a3<1 then(impl_DampersNeeded.j0 k l0 l1 a2 a3 true) else(impl_DampersNeeded.j0 k l0 l1 a2 a3 (decide (a3>500)))) else(impl_DampersNeeded.j0 k l0 l1 a2 a3 true))) else(impl_DampersNeeded.j0 k l0 l1 a2 a3 true))) else(impl_DampersNeeded.j0 k l0 l1 a2 a3 true)))=some (r1,r2):=h
 clear h
 have HC5:=am H
 clear H
 go_enter Try.func13,Try.ntmps13
 go_upto_region 1 with(fail)
 repeat(go_quiet (fail);go_upto_region 1 with(fail))
 go_cut [36] (fun v36 wc=>∃(kq:Nat) (x36_4:Bool),v36 = .bool x36_4∧Aside0 (impl_DampersNeeded.j0 kq l0 l1 a2 a3 x36_4=some (r1,r2))∧Aside0 (kq≤k)∧Aside0 (Below w.heap.size w wc))
 case first =>
  have H:=HC5.out
  clear HC5
  replace H:=Option.bind_eq_some_iff.mp H
  obtain⟨t442,A60,H⟩:=H
  replace H:(if t442=true then((impl_AreStrikes.f k l1).bind fun t443=>(if t443=true then((impl_isRest.f a2).bind fun t444=>(if t444=true then(if a3<1 then(impl_DampersNeeded.j0 k l0 l1 a2 a3 true) else(impl_DampersNeeded.j0 k l0 l1 a2 a3 (decide (a3>500)))) else(impl_DampersNeeded.j0 k l0 l1 a2 a3 true))) else(impl_DampersNeeded.j0 k l0 l1 a2 a3 true))) else(impl_DampersNeeded.j0 k l0 l1 a2 a3 true))=some (r1,r2):=H
  have A6:=am A60
  clear A60
  by_cases c7:t442=true
  ·subst c7
   replace H:=(if_pos rfl).symm.trans H
   replace H:=Option.bind_eq_some_iff.mp H
   obtain⟨t443,A80,H⟩:=H
   replace H:(if t443=true then((impl_isRest.f a2).bind fun t444=>(if t444=true then(if a3<1 then(impl_DampersNeeded.j0 k l0 l1 a2 a3 true) else(impl_DampersNeeded.j0 k l0 l1 a2 a3 (decide (a3>500)))) else(impl_DampersNeeded.j0 k l0 l1 a2 a3 true))) else(impl_DampersNeeded.j0 k l0 l1 a2 a3 true))=some (r1,r2):=H
   have A8:=am A80
   clear A80
   by_cases c9:t443=true
   ·subst c9
    replace H:=(if_pos rfl).symm.trans H
    replace H:=Option.bind_eq_some_iff.mp H
    obtain⟨t444,A100,H⟩:=H
    replace H:(if t444=true then(if a3<1 then(impl_DampersNeeded.j0 k l0 l1 a2 a3 true) else(impl_DampersNeeded.j0 k l0 l1 a2 a3 (decide (a3>500)))) else(impl_DampersNeeded.j0 k l0 l1 a2 a3 true))=some (r1,r2):=H
    have A10:=am A100
    clear A100
    by_cases c11:t444=true
    ·subst c11
     replace H:=(if_pos rfl).symm.trans H
     rcases itc H with⟨c12,H⟩|⟨c12,H⟩
     ·have c12b0:=decide_eq_true c12
      clear c12
      (first|rw[c12b0]|(simp only[i64_w,i32_w];rw[c12b0])|skip)
      have H':=am H
      clear H
      go_wp2_with (first|(go_at_call 18;(with_reducible refine(impl_IsComb.calls k _ _ l0 true _ ?side1 ?side2 A6.out).mono ?_);(case side1=>exact cup (Kd.C_below HR0.out HB.out));(case side2=>exact HC0.out);rintro e w13 ⟨rfl,hb⟩;replace HB:=am (below_step bl hb);(try clear hb))|(go_at_call 16;(with_reducible refine(impl_AreStrikes.calls k _ _ l1 true _ ?side1 ?side2 A8.out).mono ?_);(case side1=>exact cup (Kd.C_below HR1.out HB.out));(case side2=>exact HC1.out);rintro e w14 ⟨rfl,hb⟩;replace HB:=am (below_step bl hb);(try clear hb))|(go_at_call 24;(with_reducible refine(impl_isRest.calls a2 true _ A10.out).mono ?_);rintro e w' ⟨rfl,⟨nd,rfl⟩⟩;(try first|exact⟨rfl,_,World.drewN_drewN _ _ _⟩|exact⟨rfl,_,Eq.trans (World.drewN_drewN _ _ _) (congrArg (World.drewN _) (Nat.add_assoc _ _ _))⟩)))
      repeat(go_quiet (first|(go_at_call 18;(with_reducible refine(impl_IsComb.calls k _ _ l0 true _ ?side1 ?side2 A6.out).mono ?_);(case side1=>exact cup (Kd.C_below HR0.out HB.out));(case side2=>exact HC0.out);rintro e w13 ⟨rfl,hb⟩;replace HB:=am (below_step bl hb);(try clear hb))|(go_at_call 16;(with_reducible refine(impl_AreStrikes.calls k _ _ l1 true _ ?side1 ?side2 A8.out).mono ?_);(case side1=>exact cup (Kd.C_below HR1.out HB.out));(case side2=>exact HC1.out);rintro e w14 ⟨rfl,hb⟩;replace HB:=am (below_step bl hb);(try clear hb))|(go_at_call 24;(with_reducible refine(impl_isRest.calls a2 true _ A10.out).mono ?_);rintro e w' ⟨rfl,⟨nd,rfl⟩⟩;(try first|exact⟨rfl,_,World.drewN_drewN _ _ _⟩|exact⟨rfl,_,Eq.trans (World.drewN_drewN _ _ _) (congrArg (World.drewN _) (Nat.add_assoc _ _ _))⟩)));try go_wp2_with (first|(go_at_call 18;(with_reducible refine(impl_IsComb.calls k _ _ l0 true _ ?side1 ?side2 A6.out).mono ?_);(case side1=>exact cup (Kd.C_below HR0.out HB.out));(case side2=>exact HC0.out);rintro e w13 ⟨rfl,hb⟩;replace HB:=am (below_step bl hb);(try clear hb))|(go_at_call 16;(with_reducible refine(impl_AreStrikes.calls k _ _ l1 true _ ?side1 ?side2 A8.out).mono ?_);(case side1=>exact cup (Kd.C_below HR1.out HB.out));(case side2=>exact HC1.out);rintro e w14 ⟨rfl,hb⟩;replace HB:=am (below_step bl hb);(try clear hb))|(go_at_call 24;(with_reducible refine(impl_isRest.calls a2 true _ A10.out).mono ?_);rintro e w' ⟨rfl,⟨nd,rfl⟩⟩;(try first|exact⟨rfl,_,World.drewN_drewN _ _ _⟩|exact⟨rfl,_,Eq.trans (World.drewN_drewN _ _ _) (congrArg (World.drewN _) (Nat.add_assoc _ _ _))⟩))))
      go_meet
      case rel=>exact⟨_,(true),fin2,H',⟨by first|omega|exact Nat.le_refl _⟩,⟨bl⟩⟩
     ·have c12b0:=decide_eq_false c12
      clear c12
      (first|rw[c12b0]|(simp only[i64_w,i32_w];rw[c12b0])|skip)
      have H':=am H
      clear H
      go_wp2_with (first|(go_at_call 18;(with_reducible refine(impl_IsComb.calls k _ _ l0 true _ ?side1 ?side2 A6.out).mono ?_);(case side1=>exact cup (Kd.C_below HR0.out HB.out));(case side2=>exact HC0.out);rintro e w15 ⟨rfl,hb⟩;replace HB:=am (below_step bl hb);(try clear hb))|(go_at_call 16;(with_reducible refine(impl_AreStrikes.calls k _ _ l1 true _ ?side1 ?side2 A8.out).mono ?_);(case side1=>exact cup (Kd.C_below HR1.out HB.out));(case side2=>exact HC1.out);rintro e w16 ⟨rfl,hb⟩;replace HB:=am (below_step bl hb);(try clear hb))|(go_at_call 24;(with_reducible refine(impl_isRest.calls a2 true _ A10.out).mono ?_);rintro e w' ⟨rfl,⟨nd,rfl⟩⟩;(try first|exact⟨rfl,_,World.drewN_drewN _ _ _⟩|exact⟨rfl,_,Eq.trans (World.drewN_drewN _ _ _) (congrArg (World.drewN _) (Nat.add_assoc _ _ _))⟩)))
      repeat(go_quiet (first|(go_at_call 18;(with_reducible refine(impl_IsComb.calls k _ _ l0 true _ ?side1 ?side2 A6.out).mono ?_);(case side1=>exact cup (Kd.C_below HR0.out HB.out));(case side2=>exact HC0.out);rintro e w15 ⟨rfl,hb⟩;replace HB:=am (below_step bl hb);(try clear hb))|(go_at_call 16;(with_reducible refine(impl_AreStrikes.calls k _ _ l1 true _ ?side1 ?side2 A8.out).mono ?_);(case side1=>exact cup (Kd.C_below HR1.out HB.out));(case side2=>exact HC1.out);rintro e w16 ⟨rfl,hb⟩;replace HB:=am (below_step bl hb);(try clear hb))|(go_at_call 24;(with_reducible refine(impl_isRest.calls a2 true _ A10.out).mono ?_);rintro e w' ⟨rfl,⟨nd,rfl⟩⟩;(try first|exact⟨rfl,_,World.drewN_drewN _ _ _⟩|exact⟨rfl,_,Eq.trans (World.drewN_drewN _ _ _) (congrArg (World.drewN _) (Nat.add_assoc _ _ _))⟩)));try go_wp2_with (first|(go_at_call 18;(with_reducible refine(impl_IsComb.calls k _ _ l0 true _ ?side1 ?side2 A6.out).mono ?_);(case side1=>exact cup (Kd.C_below HR0.out HB.out));(case side2=>exact HC0.out);rintro e w15 ⟨rfl,hb⟩;replace HB:=am (below_step bl hb);(try clear hb))|(go_at_call 16;(with_reducible refine(impl_AreStrikes.calls k _ _ l1 true _ ?side1 ?side2 A8.out).mono ?_);(case side1=>exact cup (Kd.C_below HR1.out HB.out));(case side2=>exact HC1.out);rintro e w16 ⟨rfl,hb⟩;replace HB:=am (below_step bl hb);(try clear hb))|(go_at_call 24;(with_reducible refine(impl_isRest.calls a2 true _ A10.out).mono ?_);rintro e w' ⟨rfl,⟨nd,rfl⟩⟩;(try first|exact⟨rfl,_,World.drewN_drewN _ _ _⟩|exact⟨rfl,_,Eq.trans (World.drewN_drewN _ _ _) (congrArg (World.drewN _) (Nat.add_assoc _ _ _))⟩))))
      go_meet
      case rel=>exact⟨_,(decide (a3>500)),fin2,H',⟨by first|omega|exact Nat.le_refl _⟩,⟨bl⟩⟩
    ·replace c11:=Bool.eq_false_iff.mpr c11
     subst c11
     replace H:=(if_neg Bool.false_ne_true).symm.trans H
     have H':=am H
     clear H
     go_wp2_with (first|(go_at_call 18;(with_reducible refine(impl_IsComb.calls k _ _ l0 true _ ?side1 ?side2 A6.out).mono ?_);(case side1=>exact cup (Kd.C_below HR0.out HB.out));(case side2=>exact HC0.out);rintro e w17 ⟨rfl,hb⟩;replace HB:=am (below_step bl hb);(try clear hb))|(go_at_call 16;(with_reducible refine(impl_AreStrikes.calls k _ _ l1 true _ ?side1 ?side2 A8.out).mono ?_);(case side1=>exact cup (Kd.C_below HR1.out HB.out));(case side2=>exact HC1.out);rintro e w18 ⟨rfl,hb⟩;replace HB:=am (below_step bl hb);(try clear hb))|(go_at_call 24;(with_reducible refine(impl_isRest.calls a2 false _ A10.out).mono ?_);rintro e w' ⟨rfl,⟨nd,rfl⟩⟩;(try first|exact⟨rfl,_,World.drewN_drewN _ _ _⟩|exact⟨rfl,_,Eq.trans (World.drewN_drewN _ _ _) (congrArg (World.drewN _) (Nat.add_assoc _ _ _))⟩)))
     repeat(go_quiet (first|(go_at_call 18;(with_reducible refine(impl_IsComb.calls k _ _ l0 true _ ?side1 ?side2 A6.out).mono ?_);(case side1=>exact cup (Kd.C_below HR0.out HB.out));(case side2=>exact HC0.out);rintro e w17 ⟨rfl,hb⟩;replace HB:=am (below_step bl hb);(try clear hb))|(go_at_call 16;(with_reducible refine(impl_AreStrikes.calls k _ _ l1 true _ ?side1 ?side2 A8.out).mono ?_);(case side1=>exact cup (Kd.C_below HR1.out HB.out));(case side2=>exact HC1.out);rintro e w18 ⟨rfl,hb⟩;replace HB:=am (below_step bl hb);(try clear hb))|(go_at_call 24;(with_reducible refine(impl_isRest.calls a2 false _ A10.out).mono ?_);rintro e w' ⟨rfl,⟨nd,rfl⟩⟩;(try first|exact⟨rfl,_,World.drewN_drewN _ _ _⟩|exact⟨rfl,_,Eq.trans (World.drewN_drewN _ _ _) (congrArg (World.drewN _) (Nat.add_assoc _ _ _))⟩)));try go_wp2_with (first|(go_at_call 18;(with_reducible refine(impl_IsComb.calls k _ _ l0 true _ ?side1 ?side2 A6.out).mono ?_);(case side1=>exact cup (Kd.C_below HR0.out HB.out));(case side2=>exact HC0.out);rintro e w17 ⟨rfl,hb⟩;replace HB:=am (below_step bl hb);(try clear hb))|(go_at_call 16;(with_reducible refine(impl_AreStrikes.calls k _ _ l1 true _ ?side1 ?side2 A8.out).mono ?_);(case side1=>exact cup (Kd.C_below HR1.out HB.out));(case side2=>exact HC1.out);rintro e w18 ⟨rfl,hb⟩;replace HB:=am (below_step bl hb);(try clear hb))|(go_at_call 24;(with_reducible refine(impl_isRest.calls a2 false _ A10.out).mono ?_);rintro e w' ⟨rfl,⟨nd,rfl⟩⟩;(try first|exact⟨rfl,_,World.drewN_drewN _ _ _⟩|exact⟨rfl,_,Eq.trans (World.drewN_drewN _ _ _) (congrArg (World.drewN _) (Nat.add_assoc _ _ _))⟩))))
     go_meet
     case rel=>exact⟨_,(true),fin2,H',⟨by first|omega|exact Nat.le_refl _⟩,⟨bl⟩⟩
   ·replace c9:=Bool.eq_false_iff.mpr c9
    subst c9
    replace H:=(if_neg Bool.false_ne_true).symm.trans H
    have H':=am H
    clear H
    go_wp2_with (first|(go_at_call 18;(with_reducible refine(impl_IsComb.calls k _ _ l0 true _ ?side1 ?side2 A6.out).mono ?_);(case side1=>exact cup (Kd.C_below HR0.out HB.out));(case side2=>exact HC0.out);rintro e w19 ⟨rfl,hb⟩;replace HB:=am (below_step bl hb);(try clear hb))|(go_at_call 16;(with_reducible refine(impl_AreStrikes.calls k _ _ l1 false _ ?side1 ?side2 A8.out).mono ?_);(case side1=>exact cup (Kd.C_below HR1.out HB.out));(case side2=>exact HC1.out);rintro e w20 ⟨rfl,hb⟩;replace HB:=am (below_step bl hb);(try clear hb)))
    repeat(go_quiet (first|(go_at_call 18;(with_reducible refine(impl_IsComb.calls k _ _ l0 true _ ?side1 ?side2 A6.out).mono ?_);(case side1=>exact cup (Kd.C_below HR0.out HB.out));(case side2=>exact HC0.out);rintro e w19 ⟨rfl,hb⟩;replace HB:=am (below_step bl hb);(try clear hb))|(go_at_call 16;(with_reducible refine(impl_AreStrikes.calls k _ _ l1 false _ ?side1 ?side2 A8.out).mono ?_);(case side1=>exact cup (Kd.C_below HR1.out HB.out));(case side2=>exact HC1.out);rintro e w20 ⟨rfl,hb⟩;replace HB:=am (below_step bl hb);(try clear hb)));try go_wp2_with (first|(go_at_call 18;(with_reducible refine(impl_IsComb.calls k _ _ l0 true _ ?side1 ?side2 A6.out).mono ?_);(case side1=>exact cup (Kd.C_below HR0.out HB.out));(case side2=>exact HC0.out);rintro e w19 ⟨rfl,hb⟩;replace HB:=am (below_step bl hb);(try clear hb))|(go_at_call 16;(with_reducible refine(impl_AreStrikes.calls k _ _ l1 false _ ?side1 ?side2 A8.out).mono ?_);(case side1=>exact cup (Kd.C_below HR1.out HB.out));(case side2=>exact HC1.out);rintro e w20 ⟨rfl,hb⟩;replace HB:=am (below_step bl hb);(try clear hb))))
    go_meet
    case rel=>exact⟨_,(true),fin2,H',⟨by first|omega|exact Nat.le_refl _⟩,⟨bl⟩⟩
  ·replace c7:=Bool.eq_false_iff.mpr c7
   subst c7
   replace H:=(if_neg Bool.false_ne_true).symm.trans H
   have H':=am H
   clear H
   go_wp2_with (first|(go_at_call 18;(with_reducible refine(impl_IsComb.calls k _ _ l0 false _ ?side1 ?side2 A6.out).mono ?_);(case side1=>exact cup (Kd.C_below HR0.out HB.out));(case side2=>exact HC0.out);rintro e w21 ⟨rfl,hb⟩;replace HB:=am (below_step bl hb);(try clear hb)))
   repeat(go_quiet (first|(go_at_call 18;(with_reducible refine(impl_IsComb.calls k _ _ l0 false _ ?side1 ?side2 A6.out).mono ?_);(case side1=>exact cup (Kd.C_below HR0.out HB.out));(case side2=>exact HC0.out);rintro e w21 ⟨rfl,hb⟩;replace HB:=am (below_step bl hb);(try clear hb)));try go_wp2_with (first|(go_at_call 18;(with_reducible refine(impl_IsComb.calls k _ _ l0 false _ ?side1 ?side2 A6.out).mono ?_);(case side1=>exact cup (Kd.C_below HR0.out HB.out));(case side2=>exact HC0.out);rintro e w21 ⟨rfl,hb⟩;replace HB:=am (below_step bl hb);(try clear hb))))
   go_meet
   case rel=>exact⟨_,(true),fin2,H',⟨by first|omega|exact Nat.le_refl _⟩,⟨bl⟩⟩
 case rest =>
  clear HC5
  obtain⟨kq,x36_4,rfl,HA,HJ4,HB⟩:=hcut
  cases kq with
  | zero=>exact absurd HA.out (by simp [impl_DampersNeeded.j0])
  | succ kj4 =>
   have H:=HA.out
   clear HA
   simp only[impl_DampersNeeded.j0] at H
   by_cases c22:x36_4=true
   ·subst c22
    replace H:=(if_pos rfl).symm.trans H
    simp only[Option.some.injEq,Prod.mk.injEq] at H
    obtain⟨rfl,rfl⟩:=H
    go_wp2
    repeat(go_quiet (fail);try go_wp2)
    go_ret2
    exact⟨_,fin1,by first|exact Kd.R_nil _ _ _ _ _|exact Kd.N_nil _ _ _ _ _|exact Kd.V_nil _ _ _ _ _|exact Kd.Q_nil _ _ _ _ _|exact Kd.S_nil _ _ _ _ _,bl⟩
   ·replace c22:=Bool.eq_false_iff.mpr c22
    subst c22
    replace H:=(if_neg Bool.false_ne_true).symm.trans H
    replace H:=Option.bind_eq_some_iff.mp H
    obtain⟨⟨t445,t446⟩,A230,H⟩:=H
    replace H:(if t446=true then(impl_DampersNeeded.l0 kj4 l0 l1 a3 t445 (([]:List Int)) t445 (t445.length:Int) 0) else(some (([]:List Int),false)))=some (r1,r2):=H
    have A23:=am A230
    clear A230
    by_cases c24:t446=true
    ·subst c24
     replace H:=(if_pos rfl).symm.trans H
     obtain⟨y449,hy449⟩:∃ y_:List Int,y_=(([]:List Int)):=⟨_,rfl⟩
     replace H:(impl_DampersNeeded.l0 kj4 l0 l1 a3 t445 y449 t445 (t445.length:Int) 0)=some (r1,r2):=by subst hy449;exact H
     have Ny449:=am hy449
     clear hy449
     have H':=am H
     clear H
     go_wp2_with (first|(go_at_call 25;(with_reducible refine(impl_giveTeeth.calls kj4 _ _ l0 _ _ l1 a2 t445 true _ ?side1 ?side2 ?side3 ?side4 A23.out).mono ?_);(case side1=>exact cup (Kd.C_below HR0.out HB.out));(case side2=>exact HC0.out);(case side3=>exact cup (Kd.C_below HR1.out HB.out));(case side4=>exact HC1.out);rintro e w25 ⟨v447,rfl,ho0,hb⟩;have HO448:=am (Kd.R_lower ho0 (below_size bl));replace HB:=am (below_step bl hb);(try clear hb);(try clear ho0))|((with_reducible refine gate_dst (N:=46) rfl ?_);refine Kd.R_lit (Kd.int .i64) _ 3 ?hg (N:=46) ?hd (xs:=([]:List Int)) (inner:=[]) (ok:=fun _=>True) (okp:=fun _=>True) ?hr ?hp (fun _ hk=>hk) trivial (Below.refl _ _) (Nat.le_refl _) (by simp) ?_;(case hd=>rfl);(case hg=>rfl);(case hr=>first|(go_simp;done)|(go_simp;rfl));(case hp=>exact(Reps.none _ _));intro v450 w26 ho27 hb hg_ hnew_;clear hg_ hnew_;(first|rw[← Ny449.out] at ho27|(simp only[Int.reduceToNat] at ho27;rw[← Ny449.out] at ho27));have HO451:=am (Kd.R_lower (Kd.R_new' ho27 (Kd.R_lt (rup HO448.out))) (below_size bl));replace HO448:=am (Kd.R_elder' (rup HO448.out) (Kd.R_base ho27) hb);replace HB:=am (below_step bl hb);clear hb ho27;obtain⟨Ao28,co28,eo28⟩:=Kd.R_slice HO448.out;subst eo28))
     repeat(go_quiet (first|(go_at_call 25;(with_reducible refine(impl_giveTeeth.calls kj4 _ _ l0 _ _ l1 a2 t445 true _ ?side1 ?side2 ?side3 ?side4 A23.out).mono ?_);(case side1=>exact cup (Kd.C_below HR0.out HB.out));(case side2=>exact HC0.out);(case side3=>exact cup (Kd.C_below HR1.out HB.out));(case side4=>exact HC1.out);rintro e w25 ⟨v447,rfl,ho0,hb⟩;have HO448:=am (Kd.R_lower ho0 (below_size bl));replace HB:=am (below_step bl hb);(try clear hb);(try clear ho0))|((with_reducible refine gate_dst (N:=46) rfl ?_);refine Kd.R_lit (Kd.int .i64) _ 3 ?hg (N:=46) ?hd (xs:=([]:List Int)) (inner:=[]) (ok:=fun _=>True) (okp:=fun _=>True) ?hr ?hp (fun _ hk=>hk) trivial (Below.refl _ _) (Nat.le_refl _) (by simp) ?_;(case hd=>rfl);(case hg=>rfl);(case hr=>first|(go_simp;done)|(go_simp;rfl));(case hp=>exact(Reps.none _ _));intro v450 w26 ho27 hb hg_ hnew_;clear hg_ hnew_;(first|rw[← Ny449.out] at ho27|(simp only[Int.reduceToNat] at ho27;rw[← Ny449.out] at ho27));have HO451:=am (Kd.R_lower (Kd.R_new' ho27 (Kd.R_lt (rup HO448.out))) (below_size bl));replace HO448:=am (Kd.R_elder' (rup HO448.out) (Kd.R_base ho27) hb);replace HB:=am (below_step bl hb);clear hb ho27;obtain⟨Ao28,co28,eo28⟩:=Kd.R_slice HO448.out;subst eo28));try go_wp2_with (first|(go_at_call 25;(with_reducible refine(impl_giveTeeth.calls kj4 _ _ l0 _ _ l1 a2 t445 true _ ?side1 ?side2 ?side3 ?side4 A23.out).mono ?_);(case side1=>exact cup (Kd.C_below HR0.out HB.out));(case side2=>exact HC0.out);(case side3=>exact cup (Kd.C_below HR1.out HB.out));(case side4=>exact HC1.out);rintro e w25 ⟨v447,rfl,ho0,hb⟩;have HO448:=am (Kd.R_lower ho0 (below_size bl));replace HB:=am (below_step bl hb);(try clear hb);(try clear ho0))|((with_reducible refine gate_dst (N:=46) rfl ?_);refine Kd.R_lit (Kd.int .i64) _ 3 ?hg (N:=46) ?hd (xs:=([]:List Int)) (inner:=[]) (ok:=fun _=>True) (okp:=fun _=>True) ?hr ?hp (fun _ hk=>hk) trivial (Below.refl _ _) (Nat.le_refl _) (by simp) ?_;(case hd=>rfl);(case hg=>rfl);(case hr=>first|(go_simp;done)|(go_simp;rfl));(case hp=>exact(Reps.none _ _));intro v450 w26 ho27 hb hg_ hnew_;clear hg_ hnew_;(first|rw[← Ny449.out] at ho27|(simp only[Int.reduceToNat] at ho27;rw[← Ny449.out] at ho27));have HO451:=am (Kd.R_lower (Kd.R_new' ho27 (Kd.R_lt (rup HO448.out))) (below_size bl));replace HO448:=am (Kd.R_elder' (rup HO448.out) (Kd.R_base ho27) hb);replace HB:=am (below_step bl hb);clear hb ho27;obtain⟨Ao28,co28,eo28⟩:=Kd.R_slice HO448.out;subst eo28)))
     go_loopg [12,49] kj4 (fun kq v12 v49 w'=>∃(x12_2:List Int) (x49_2:Int),v49 = .int .i64 x49_2∧Aside0 (impl_DampersNeeded.l0 kq l0 l1 a3 t445 x12_2 t445 (t445.length:Int) x49_2=some (r1,r2))∧Aside0 (kq≤kj4)∧Aside0 (Kd.R (Kd.int .i64) 3 w' w.heap.size (fun k_=>some k_≠(v12:Value).ownBlock) (.slice Ao28 t445.length co28) t445)∧Aside0 (Kd.R (Kd.int .i64) 3 w' w.heap.size (fun k_=>some k_≠((.slice Ao28 t445.length co28):Value).ownBlock∧some k_≠((.slice Ao28 t445.length co28):Value).ownBlock) v12 x12_2)∧Aside0 (Kd.R (Kd.int .i64) 3 w' w.heap.size (fun k_=>some k_≠(v12:Value).ownBlock) (.slice Ao28 t445.length co28) t445)∧Aside0 (Below w.heap.size w w'))
     case atStart=>exact⟨(y449),(0),fin2,H',⟨Nat.le_refl _⟩,⟨rup (Kd.R_mono HO448.out (fun _ hk=>hk.2))⟩,⟨rup (Kd.R_mono HO451.out (fun _ hk=>⟨hk.2,hk.2⟩))⟩,⟨rup (Kd.R_mono HO448.out (fun _ hk=>hk.2))⟩,⟨bl⟩⟩
     case round =>
      clear H'
      try clear c22
      try clear c24
      obtain⟨x12_2,x49_2,rfl,HA,HK2,HO_10,HO_12,HO_47,HB⟩:=hrel
      cases gk with
      | zero=>exact absurd HA.out (by simp [impl_DampersNeeded.l0])
      | succ k2 =>
       have H:=HA.out
       clear HA
       simp only[impl_DampersNeeded.l0] at H
       rcases itc H with⟨c29,H⟩|⟨c29,H⟩
       ·have c29b0:=decide_eq_true c29
        clear c29
        obtain⟨c30b0,H⟩:=ifb H
        obtain⟨c31b0,H⟩:=ifb H
        have H':=am H
        clear H
        have p455:0≤(x49_2:Int):=od
        have q455:x49_2<(t445.length:Int):=od
        obtain⟨ad455,e455,hx455_0⟩:=Kd.at_int (Kd.R_reads' HO_47.out).2.2 x49_2 p455 q455
        cases e455
        replace p455:=eq_true p455
        replace q455:=eq_true q455
        go_wp2
        repeat(go_quiet (fail);try go_wp2)
        go_loopg [12,55] k2 (fun kq v12 v55 w'=>∃(x12_3:List Int) (x55_3:Int),v55 = .int .i64 x55_3∧Aside0 (impl_DampersNeeded.l1 kq l0 l1 a3 t445 x12_3 x49_2 (rd t445 x49_2) t445 (t445.length:Int) x49_2 x49_2 x55_3=some (r1,r2))∧Aside0 (kq≤k2)∧Aside0 (Kd.R (Kd.int .i64) 3 w' w.heap.size (fun k_=>some k_≠(v12:Value).ownBlock) (.slice (some ad455) t445.length co28) t445)∧Aside0 (Kd.R (Kd.int .i64) 3 w' w.heap.size (fun k_=>some k_≠((.slice (some ad455) t445.length co28):Value).ownBlock∧some k_≠((.slice (some ad455) t445.length co28):Value).ownBlock) v12 x12_3)∧Aside0 (Kd.R (Kd.int .i64) 3 w' w.heap.size (fun k_=>some k_≠(v12:Value).ownBlock) (.slice (some ad455) t445.length co28) t445)∧Aside0 (Below w.heap.size w w'))
        case atStart=>exact⟨(x12_2),(0),fin2,H',⟨Nat.le_refl _⟩,⟨rup HO_10.out⟩,⟨rup HO_12.out⟩,⟨rup HO_47.out⟩,⟨bl⟩⟩
        case round =>
         clear H'
         try clear c29b0
         try clear c30b0
         try clear c31b0
         try clear hx455_0
         try clear p455
         try clear q455
         obtain⟨x12_3,x55_3,rfl,HA,HK3,HO_10,HO_12,HO_47,HB⟩:=hrel
         cases gk with
         | zero=>exact absurd HA.out (by simp [impl_DampersNeeded.l1])
         | succ k3 =>
          have H:=HA.out
          clear HA
          simp only[impl_DampersNeeded.l1] at H
          rcases itc H with⟨c32,H⟩|⟨c32,H⟩
          ·have c32b0:=decide_eq_true c32
           clear c32
           obtain⟨c33b0,H⟩:=ifb H
           obtain⟨c34b0,H⟩:=ifb H
           rcases itc H with⟨c35,H⟩|⟨c35,H⟩
           ·have c35b0:((rd t445 x55_3) == (rd t445 x49_2))=true:=beq_iff_eq.mpr c35
            have c35b1:((rd t445 x55_3) != (rd t445 x49_2))=false:=bne_eq_false_iff_eq.mpr c35
            clear c35
            obtain⟨c36b0,H⟩:=ifb H
            obtain⟨c37b0,H⟩:=ifb H
            rcases itc H with⟨c38,H⟩|⟨c38,H⟩
            ·have c38b0:(((rd_T41 l0 (rd t445 x49_2)).f2) == 0)=true:=beq_iff_eq.mpr c38
             have c38b1:(((rd_T41 l0 (rd t445 x49_2)).f2) != 0)=false:=bne_eq_false_iff_eq.mpr c38
             clear c38
             obtain⟨c39b0,H⟩:=ifb H
             obtain⟨c40b0,H⟩:=ifb H
             obtain⟨c41b0,H⟩:=ifb H
             rcases itc H with⟨c42,H⟩|⟨c42,H⟩
             ·have c42b0:=decide_eq_true c42
              clear c42
              obtain⟨c43,H⟩:=ifp H
              have LMc43:=am c43
              clear c43
              obtain⟨y460,hy460⟩:∃ y_:List Int,y_=(x12_3 ++ [(rd t445 x49_2)]):=⟨_,rfl⟩
              replace H:(impl_DampersNeeded.l1 k3 l0 l1 a3 t445 y460 x49_2 (rd t445 x49_2) t445 (t445.length:Int) x49_2 x49_2 (wrap64 (x55_3+1)))=some (r1,r2):=by subst hy460;exact H
              have Ny460:=am hy460
              clear hy460
              have H':=am H
              clear H
              have p456:0≤(x55_3:Int):=od
              have q456:x55_3<(t445.length:Int):=od
              obtain⟨ad456,e456,hx456_0⟩:=Kd.at_int (Kd.R_reads' HO_10.out).2.2 x55_3 p456 q456
              obtain rfl:ad455=ad456:=(by injection e456)
              replace p456:=eq_true p456
              replace q456:=eq_true q456
              have p457:0≤((rd t445 x49_2):Int):=od
              have q457:(rd t445 x49_2)<(l0.length:Int):=od
              obtain⟨ad457,e457,hx457_0,hx457_1,hx457_2⟩:=at_T41 HR0.out (rd t445 x49_2) p457 q457
              cases e457
              replace hx457_0:=(HB.out.cell (World.block_lt_of_cell? w _ hx457_0)).trans hx457_0
              replace hx457_1:=(HB.out.cell (World.block_lt_of_cell? w _ hx457_1)).trans hx457_1
              replace hx457_2:=(HB.out.cell (World.block_lt_of_cell? w _ hx457_2)).trans hx457_2
              replace p457:=eq_true p457
              replace q457:=eq_true q457
              have p458:0≤(x49_2:Int):=od
              have q458:x49_2<(l1.length:Int):=od
              obtain⟨ad458,e458,hx458_0,hx458_1⟩:=at_T45 HR1.out x49_2 p458 q458
              cases e458
              replace hx458_0:=(HB.out.cell (World.block_lt_of_cell? w _ hx458_0)).trans hx458_0
              replace hx458_1:=(HB.out.cell (World.block_lt_of_cell? w _ hx458_1)).trans hx458_1
              replace p458:=eq_true p458
              replace q458:=eq_true q458
              have p459:0≤(x55_3:Int):=od
              have q459:x55_3<(l1.length:Int):=od
              obtain⟨ad459,e459,hx459_0,hx459_1⟩:=at_T45 HR1.out x55_3 p459 q459
              obtain rfl:ad458=ad459:=(by injection e459)
              replace hx459_0:=(HB.out.cell (World.block_lt_of_cell? w _ hx459_0)).trans hx459_0
              replace hx459_1:=(HB.out.cell (World.block_lt_of_cell? w _ hx459_1)).trans hx459_1
              replace p459:=eq_true p459
              replace q459:=eq_true q459
              go_wp2_with (first|((with_reducible refine gate_builtin (b := .append) (xs := #[.tmp 87,.tmp 89]) rfl ?_);at_builtin;refine Kd.R_append (Kd.int .i64) (w0:=w) w.heap.size rfl (.tmp 87) (.tmp 89) 27 3 (.int .i64 0) 8 rfl Try.underlying27 info3 rfl (by decide) (by omega) u12 x12_3 (rd t445 x49_2) [.int .i64 (rd t445 x49_2)] (fun k_=>some k_≠(.slice (some ad455) t445.length co28:Value).ownBlock∧some k_≠(.slice (some ad455) t445.length co28:Value).ownBlock) (fun _=>False) rfl rfl ?aP (fun _ hk=>hk.elim) ?aF ?aO ?aB ?aS ?aL ?_;(case aP=>exact rfl);(case aB=>exact bl);(case aF=>exact(fun k_ hk=>⟨Kd.fresh' (Kd.R_lt (rup HO_10.out)) k_ hk,Kd.fresh' (Kd.R_lt (rup HO_47.out)) k_ hk⟩));(case aO=>exact(rup HO_12.out));(case aS=>exact(below_size bl));(case aL=>have:=LMc43.out;omega);intro v461 w44 ho hb hg hat;rw[← Ny460.out] at ho;replace HO_10:=am (Kd.R_after (ok:=(fun _=>True)) (rup (Kd.R_mono HO_10.out (fun _ hk=>⟨trivial,hk⟩))) hg hat);replace HO_47:=am (Kd.R_after (ok:=(fun _=>True)) (rup (Kd.R_mono HO_47.out (fun _ hk=>⟨trivial,hk⟩))) hg hat);replace HB:=am (hb);have HO462:=am (ho);clear HO_12 ho hb hg hat))
              repeat(go_quiet (first|((with_reducible refine gate_builtin (b := .append) (xs := #[.tmp 87,.tmp 89]) rfl ?_);at_builtin;refine Kd.R_append (Kd.int .i64) (w0:=w) w.heap.size rfl (.tmp 87) (.tmp 89) 27 3 (.int .i64 0) 8 rfl Try.underlying27 info3 rfl (by decide) (by omega) u12 x12_3 (rd t445 x49_2) [.int .i64 (rd t445 x49_2)] (fun k_=>some k_≠(.slice (some ad455) t445.length co28:Value).ownBlock∧some k_≠(.slice (some ad455) t445.length co28:Value).ownBlock) (fun _=>False) rfl rfl ?aP (fun _ hk=>hk.elim) ?aF ?aO ?aB ?aS ?aL ?_;(case aP=>exact rfl);(case aB=>exact bl);(case aF=>exact(fun k_ hk=>⟨Kd.fresh' (Kd.R_lt (rup HO_10.out)) k_ hk,Kd.fresh' (Kd.R_lt (rup HO_47.out)) k_ hk⟩));(case aO=>exact(rup HO_12.out));(case aS=>exact(below_size bl));(case aL=>have:=LMc43.out;omega);intro v461 w44 ho hb hg hat;rw[← Ny460.out] at ho;replace HO_10:=am (Kd.R_after (ok:=(fun _=>True)) (rup (Kd.R_mono HO_10.out (fun _ hk=>⟨trivial,hk⟩))) hg hat);replace HO_47:=am (Kd.R_after (ok:=(fun _=>True)) (rup (Kd.R_mono HO_47.out (fun _ hk=>⟨trivial,hk⟩))) hg hat);replace HB:=am (hb);have HO462:=am (ho);clear HO_12 ho hb hg hat));try go_wp2_with (first|((with_reducible refine gate_builtin (b := .append) (xs := #[.tmp 87,.tmp 89]) rfl ?_);at_builtin;refine Kd.R_append (Kd.int .i64) (w0:=w) w.heap.size rfl (.tmp 87) (.tmp 89) 27 3 (.int .i64 0) 8 rfl Try.underlying27 info3 rfl (by decide) (by omega) u12 x12_3 (rd t445 x49_2) [.int .i64 (rd t445 x49_2)] (fun k_=>some k_≠(.slice (some ad455) t445.length co28:Value).ownBlock∧some k_≠(.slice (some ad455) t445.length co28:Value).ownBlock) (fun _=>False) rfl rfl ?aP (fun _ hk=>hk.elim) ?aF ?aO ?aB ?aS ?aL ?_;(case aP=>exact rfl);(case aB=>exact bl);(case aF=>exact(fun k_ hk=>⟨Kd.fresh' (Kd.R_lt (rup HO_10.out)) k_ hk,Kd.fresh' (Kd.R_lt (rup HO_47.out)) k_ hk⟩));(case aO=>exact(rup HO_12.out));(case aS=>exact(below_size bl));(case aL=>have:=LMc43.out;omega);intro v461 w44 ho hb hg hat;rw[← Ny460.out] at ho;replace HO_10:=am (Kd.R_after (ok:=(fun _=>True)) (rup (Kd.R_mono HO_10.out (fun _ hk=>⟨trivial,hk⟩))) hg hat);replace HO_47:=am (Kd.R_after (ok:=(fun _=>True)) (rup (Kd.R_mono HO_47.out (fun _ hk=>⟨trivial,hk⟩))) hg hat);replace HB:=am (hb);have HO462:=am (ho);clear HO_12 ho hb hg hat)))
              go_roundg k3
              case measure=>have:=HJ4.out;have:=HK2.out;have:=HK3.out;omega
              case rel=>exact⟨(y460),(wrap64 (x55_3+1)),fin2,H',⟨by have:=HJ4.out;have:=HK2.out;have:=HK3.out;omega⟩,⟨rup (Kd.R_mono HO_10.out (fun _ hk=>hk.2))⟩,⟨rup HO462.out⟩,⟨rup (Kd.R_mono HO_47.out (fun _ hk=>hk.2))⟩,⟨bl⟩⟩
             ·have c42b0:=decide_eq_false c42
              clear c42
              have H':=am H
              clear H
              have p456:0≤(x55_3:Int):=od
              have q456:x55_3<(t445.length:Int):=od
              obtain⟨ad456,e456,hx456_0⟩:=Kd.at_int (Kd.R_reads' HO_10.out).2.2 x55_3 p456 q456
              obtain rfl:ad455=ad456:=(by injection e456)
              replace p456:=eq_true p456
              replace q456:=eq_true q456
              have p457:0≤((rd t445 x49_2):Int):=od
              have q457:(rd t445 x49_2)<(l0.length:Int):=od
              obtain⟨ad457,e457,hx457_0,hx457_1,hx457_2⟩:=at_T41 HR0.out (rd t445 x49_2) p457 q457
              cases e457
              replace hx457_0:=(HB.out.cell (World.block_lt_of_cell? w _ hx457_0)).trans hx457_0
              replace hx457_1:=(HB.out.cell (World.block_lt_of_cell? w _ hx457_1)).trans hx457_1
              replace hx457_2:=(HB.out.cell (World.block_lt_of_cell? w _ hx457_2)).trans hx457_2
              replace p457:=eq_true p457
              replace q457:=eq_true q457
              have p458:0≤(x49_2:Int):=od
              have q458:x49_2<(l1.length:Int):=od
              obtain⟨ad458,e458,hx458_0,hx458_1⟩:=at_T45 HR1.out x49_2 p458 q458
              cases e458
              replace hx458_0:=(HB.out.cell (World.block_lt_of_cell? w _ hx458_0)).trans hx458_0
              replace hx458_1:=(HB.out.cell (World.block_lt_of_cell? w _ hx458_1)).trans hx458_1
              replace p458:=eq_true p458
              replace q458:=eq_true q458
              have p459:0≤(x55_3:Int):=od
              have q459:x55_3<(l1.length:Int):=od
              obtain⟨ad459,e459,hx459_0,hx459_1⟩:=at_T45 HR1.out x55_3 p459 q459
              obtain rfl:ad458=ad459:=(by injection e459)
              replace hx459_0:=(HB.out.cell (World.block_lt_of_cell? w _ hx459_0)).trans hx459_0
              replace hx459_1:=(HB.out.cell (World.block_lt_of_cell? w _ hx459_1)).trans hx459_1
              replace p459:=eq_true p459
              replace q459:=eq_true q459
              go_wp2
              repeat(go_quiet (fail);try go_wp2)
              go_roundg k3
              case measure=>have:=HJ4.out;have:=HK2.out;have:=HK3.out;omega
              case rel=>exact⟨(x12_3),(wrap64 (x55_3+1)),fin2,H',⟨by have:=HJ4.out;have:=HK2.out;have:=HK3.out;omega⟩,⟨rup HO_10.out⟩,⟨rup HO_12.out⟩,⟨rup HO_47.out⟩,⟨bl⟩⟩
            ·have c38b0:(((rd_T41 l0 (rd t445 x49_2)).f2) == 0)=false:=beq_eq_false_iff_ne.mpr c38
             have c38b1:(((rd_T41 l0 (rd t445 x49_2)).f2) != 0)=true:=bne_iff_ne.mpr c38
             have H':=am H
             clear H
             have p456:0≤(x55_3:Int):=od
             have q456:x55_3<(t445.length:Int):=od
             obtain⟨ad456,e456,hx456_0⟩:=Kd.at_int (Kd.R_reads' HO_10.out).2.2 x55_3 p456 q456
             obtain rfl:ad455=ad456:=(by injection e456)
             replace p456:=eq_true p456
             replace q456:=eq_true q456
             have p457:0≤((rd t445 x49_2):Int):=od
             have q457:(rd t445 x49_2)<(l0.length:Int):=od
             obtain⟨ad457,e457,hx457_0,hx457_1,hx457_2⟩:=at_T41 HR0.out (rd t445 x49_2) p457 q457
             cases e457
             replace hx457_0:=(HB.out.cell (World.block_lt_of_cell? w _ hx457_0)).trans hx457_0
             replace hx457_1:=(HB.out.cell (World.block_lt_of_cell? w _ hx457_1)).trans hx457_1
             replace hx457_2:=(HB.out.cell (World.block_lt_of_cell? w _ hx457_2)).trans hx457_2
             replace p457:=eq_true p457
             replace q457:=eq_true q457
             go_wp2
             repeat(go_quiet (fail);try go_wp2)
             go_roundg k3
             case measure=>have:=HJ4.out;have:=HK2.out;have:=HK3.out;omega
             case rel=>exact⟨(x12_3),(wrap64 (x55_3+1)),fin2,H',⟨by have:=HJ4.out;have:=HK2.out;have:=HK3.out;omega⟩,⟨rup HO_10.out⟩,⟨rup HO_12.out⟩,⟨rup HO_47.out⟩,⟨bl⟩⟩
           ·have c35b0:((rd t445 x55_3) == (rd t445 x49_2))=false:=beq_eq_false_iff_ne.mpr c35
            have c35b1:((rd t445 x55_3) != (rd t445 x49_2))=true:=bne_iff_ne.mpr c35
            have H':=am H
            clear H
            have p456:0≤(x55_3:Int):=od
            have q456:x55_3<(t445.length:Int):=od
            obtain⟨ad456,e456,hx456_0⟩:=Kd.at_int (Kd.R_reads' HO_10.out).2.2 x55_3 p456 q456
            obtain rfl:ad455=ad456:=(by injection e456)
            replace p456:=eq_true p456
            replace q456:=eq_true q456
            go_wp2
            repeat(go_quiet (fail);try go_wp2)
            go_roundg k3
            case measure=>have:=HJ4.out;have:=HK2.out;have:=HK3.out;omega
            case rel=>exact⟨(x12_3),(wrap64 (x55_3+1)),fin2,H',⟨by have:=HJ4.out;have:=HK2.out;have:=HK3.out;omega⟩,⟨rup HO_10.out⟩,⟨rup HO_12.out⟩,⟨rup HO_47.out⟩,⟨bl⟩⟩
          ·have c32b0:=decide_eq_false c32
           clear c32
           have H':=am H
           clear H
           go_wp2
           repeat(go_quiet (fail);try go_wp2)
           go_roundg k3
           case measure=>have:=HJ4.out;have:=HK2.out;have:=HK3.out;omega
           case rel=>exact⟨(x12_3),(wrap64 (x49_2+1)),fin2,H',⟨by have:=HJ4.out;have:=HK2.out;have:=HK3.out;omega⟩,⟨rup HO_10.out⟩,⟨rup HO_12.out⟩,⟨rup HO_47.out⟩,⟨bl⟩⟩
       ·have c29b0:=decide_eq_false c29
        clear c29
        replace H:=Option.bind_eq_some_iff.mp H
        obtain⟨t452,A450,H⟩:=H
        replace H:(some (t452,true))=some (r1,r2):=H
        have A45:=am A450
        clear A450
        simp only[Option.some.injEq,Prod.mk.injEq] at H
        obtain⟨rfl,rfl⟩:=H
        obtain⟨Ao46,co46,eo46⟩:=Kd.R_slice HO_12.out
        subst eo46
        go_wp2_with (first|(go_at_call 32;(with_reducible refine(impl_sortedSet.calls _ _ x12_2 t452 _ ?side1 ?side2 A45.out).mono ?_);(case side1=>repeat(first|exact(Kd.R_reads' HO_12.out).2.2|(with_reducible refine Kd.C_alloc ?_ _)|(with_reducible refine Kd.C_drewN ?_ _)|(with_reducible refine Kd.C_drew ?_)));(case side2=>exact(Kd.R_reads' HO_12.out).2.1);rintro e w47 ⟨v453,rfl,ho0,hb⟩;have HO454:=am (Kd.R_lower (Kd.R_new' (Kd.R_new' (Kd.R_new' ho0 (Kd.R_lt (rup HO_10.out))) (Kd.R_lt (rup HO_12.out))) (Kd.R_lt (rup HO_47.out))) (below_size bl));replace HO_10:=am (Kd.R_elder' (rup HO_10.out) (Kd.R_base ho0) hb);replace HO_12:=am (Kd.R_elder' (rup HO_12.out) (Kd.R_base ho0) hb);replace HO_47:=am (Kd.R_elder' (rup HO_47.out) (Kd.R_base ho0) hb);replace HB:=am (below_step bl hb);(try clear hb);(try clear ho0)))
        repeat(go_quiet (first|(go_at_call 32;(with_reducible refine(impl_sortedSet.calls _ _ x12_2 t452 _ ?side1 ?side2 A45.out).mono ?_);(case side1=>repeat(first|exact(Kd.R_reads' HO_12.out).2.2|(with_reducible refine Kd.C_alloc ?_ _)|(with_reducible refine Kd.C_drewN ?_ _)|(with_reducible refine Kd.C_drew ?_)));(case side2=>exact(Kd.R_reads' HO_12.out).2.1);rintro e w47 ⟨v453,rfl,ho0,hb⟩;have HO454:=am (Kd.R_lower (Kd.R_new' (Kd.R_new' (Kd.R_new' ho0 (Kd.R_lt (rup HO_10.out))) (Kd.R_lt (rup HO_12.out))) (Kd.R_lt (rup HO_47.out))) (below_size bl));replace HO_10:=am (Kd.R_elder' (rup HO_10.out) (Kd.R_base ho0) hb);replace HO_12:=am (Kd.R_elder' (rup HO_12.out) (Kd.R_base ho0) hb);replace HO_47:=am (Kd.R_elder' (rup HO_47.out) (Kd.R_base ho0) hb);replace HB:=am (below_step bl hb);(try clear hb);(try clear ho0)));try go_wp2_with (first|(go_at_call 32;(with_reducible refine(impl_sortedSet.calls _ _ x12_2 t452 _ ?side1 ?side2 A45.out).mono ?_);(case side1=>repeat(first|exact(Kd.R_reads' HO_12.out).2.2|(with_reducible refine Kd.C_alloc ?_ _)|(with_reducible refine Kd.C_drewN ?_ _)|(with_reducible refine Kd.C_drew ?_)));(case side2=>exact(Kd.R_reads' HO_12.out).2.1);rintro e w47 ⟨v453,rfl,ho0,hb⟩;have HO454:=am (Kd.R_lower (Kd.R_new' (Kd.R_new' (Kd.R_new' ho0 (Kd.R_lt (rup HO_10.out))) (Kd.R_lt (rup HO_12.out))) (Kd.R_lt (rup HO_47.out))) (below_size bl));replace HO_10:=am (Kd.R_elder' (rup HO_10.out) (Kd.R_base ho0) hb);replace HO_12:=am (Kd.R_elder' (rup HO_12.out) (Kd.R_base ho0) hb);replace HO_47:=am (Kd.R_elder' (rup HO_47.out) (Kd.R_base ho0) hb);replace HB:=am (below_step bl hb);(try clear hb);(try clear ho0))))
        go_ret2
        exact⟨_,fin1,rup (Kd.R_mono HO454.out (fun _ hk=>trivial)),bl⟩
    ·replace c24:=Bool.eq_false_iff.mpr c24
     subst c24
     replace H:=(if_neg Bool.false_ne_true).symm.trans H
     simp only[Option.some.injEq,Prod.mk.injEq] at H
     obtain⟨rfl,rfl⟩:=H
     go_wp2_with (first|(go_at_call 25;(with_reducible refine(impl_giveTeeth.calls kj4 _ _ l0 _ _ l1 a2 t445 false _ ?side1 ?side2 ?side3 ?side4 A23.out).mono ?_);(case side1=>exact cup (Kd.C_below HR0.out HB.out));(case side2=>exact HC0.out);(case side3=>exact cup (Kd.C_below HR1.out HB.out));(case side4=>exact HC1.out);rintro e w48 ⟨v447,rfl,ho0,hb⟩;have HO448:=am (Kd.R_lower ho0 (below_size bl));replace HB:=am (below_step bl hb);(try clear hb);(try clear ho0)))
     repeat(go_quiet (first|(go_at_call 25;(with_reducible refine(impl_giveTeeth.calls kj4 _ _ l0 _ _ l1 a2 t445 false _ ?side1 ?side2 ?side3 ?side4 A23.out).mono ?_);(case side1=>exact cup (Kd.C_below HR0.out HB.out));(case side2=>exact HC0.out);(case side3=>exact cup (Kd.C_below HR1.out HB.out));(case side4=>exact HC1.out);rintro e w48 ⟨v447,rfl,ho0,hb⟩;have HO448:=am (Kd.R_lower ho0 (below_size bl));replace HB:=am (below_step bl hb);(try clear hb);(try clear ho0)));try go_wp2_with (first|(go_at_call 25;(with_reducible refine(impl_giveTeeth.calls kj4 _ _ l0 _ _ l1 a2 t445 false _ ?side1 ?side2 ?side3 ?side4 A23.out).mono ?_);(case side1=>exact cup (Kd.C_below HR0.out HB.out));(case side2=>exact HC0.out);(case side3=>exact cup (Kd.C_below HR1.out HB.out));(case side4=>exact HC1.out);rintro e w48 ⟨v447,rfl,ho0,hb⟩;have HO448:=am (Kd.R_lower ho0 (below_size bl));replace HB:=am (below_step bl hb);(try clear hb);(try clear ho0))))
     go_ret2
     exact⟨_,fin1,by first|exact Kd.R_nil _ _ _ _ _|exact Kd.N_nil _ _ _ _ _|exact Kd.V_nil _ _ _ _ _|exact Kd.Q_nil _ _ _ _ _|exact Kd.S_nil _ _ _ _ _,bl⟩

def spec_l1Put.l0:Nat→List Int→Int→Int→Option (List Int)
 | 0,_,_,_=>none
 | k+1,x0,x1,x5=>if x5<(x0.length:Int) then(if 0≤x5 then(if(rd x0 x5)<x1 then(spec_l1Put.l0 k x0 x1 (wrap64 (x5+1))) else(if(rd x0 x5)=x1 then(some x0) else((some (([]:List Int):List Int)).bind fun y465=>(if x5≤(x0.length:Int) then((some (x0.take (x5:Int).toNat:List Int)).bind fun y468=>(if y465.length+y468.length<17592186044416 then((some (y465 ++ y468:List Int)).bind fun y472=>(if y472.length<17592186044416 then((some (y472 ++ [x1]:List Int)).bind fun y475=>((some (x0.drop (x5:Int).toNat:List Int)).bind fun y478=>(if y475.length+y478.length<17592186044416 then(some (y475 ++ y478)) else(none)))) else(none))) else(none))) else(none))))) else(none)) else((some (([]:List Int):List Int)).bind fun y485=>(if 0≤x5 then(if x5≤(x0.length:Int) then((some (x0.take (x5:Int).toNat:List Int)).bind fun y488=>(if y485.length+y488.length<17592186044416 then((some (y485 ++ y488:List Int)).bind fun y492=>(if y492.length<17592186044416 then((some (y492 ++ [x1]:List Int)).bind fun y495=>((some (x0.drop (x5:Int).toNat:List Int)).bind fun y498=>(if y495.length+y498.length<17592186044416 then(some (y495 ++ y498)) else(none)))) else(none))) else(none))) else(none)) else(none)))
def spec_l1Put.f (k:Nat) (l0:List Int) (a1:Int):Option (List Int):=spec_l1Put.l0 k l0 a1 0
set_option maxHeartbeats 8000000 in
set_option maxRecDepth 100000 in
theorem spec_l1Put.calls (k:Nat) (P0_:Nat→Prop) (u9000_:Value) (l0:List Int) (a1:Int) (r:List Int) (w0 w:World) (hB:Below w0.heap.size w0 w) (ho0:Kd.R (Kd.int .i64) 3 w w0.heap.size P0_ u9000_ l0) (h:spec_l1Put.f k l0 a1=some r) :
  Calls Try.prog 33 #[u9000_,.int .i64 a1] w fun e w'=>∃ v0_:Value,e = .returned (v0_)∧Kd.R (Kd.int .i64) 3 w' w0.heap.size (fun k_=>(P0_ k_∨w.heap.size≤k_)) v0_ r∧Below w0.heap.size w0 w'∧Kept w w' (fun k_=>P0_ k_):=by
 have HO0:=am (show Kd.R (Kd.int .i64) 3 w w0.heap.size (fun k_=>(P0_ k_∨w.heap.size≤k_)) u9000_ l0 from Kd.R_mono ho0 (fun k_ hk=>(.inl hk)))
 have HK:=am (Kept.refl w (fun k_=>P0_ k_))
 have HW0:=am hB.size
 have HB:=am hB
 clear hB
 have H:(spec_l1Put.l0 k l0 a1 0)=some r:=h
 clear h
 have H':=am H
 clear H
 go_enter Try.func33,Try.ntmps33
 go_wp2
 go_loopg [5] k (fun kq v5 w'=>∃(x5_1:Int),v5 = .int .i64 x5_1∧Aside0 (spec_l1Put.l0 kq l0 a1 x5_1=some r)∧Aside0 (kq≤k)∧Aside0 (Kd.R (Kd.int .i64) 3 w' w0.heap.size (fun k_=>(P0_ k_∨w.heap.size≤k_)) u9000_ l0)∧Aside0 (Kept w w' (fun k_=>P0_ k_))∧Aside0 (Below w0.heap.size w0 w'))
 case atStart=>exact⟨(0),fin2,H',⟨Nat.le_refl _⟩,⟨rup HO0.out⟩,⟨by repeat(first|(with_reducible first|exact HK.out|apply Kept.alloc|apply Kept.drewN|apply Kept.drew)|exact HK.out)⟩,⟨bl⟩⟩
 case round =>
  clear H'
  obtain⟨x5_1,rfl,HA,HK1,HO_0,HK,HB⟩:=hrel
  cases gk with
  | zero=>exact absurd HA.out (by simp [spec_l1Put.l0])
  | succ k1 =>
   have H:=HA.out
   clear HA
   simp only[spec_l1Put.l0] at H
   rcases itc H with⟨c3,H⟩|⟨c3,H⟩
   ·have c3b0:=decide_eq_true c3
    clear c3
    obtain⟨c4b0,H⟩:=ifb H
    rcases itc H with⟨c5,H⟩|⟨c5,H⟩
    ·have c5b0:=decide_eq_true c5
     clear c5
     have H':=am H
     clear H
     obtain⟨Ao6,co6,eo6⟩:=Kd.R_slice HO_0.out
     subst eo6
     have p463:0≤(x5_1:Int):=od
     have q463:x5_1<(l0.length:Int):=od
     obtain⟨ad463,e463,hx463_0⟩:=Kd.at_int (Kd.R_reads' HO_0.out).2.2 x5_1 p463 q463
     cases e463
     replace p463:=eq_true p463
     replace q463:=eq_true q463
     go_wp2
     go_roundg k1
     case measure=>have:=HK1.out;omega
     case rel=>exact⟨(wrap64 (x5_1+1)),fin2,H',⟨by have:=HK1.out;omega⟩,⟨rup HO_0.out⟩,⟨by repeat(first|(with_reducible first|exact HK.out|apply Kept.alloc|apply Kept.drewN|apply Kept.drew)|exact HK.out)⟩,⟨bl⟩⟩
    ·have c5b0:=decide_eq_false c5
     clear c5
     rcases itc H with⟨c7,H⟩|⟨c7,H⟩
     ·have c7b0:((rd l0 x5_1) == a1)=true:=beq_iff_eq.mpr c7
      have c7b1:((rd l0 x5_1) != a1)=false:=bne_eq_false_iff_eq.mpr c7
      clear c7
      obtain rfl:=Option.some.inj H
      obtain⟨Ao8,co8,eo8⟩:=Kd.R_slice HO_0.out
      subst eo8
      have p463:0≤(x5_1:Int):=od
      have q463:x5_1<(l0.length:Int):=od
      obtain⟨ad463,e463,hx463_0⟩:=Kd.at_int (Kd.R_reads' HO_0.out).2.2 x5_1 p463 q463
      cases e463
      replace p463:=eq_true p463
      replace q463:=eq_true q463
      have p464:0≤(x5_1:Int):=od
      have q464:x5_1<(l0.length:Int):=od
      obtain⟨ad464,e464,hx464_0⟩:=Kd.at_int (Kd.R_reads' HO_0.out).2.2 x5_1 p464 q464
      obtain rfl:ad463=ad464:=(by injection e464)
      replace p464:=eq_true p464
      replace q464:=eq_true q464
      go_wp2
      go_ret
      exact⟨_,fin1,by(with_reducible repeat(first|apply Kd.R_alloc|apply Kd.R_drewN|apply Kd.R_drew));exact HO_0.out,by repeat(first|(with_reducible first|exact HB.out|apply below_alloc|apply pw_below_drewN|apply below_drew1)|exact HB.out),by repeat(first|(with_reducible first|exact HK.out|apply Kept.alloc|apply Kept.drewN|apply Kept.drew)|exact HK.out)⟩
     ·have c7b0:((rd l0 x5_1) == a1)=false:=beq_eq_false_iff_ne.mpr c7
      have c7b1:((rd l0 x5_1) != a1)=true:=bne_iff_ne.mpr c7
      obtain⟨y465,hy465⟩:∃ y_:List Int,y_=(([]:List Int)):=⟨_,rfl⟩
      replace H:(if x5_1≤(l0.length:Int) then((some (l0.take (x5_1:Int).toNat:List Int)).bind fun y468=>(if y465.length+y468.length<17592186044416 then((some (y465 ++ y468:List Int)).bind fun y472=>(if y472.length<17592186044416 then((some (y472 ++ [a1]:List Int)).bind fun y475=>((some (l0.drop (x5_1:Int).toNat:List Int)).bind fun y478=>(if y475.length+y478.length<17592186044416 then(some (y475 ++ y478)) else(none)))) else(none))) else(none))) else(none))=some r:=by subst hy465;exact H
      have Ny465:=am hy465
      clear hy465
      have c9b0:=eq_true (od:0≤x5_1)
      obtain⟨c10,H⟩:=ifp H
      have c10b0:=eq_true c10
      have c10b1:decide (x5_1≤(l0.length:Int))=true:=decide_eq_true c10
      clear c10
      obtain⟨y468,hy468⟩:∃ y_:List Int,y_=(l0.take (x5_1:Int).toNat):=⟨_,rfl⟩
      replace H:(if y465.length+y468.length<17592186044416 then((some (y465 ++ y468:List Int)).bind fun y472=>(if y472.length<17592186044416 then((some (y472 ++ [a1]:List Int)).bind fun y475=>((some (l0.drop (x5_1:Int).toNat:List Int)).bind fun y478=>(if y475.length+y478.length<17592186044416 then(some (y475 ++ y478)) else(none)))) else(none))) else(none))=some r:=by subst hy468;exact H
      have Ny468:=am hy468
      clear hy468
      obtain⟨c11,H⟩:=ifp H
      have LMc11:=am c11
      clear c11
      obtain⟨y472,hy472⟩:∃ y_:List Int,y_=(y465 ++ y468):=⟨_,rfl⟩
      replace H:(if y472.length<17592186044416 then((some (y472 ++ [a1]:List Int)).bind fun y475=>((some (l0.drop (x5_1:Int).toNat:List Int)).bind fun y478=>(if y475.length+y478.length<17592186044416 then(some (y475 ++ y478)) else(none)))) else(none))=some r:=by subst hy472;exact H
      have Ny472:=am hy472
      clear hy472
      obtain⟨c12,H⟩:=ifp H
      have LMc12:=am c12
      clear c12
      obtain⟨y475,hy475⟩:∃ y_:List Int,y_=(y472 ++ [a1]):=⟨_,rfl⟩
      replace H:((some (l0.drop (x5_1:Int).toNat:List Int)).bind fun y478=>(if y475.length+y478.length<17592186044416 then(some (y475 ++ y478)) else(none)))=some r:=by subst hy475;exact H
      have Ny475:=am hy475
      clear hy475
      have c13b0:=eq_true (od:0≤x5_1)
      have c14b0:=eq_true (od:x5_1≤(l0.length:Int))
      obtain⟨y478,hy478⟩:∃ y_:List Int,y_=(l0.drop (x5_1:Int).toNat):=⟨_,rfl⟩
      replace H:(if y475.length+y478.length<17592186044416 then(some (y475 ++ y478)) else(none))=some r:=by subst hy478;exact H
      have Ny478:=am hy478
      clear hy478
      obtain⟨c15,H⟩:=ifp H
      have LMc15:=am c15
      clear c15
      obtain⟨y482,hy482⟩:∃ y_:List Int,y_=(y475 ++ y478):=⟨_,rfl⟩
      replace H:(some y482)=some r:=by subst hy482;exact H
      have Ny482:=am hy482
      clear hy482
      obtain rfl:=Option.some.inj H
      obtain⟨Ao16,co16,eo16⟩:=Kd.R_slice HO_0.out
      subst eo16
      have p463:0≤(x5_1:Int):=od
      have q463:x5_1<(l0.length:Int):=od
      obtain⟨ad463,e463,hx463_0⟩:=Kd.at_int (Kd.R_reads' HO_0.out).2.2 x5_1 p463 q463
      cases e463
      replace p463:=eq_true p463
      replace q463:=eq_true q463
      have p464:0≤(x5_1:Int):=od
      have q464:x5_1<(l0.length:Int):=od
      obtain⟨ad464,e464,hx464_0⟩:=Kd.at_int (Kd.R_reads' HO_0.out).2.2 x5_1 p464 q464
      obtain rfl:ad463=ad464:=(by injection e464)
      replace p464:=eq_true p464
      replace q464:=eq_true q464
      go_wp2_with (first|((with_reducible refine gate_dst (N:=34) rfl ?_);refine Kd.R_lit (Kd.int .i64) _ 3 ?hg (N:=34) ?hd (xs:=([]:List Int)) (inner:=[]) (ok:=fun _=>True) (okp:=fun _=>True) ?hr ?hp (fun _ hk=>hk) trivial (Below.refl _ _) (Nat.le_refl _) (by simp) ?_;(case hd=>rfl);(case hg=>rfl);(case hr=>first|(go_simp;done)|(go_simp;rfl));(case hp=>exact(Reps.none _ _));intro v466 w17 ho18 hb hg_ hnew_;clear hg_ hnew_;(first|rw[← Ny465.out] at ho18|(simp only[Int.reduceToNat] at ho18;rw[← Ny465.out] at ho18));have HO467:=am (Kd.R_lower (Kd.R_new' (Kd.R_newM (M:=fun k_=>(P0_ k_∨w.heap.size≤k_)) ho18 (by first|exact HK.out.1|exact(show Kept w _ (fun k_=>P0_ k_) from by repeat(first|(with_reducible first|exact HK.out|apply Kept.alloc|apply Kept.drewN|apply Kept.drew)|exact HK.out)).1) (fun k_ h_ => .inr h_)) (Kd.R_lt (rup HO_0.out))) (below_size bl));replace HO_0:=am (Kd.R_elder' (rup HO_0.out) (Kd.R_base ho18) hb);replace HK:=am (Kept.below (S:=(fun k_=>P0_ k_)) (by repeat(first|(with_reducible first|exact HK.out|apply Kept.alloc|apply Kept.drewN|apply Kept.drew)|exact HK.out)) hb);replace HB:=am (below_step bl hb);clear hb ho18;have q19:(x5_1:Int)≤((l0.length:Int):Int):=od;obtain⟨i019,hi019,_,hsz19,_⟩:=info_parts info3;have hroom19:l0.length≤co16:=(Kd.R_reads' HO_0.out).2.1;have hC19:Kd.C (Kd.int .i64) _ (some ad463) l0.length l0:=(Kd.R_reads' HO_0.out).2.2;have hcut19:=cut_to (P:=Try.prog) 27 3 .i64 Try.underlying27 hi019 (some ad463) l0.length co16 x5_1 (od) q19 hroom19;have hr19:=Kd.C_take (m:=(x5_1:Int).toNat) hC19 (by omega);have hy19:y468.length=(x5_1:Int).toNat:=(by rw[Ny468.out,List.length_take];omega);rw[← Ny468.out] at hr19;rw[← hy19] at hcut19;have HR471:=am hr19;have HC471:=am (show y468.length≤co16 from by omega);clear hr19 hC19 hroom19 hi019 hsz19;have KY19:=am hy19;clear hy19;have KL19:=am (show(x5_1:Int).toNat≤l0.length from by omega);replace q19:=eq_true q19)|((with_reducible refine gate_builtin (b := .append) (xs := #[.tmp 34,.tmp 37]) rfl ?_);at_builtin;refine Kd.R_append_rows (Kd.int .i64) (w0:=w0) w0.heap.size rfl (.tmp 34) (.tmp 37) 27 3 (.int .i64 0) 8 rfl Try.underlying27 info3 rfl (by decide) (by omega) v466 y465 y468 _ _ _ (fun k_=>(P0_ k_∨w.heap.size≤k_)∧some k_≠(.slice (some ad463) l0.length co16:Value).ownBlock) (fun _=>False) rfl rfl ?aO ?aR (fun _ _ h=>h) (fun _ h=>h.elim) ?aF ?aB ?aS ?aL ?_;(case aR=>repeat(first|exact(by repeat(first|(with_reducible exact HR471.out)|(with_reducible refine Kd.C_alloc ?_ _)|(with_reducible refine Kd.C_drewN ?_ _)|(with_reducible refine Kd.C_drew ?_)|exact HR471.out))|(with_reducible refine Kd.C_alloc ?_ _)|(with_reducible refine Kd.C_drewN ?_ _)|(with_reducible refine Kd.C_drew ?_)));(case aB=>exact bl);(case aF=>exact(fun k_ hk=>⟨(.inr (Nat.le_trans (by first|exact HK.out.1|exact(show Kept w _ (fun k_=>P0_ k_) from by repeat(first|(with_reducible first|exact HK.out|apply Kept.alloc|apply Kept.drewN|apply Kept.drew)|exact HK.out)).1) hk)),Kd.fresh' (Kd.R_lt (rup HO_0.out)) k_ hk⟩));(case aO=>exact(rup (Kd.R_mono HO467.out (fun _ hk=>⟨hk.1.1,hk.2⟩))));(case aS=>exact(below_size bl));(case aL=>have:=LMc11.out;omega);intro v473 w20 ho hb hg hat;rw[← Ny472.out] at ho;replace HB:=am (hb);replace HK:=am (Kept.of_grown (S:=(fun k_=>P0_ k_)) hg (by repeat(first|(with_reducible first|exact HK.out|apply Kept.alloc|apply Kept.drewN|apply Kept.drew)|exact HK.out)) (fun k_ e_=>(HO467.out.1 k_ e_).1.1));replace HR471:=am ((show Kd.C (Kd.int .i64) w20 (some ad463) y468.length y468 from by rw[Ny468.out];exact Kd.C_take (m:=(x5_1:Int).toNat) ((Kd.R_reads' (Kd.R_after (ok:=(fun k_=>(P0_ k_∨w.heap.size≤k_))) (rup HO_0.out) hg hat)).2.2) KL19.out));replace HO_0:=am (Kd.R_after (ok:=(fun k_=>(P0_ k_∨w.heap.size≤k_))) (rup HO_0.out) hg hat);have HO474:=am (ho);clear HO467 ho hb hg hat)|((with_reducible refine gate_builtin (b := .append) (xs := #[.tmp 39,.tmp 41]) rfl ?_);at_builtin;refine Kd.R_append (Kd.int .i64) (w0:=w0) w0.heap.size rfl (.tmp 39) (.tmp 41) 27 3 (.int .i64 0) 8 rfl Try.underlying27 info3 rfl (by decide) (by omega) v473 y472 a1 [.int .i64 a1] (fun k_=>(P0_ k_∨w.heap.size≤k_)∧some k_≠(.slice (some ad463) l0.length co16:Value).ownBlock) (fun _=>False) rfl rfl ?aP (fun _ hk=>hk.elim) ?aF ?aO ?aB ?aS ?aL ?_;(case aP=>exact rfl);(case aB=>exact bl);(case aF=>exact(fun k_ hk=>⟨(.inr (Nat.le_trans (by first|exact HK.out.1|exact(show Kept w _ (fun k_=>P0_ k_) from by repeat(first|(with_reducible first|exact HK.out|apply Kept.alloc|apply Kept.drewN|apply Kept.drew)|exact HK.out)).1) hk)),Kd.fresh' (Kd.R_lt (rup HO_0.out)) k_ hk⟩));(case aO=>exact(rup HO474.out));(case aS=>exact(below_size bl));(case aL=>have:=LMc12.out;omega);intro v476 w21 ho hb hg hat;rw[← Ny475.out] at ho;replace HB:=am (hb);replace HK:=am (Kept.of_grown (S:=(fun k_=>P0_ k_)) hg (by repeat(first|(with_reducible first|exact HK.out|apply Kept.alloc|apply Kept.drewN|apply Kept.drew)|exact HK.out)) (fun k_ e_=>(HO474.out.1 k_ e_).1));replace HR471:=am ((show Kd.C (Kd.int .i64) w21 (some ad463) y468.length y468 from by rw[Ny468.out];exact Kd.C_take (m:=(x5_1:Int).toNat) ((Kd.R_reads' (Kd.R_after (ok:=(fun k_=>(P0_ k_∨w.heap.size≤k_))) (rup HO_0.out) hg hat)).2.2) KL19.out));replace HO_0:=am (Kd.R_after (ok:=(fun k_=>(P0_ k_∨w.heap.size≤k_))) (rup HO_0.out) hg hat);have HO477:=am (ho);clear HO474 ho hb hg hat;have q22:(x5_1:Int)≤((l0.length:Int):Int):=od;obtain⟨i022,hi022,_,hsz22,_⟩:=info_parts info3;have hroom22:l0.length≤co16:=(Kd.R_reads' HO_0.out).2.1;have hC22:Kd.C (Kd.int .i64) _ (some ad463) l0.length l0:=(Kd.R_reads' HO_0.out).2.2;have q022:(0:Int)≤(x5_1:Int):=od;have hcut22:=cut_from (P:=Try.prog) 27 3 .i64 Try.underlying27 hi022 1 hsz22 (some ad463) l0.length co16 x5_1 q022 q22;have hr22:=Kd.C_drop (m:=(x5_1:Int).toNat) (c:=co16) hC22 (by omega) hroom22;obtain⟨A22,hA22⟩:∃ A1,A1=(if co16=(x5_1:Int).toNat then(some ad463) else((some ad463):Option Addr).map (·.add ((x5_1:Int).toNat*1))):=⟨_,rfl⟩;obtain⟨c22,hc22⟩:∃ c1,c1=co16 - (x5_1:Int).toNat:=⟨_,rfl⟩;have hy22:y478.length=l0.length - (x5_1:Int).toNat:=(by rw[Ny478.out,List.length_drop]<;>omega);rw[show(l0).drop (x5_1:Int).toNat=y478 from Ny478.out.symm] at hr22;replace hr22:Kd.C (Kd.int .i64) _ A22 y478.length y478:=(by rw[hA22];exact hr22);rw[← hy22,← hA22,← hc22] at hcut22;have HR481:=am hr22;have HC481:=am (show y478.length≤c22 from by rw[hy22,hc22];exact Nat.sub_le_sub_right hroom22 _);clear hr22 hC22 hroom22 hi022 hsz22 hc22;have KY22:=am hy22;have KA22:=am hA22;clear hy22 hA22;have KL22:=am (show(x5_1:Int).toNat≤l0.length from by omega);replace q22:=eq_true q22)|((with_reducible refine gate_builtin (b := .append) (xs := #[.tmp 43,.tmp 46]) rfl ?_);at_builtin;refine Kd.R_append_rows (Kd.int .i64) (w0:=w0) w0.heap.size rfl (.tmp 43) (.tmp 46) 27 3 (.int .i64 0) 8 rfl Try.underlying27 info3 rfl (by decide) (by omega) v476 y475 y478 _ _ _ (fun k_=>(P0_ k_∨w.heap.size≤k_)∧some k_≠(.slice (some ad463) l0.length co16:Value).ownBlock) (fun _=>False) rfl rfl ?aO ?aR (fun _ _ h=>h) (fun _ h=>h.elim) ?aF ?aB ?aS ?aL ?_;(case aR=>repeat(first|exact(by repeat(first|(with_reducible exact HR481.out)|(with_reducible refine Kd.C_alloc ?_ _)|(with_reducible refine Kd.C_drewN ?_ _)|(with_reducible refine Kd.C_drew ?_)|exact HR481.out))|(with_reducible refine Kd.C_alloc ?_ _)|(with_reducible refine Kd.C_drewN ?_ _)|(with_reducible refine Kd.C_drew ?_)));(case aB=>exact bl);(case aF=>exact(fun k_ hk=>⟨(.inr (Nat.le_trans (by first|exact HK.out.1|exact(show Kept w _ (fun k_=>P0_ k_) from by repeat(first|(with_reducible first|exact HK.out|apply Kept.alloc|apply Kept.drewN|apply Kept.drew)|exact HK.out)).1) hk)),Kd.fresh' (Kd.R_lt (rup HO_0.out)) k_ hk⟩));(case aO=>exact(rup HO477.out));(case aS=>exact(below_size bl));(case aL=>have:=LMc15.out;omega);intro v483 w23 ho hb hg hat;rw[← Ny482.out] at ho;replace HB:=am (hb);replace HK:=am (Kept.of_grown (S:=(fun k_=>P0_ k_)) hg (by repeat(first|(with_reducible first|exact HK.out|apply Kept.alloc|apply Kept.drewN|apply Kept.drew)|exact HK.out)) (fun k_ e_=>(HO477.out.1 k_ e_).1));replace HR471:=am ((show Kd.C (Kd.int .i64) w23 (some ad463) y468.length y468 from by rw[Ny468.out];exact Kd.C_take (m:=(x5_1:Int).toNat) ((Kd.R_reads' (Kd.R_after (ok:=(fun k_=>(P0_ k_∨w.heap.size≤k_))) (rup HO_0.out) hg hat)).2.2) KL19.out));replace HR481:=am ((show Kd.C (Kd.int .i64) w23 A22 y478.length y478 from by rw[Ny478.out,KA22.out];exact Kd.C_drop (m:=(x5_1:Int).toNat) (c:=co16) ((Kd.R_reads' (Kd.R_after (ok:=(fun k_=>(P0_ k_∨w.heap.size≤k_))) (rup HO_0.out) hg hat)).2.2) KL22.out ((Kd.R_reads' (Kd.R_after (ok:=(fun k_=>(P0_ k_∨w.heap.size≤k_))) (rup HO_0.out) hg hat)).2.1)));replace HO_0:=am (Kd.R_after (ok:=(fun k_=>(P0_ k_∨w.heap.size≤k_))) (rup HO_0.out) hg hat);have HO484:=am (ho);clear HO477 ho hb hg hat))
      go_ret
      exact⟨_,fin1,rup (Kd.R_mono HO484.out (fun _ hk=>hk.1)),by repeat(first|(with_reducible first|exact HB.out|apply below_alloc|apply pw_below_drewN|apply below_drew1)|exact HB.out),by repeat(first|(with_reducible first|exact HK.out|apply Kept.alloc|apply Kept.drewN|apply Kept.drew)|exact HK.out)⟩
   ·have c3b0:=decide_eq_false c3
    clear c3
    obtain⟨y485,hy485⟩:∃ y_:List Int,y_=(([]:List Int)):=⟨_,rfl⟩
    replace H:(if 0≤x5_1 then(if x5_1≤(l0.length:Int) then((some (l0.take (x5_1:Int).toNat:List Int)).bind fun y488=>(if y485.length+y488.length<17592186044416 then((some (y485 ++ y488:List Int)).bind fun y492=>(if y492.length<17592186044416 then((some (y492 ++ [a1]:List Int)).bind fun y495=>((some (l0.drop (x5_1:Int).toNat:List Int)).bind fun y498=>(if y495.length+y498.length<17592186044416 then(some (y495 ++ y498)) else(none)))) else(none))) else(none))) else(none)) else(none))=some r:=by subst hy485;exact H
    have Ny485:=am hy485
    clear hy485
    obtain⟨c24,H⟩:=ifp H
    have c24b0:=eq_true c24
    have c24b1:decide (0≤x5_1)=true:=decide_eq_true c24
    clear c24
    obtain⟨c25,H⟩:=ifp H
    have c25b0:=eq_true c25
    have c25b1:decide (x5_1≤(l0.length:Int))=true:=decide_eq_true c25
    clear c25
    obtain⟨y488,hy488⟩:∃ y_:List Int,y_=(l0.take (x5_1:Int).toNat):=⟨_,rfl⟩
    replace H:(if y485.length+y488.length<17592186044416 then((some (y485 ++ y488:List Int)).bind fun y492=>(if y492.length<17592186044416 then((some (y492 ++ [a1]:List Int)).bind fun y495=>((some (l0.drop (x5_1:Int).toNat:List Int)).bind fun y498=>(if y495.length+y498.length<17592186044416 then(some (y495 ++ y498)) else(none)))) else(none))) else(none))=some r:=by subst hy488;exact H
    have Ny488:=am hy488
    clear hy488
    obtain⟨c26,H⟩:=ifp H
    have LMc26:=am c26
    clear c26
    obtain⟨y492,hy492⟩:∃ y_:List Int,y_=(y485 ++ y488):=⟨_,rfl⟩
    replace H:(if y492.length<17592186044416 then((some (y492 ++ [a1]:List Int)).bind fun y495=>((some (l0.drop (x5_1:Int).toNat:List Int)).bind fun y498=>(if y495.length+y498.length<17592186044416 then(some (y495 ++ y498)) else(none)))) else(none))=some r:=by subst hy492;exact H
    have Ny492:=am hy492
    clear hy492
    obtain⟨c27,H⟩:=ifp H
    have LMc27:=am c27
    clear c27
    obtain⟨y495,hy495⟩:∃ y_:List Int,y_=(y492 ++ [a1]):=⟨_,rfl⟩
    replace H:((some (l0.drop (x5_1:Int).toNat:List Int)).bind fun y498=>(if y495.length+y498.length<17592186044416 then(some (y495 ++ y498)) else(none)))=some r:=by subst hy495;exact H
    have Ny495:=am hy495
    clear hy495
    have c28b0:=eq_true (od:0≤x5_1)
    have c29b0:=eq_true (od:x5_1≤(l0.length:Int))
    obtain⟨y498,hy498⟩:∃ y_:List Int,y_=(l0.drop (x5_1:Int).toNat):=⟨_,rfl⟩
    replace H:(if y495.length+y498.length<17592186044416 then(some (y495 ++ y498)) else(none))=some r:=by subst hy498;exact H
    have Ny498:=am hy498
    clear hy498
    obtain⟨c30,H⟩:=ifp H
    have LMc30:=am c30
    clear c30
    obtain⟨y502,hy502⟩:∃ y_:List Int,y_=(y495 ++ y498):=⟨_,rfl⟩
    replace H:(some y502)=some r:=by subst hy502;exact H
    have Ny502:=am hy502
    clear hy502
    obtain rfl:=Option.some.inj H
    obtain⟨Ao31,co31,eo31⟩:=Kd.R_slice HO_0.out
    subst eo31
    go_wp2_with (first|((with_reducible refine gate_dst (N:=34) rfl ?_);refine Kd.R_lit (Kd.int .i64) _ 3 ?hg (N:=34) ?hd (xs:=([]:List Int)) (inner:=[]) (ok:=fun _=>True) (okp:=fun _=>True) ?hr ?hp (fun _ hk=>hk) trivial (Below.refl _ _) (Nat.le_refl _) (by simp) ?_;(case hd=>rfl);(case hg=>rfl);(case hr=>first|(go_simp;done)|(go_simp;rfl));(case hp=>exact(Reps.none _ _));intro v486 w32 ho33 hb hg_ hnew_;clear hg_ hnew_;(first|rw[← Ny485.out] at ho33|(simp only[Int.reduceToNat] at ho33;rw[← Ny485.out] at ho33));have HO487:=am (Kd.R_lower (Kd.R_new' (Kd.R_newM (M:=fun k_=>(P0_ k_∨w.heap.size≤k_)) ho33 (by first|exact HK.out.1|exact(show Kept w _ (fun k_=>P0_ k_) from by repeat(first|(with_reducible first|exact HK.out|apply Kept.alloc|apply Kept.drewN|apply Kept.drew)|exact HK.out)).1) (fun k_ h_ => .inr h_)) (Kd.R_lt (rup HO_0.out))) (below_size bl));replace HO_0:=am (Kd.R_elder' (rup HO_0.out) (Kd.R_base ho33) hb);replace HK:=am (Kept.below (S:=(fun k_=>P0_ k_)) (by repeat(first|(with_reducible first|exact HK.out|apply Kept.alloc|apply Kept.drewN|apply Kept.drew)|exact HK.out)) hb);replace HB:=am (below_step bl hb);clear hb ho33;have q34:(x5_1:Int)≤((l0.length:Int):Int):=od;obtain⟨i034,hi034,_,hsz34,_⟩:=info_parts info3;have hroom34:l0.length≤co31:=(Kd.R_reads' HO_0.out).2.1;have hC34:Kd.C (Kd.int .i64) _ Ao31 l0.length l0:=(Kd.R_reads' HO_0.out).2.2;have hcut34:=cut_to (P:=Try.prog) 27 3 .i64 Try.underlying27 hi034 Ao31 l0.length co31 x5_1 (od) q34 hroom34;have hr34:=Kd.C_take (m:=(x5_1:Int).toNat) hC34 (by omega);have hy34:y488.length=(x5_1:Int).toNat:=(by rw[Ny488.out,List.length_take];omega);rw[← Ny488.out] at hr34;rw[← hy34] at hcut34;have HR491:=am hr34;have HC491:=am (show y488.length≤co31 from by omega);clear hr34 hC34 hroom34 hi034 hsz34;have KY34:=am hy34;clear hy34;have KL34:=am (show(x5_1:Int).toNat≤l0.length from by omega);replace q34:=eq_true q34)|((with_reducible refine gate_builtin (b := .append) (xs := #[.tmp 34,.tmp 37]) rfl ?_);at_builtin;refine Kd.R_append_rows (Kd.int .i64) (w0:=w0) w0.heap.size rfl (.tmp 34) (.tmp 37) 27 3 (.int .i64 0) 8 rfl Try.underlying27 info3 rfl (by decide) (by omega) v486 y485 y488 _ _ _ (fun k_=>(P0_ k_∨w.heap.size≤k_)∧some k_≠(.slice Ao31 l0.length co31:Value).ownBlock) (fun _=>False) rfl rfl ?aO ?aR (fun _ _ h=>h) (fun _ h=>h.elim) ?aF ?aB ?aS ?aL ?_;(case aR=>repeat(first|exact(by repeat(first|(with_reducible exact HR491.out)|(with_reducible refine Kd.C_alloc ?_ _)|(with_reducible refine Kd.C_drewN ?_ _)|(with_reducible refine Kd.C_drew ?_)|exact HR491.out))|(with_reducible refine Kd.C_alloc ?_ _)|(with_reducible refine Kd.C_drewN ?_ _)|(with_reducible refine Kd.C_drew ?_)));(case aB=>exact bl);(case aF=>exact(fun k_ hk=>⟨(.inr (Nat.le_trans (by first|exact HK.out.1|exact(show Kept w _ (fun k_=>P0_ k_) from by repeat(first|(with_reducible first|exact HK.out|apply Kept.alloc|apply Kept.drewN|apply Kept.drew)|exact HK.out)).1) hk)),Kd.fresh' (Kd.R_lt (rup HO_0.out)) k_ hk⟩));(case aO=>exact(rup (Kd.R_mono HO487.out (fun _ hk=>⟨hk.1.1,hk.2⟩))));(case aS=>exact(below_size bl));(case aL=>have:=LMc26.out;omega);intro v493 w35 ho hb hg hat;rw[← Ny492.out] at ho;replace HB:=am (hb);replace HK:=am (Kept.of_grown (S:=(fun k_=>P0_ k_)) hg (by repeat(first|(with_reducible first|exact HK.out|apply Kept.alloc|apply Kept.drewN|apply Kept.drew)|exact HK.out)) (fun k_ e_=>(HO487.out.1 k_ e_).1.1));replace HR491:=am ((show Kd.C (Kd.int .i64) w35 Ao31 y488.length y488 from by rw[Ny488.out];exact Kd.C_take (m:=(x5_1:Int).toNat) ((Kd.R_reads' (Kd.R_after (ok:=(fun k_=>(P0_ k_∨w.heap.size≤k_))) (rup HO_0.out) hg hat)).2.2) KL34.out));replace HO_0:=am (Kd.R_after (ok:=(fun k_=>(P0_ k_∨w.heap.size≤k_))) (rup HO_0.out) hg hat);have HO494:=am (ho);clear HO487 ho hb hg hat)|((with_reducible refine gate_builtin (b := .append) (xs := #[.tmp 39,.tmp 41]) rfl ?_);at_builtin;refine Kd.R_append (Kd.int .i64) (w0:=w0) w0.heap.size rfl (.tmp 39) (.tmp 41) 27 3 (.int .i64 0) 8 rfl Try.underlying27 info3 rfl (by decide) (by omega) v493 y492 a1 [.int .i64 a1] (fun k_=>(P0_ k_∨w.heap.size≤k_)∧some k_≠(.slice Ao31 l0.length co31:Value).ownBlock) (fun _=>False) rfl rfl ?aP (fun _ hk=>hk.elim) ?aF ?aO ?aB ?aS ?aL ?_;(case aP=>exact rfl);(case aB=>exact bl);(case aF=>exact(fun k_ hk=>⟨(.inr (Nat.le_trans (by first|exact HK.out.1|exact(show Kept w _ (fun k_=>P0_ k_) from by repeat(first|(with_reducible first|exact HK.out|apply Kept.alloc|apply Kept.drewN|apply Kept.drew)|exact HK.out)).1) hk)),Kd.fresh' (Kd.R_lt (rup HO_0.out)) k_ hk⟩));(case aO=>exact(rup HO494.out));(case aS=>exact(below_size bl));(case aL=>have:=LMc27.out;omega);intro v496 w36 ho hb hg hat;rw[← Ny495.out] at ho;replace HB:=am (hb);replace HK:=am (Kept.of_grown (S:=(fun k_=>P0_ k_)) hg (by repeat(first|(with_reducible first|exact HK.out|apply Kept.alloc|apply Kept.drewN|apply Kept.drew)|exact HK.out)) (fun k_ e_=>(HO494.out.1 k_ e_).1));replace HR491:=am ((show Kd.C (Kd.int .i64) w36 Ao31 y488.length y488 from by rw[Ny488.out];exact Kd.C_take (m:=(x5_1:Int).toNat) ((Kd.R_reads' (Kd.R_after (ok:=(fun k_=>(P0_ k_∨w.heap.size≤k_))) (rup HO_0.out) hg hat)).2.2) KL34.out));replace HO_0:=am (Kd.R_after (ok:=(fun k_=>(P0_ k_∨w.heap.size≤k_))) (rup HO_0.out) hg hat);have HO497:=am (ho);clear HO494 ho hb hg hat;have q37:(x5_1:Int)≤((l0.length:Int):Int):=od;obtain⟨i037,hi037,_,hsz37,_⟩:=info_parts info3;have hroom37:l0.length≤co31:=(Kd.R_reads' HO_0.out).2.1;have hC37:Kd.C (Kd.int .i64) _ Ao31 l0.length l0:=(Kd.R_reads' HO_0.out).2.2;have q037:(0:Int)≤(x5_1:Int):=od;have hcut37:=cut_from (P:=Try.prog) 27 3 .i64 Try.underlying27 hi037 1 hsz37 Ao31 l0.length co31 x5_1 q037 q37;have hr37:=Kd.C_drop (m:=(x5_1:Int).toNat) (c:=co31) hC37 (by omega) hroom37;obtain⟨A37,hA37⟩:∃ A1,A1=(if co31=(x5_1:Int).toNat then Ao31 else(Ao31:Option Addr).map (·.add ((x5_1:Int).toNat*1))):=⟨_,rfl⟩;obtain⟨c37,hc37⟩:∃ c1,c1=co31 - (x5_1:Int).toNat:=⟨_,rfl⟩;have hy37:y498.length=l0.length - (x5_1:Int).toNat:=(by rw[Ny498.out,List.length_drop]<;>omega);rw[show(l0).drop (x5_1:Int).toNat=y498 from Ny498.out.symm] at hr37;replace hr37:Kd.C (Kd.int .i64) _ A37 y498.length y498:=(by rw[hA37];exact hr37);rw[← hy37,← hA37,← hc37] at hcut37;have HR501:=am hr37;have HC501:=am (show y498.length≤c37 from by rw[hy37,hc37];exact Nat.sub_le_sub_right hroom37 _);clear hr37 hC37 hroom37 hi037 hsz37 hc37;have KY37:=am hy37;have KA37:=am hA37;clear hy37 hA37;have KL37:=am (show(x5_1:Int).toNat≤l0.length from by omega);replace q37:=eq_true q37)|((with_reducible refine gate_builtin (b := .append) (xs := #[.tmp 43,.tmp 46]) rfl ?_);at_builtin;refine Kd.R_append_rows (Kd.int .i64) (w0:=w0) w0.heap.size rfl (.tmp 43) (.tmp 46) 27 3 (.int .i64 0) 8 rfl Try.underlying27 info3 rfl (by decide) (by omega) v496 y495 y498 _ _ _ (fun k_=>(P0_ k_∨w.heap.size≤k_)∧some k_≠(.slice Ao31 l0.length co31:Value).ownBlock) (fun _=>False) rfl rfl ?aO ?aR (fun _ _ h=>h) (fun _ h=>h.elim) ?aF ?aB ?aS ?aL ?_;(case aR=>repeat(first|exact(by repeat(first|(with_reducible exact HR501.out)|(with_reducible refine Kd.C_alloc ?_ _)|(with_reducible refine Kd.C_drewN ?_ _)|(with_reducible refine Kd.C_drew ?_)|exact HR501.out))|(with_reducible refine Kd.C_alloc ?_ _)|(with_reducible refine Kd.C_drewN ?_ _)|(with_reducible refine Kd.C_drew ?_)));(case aB=>exact bl);(case aF=>exact(fun k_ hk=>⟨(.inr (Nat.le_trans (by first|exact HK.out.1|exact(show Kept w _ (fun k_=>P0_ k_) from by repeat(first|(with_reducible first|exact HK.out|apply Kept.alloc|apply Kept.drewN|apply Kept.drew)|exact HK.out)).1) hk)),Kd.fresh' (Kd.R_lt (rup HO_0.out)) k_ hk⟩));(case aO=>exact(rup HO497.out));(case aS=>exact(below_size bl));(case aL=>have:=LMc30.out;omega);intro v503 w38 ho hb hg hat;rw[← Ny502.out] at ho;replace HB:=am (hb);replace HK:=am (Kept.of_grown (S:=(fun k_=>P0_ k_)) hg (by repeat(first|(with_reducible first|exact HK.out|apply Kept.alloc|apply Kept.drewN|apply Kept.drew)|exact HK.out)) (fun k_ e_=>(HO497.out.1 k_ e_).1));replace HR491:=am ((show Kd.C (Kd.int .i64) w38 Ao31 y488.length y488 from by rw[Ny488.out];exact Kd.C_take (m:=(x5_1:Int).toNat) ((Kd.R_reads' (Kd.R_after (ok:=(fun k_=>(P0_ k_∨w.heap.size≤k_))) (rup HO_0.out) hg hat)).2.2) KL34.out));replace HR501:=am ((show Kd.C (Kd.int .i64) w38 A37 y498.length y498 from by rw[Ny498.out,KA37.out];exact Kd.C_drop (m:=(x5_1:Int).toNat) (c:=co31) ((Kd.R_reads' (Kd.R_after (ok:=(fun k_=>(P0_ k_∨w.heap.size≤k_))) (rup HO_0.out) hg hat)).2.2) KL37.out ((Kd.R_reads' (Kd.R_after (ok:=(fun k_=>(P0_ k_∨w.heap.size≤k_))) (rup HO_0.out) hg hat)).2.1)));replace HO_0:=am (Kd.R_after (ok:=(fun k_=>(P0_ k_∨w.heap.size≤k_))) (rup HO_0.out) hg hat);have HO504:=am (ho);clear HO497 ho hb hg hat))
    go_ret
    exact⟨_,fin1,rup (Kd.R_mono HO504.out (fun _ hk=>hk.1)),by repeat(first|(with_reducible first|exact HB.out|apply below_alloc|apply pw_below_drewN|apply below_drew1)|exact HB.out),by repeat(first|(with_reducible first|exact HK.out|apply Kept.alloc|apply Kept.drewN|apply Kept.drew)|exact HK.out)⟩

end Go.Proofs.Ytiekokdlcgpcdaa.PFnStrikes
