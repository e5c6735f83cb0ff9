/- The walks of functions that FnDrums reaches: what they return is what the plain functions of the same names say. Made by a program of this session after the kit's print. No conditions beyond the arguments' being read. -/
import Derived.Test.YtlhjjpdlfddflacSFnDrums0
import Derived.Test.YtlhjjpdlfddflacSFnDrums1
import Derived.Test.YtlhjjpdlfddflacSFnDrums2
import Derived.Test.YtlhjjpdlfddflacSFnDrums3
import Derived.Test.YtlhjjpdlfddflacSFnDrums4
import Derived.Test.YtlhjjpdlfddflacSFnDrums5
import Derived.Test.YtlhjjpdlfddflacSFnDrums6
import Derived.Test.YtlhjjpdlfddflacSFnDrums7
import Derived.Test.YtlhjjpdlfddflacSFnDrums8
import Derived.Test.YtlhjjpdlfddflacSFnDrums9
import Derived.Test.YtlhjjpdlfddflacSFnDrums10
namespace Go.Proofs.Ytlhjjpdlfddflac.PFnDrums
open Go.RowKit Go.Proofs.YtlhjjpdlfddflacW.PrintWords Go.Proofs.YtlhjjpdlfddflacW.PrintLast Go.Proofs.YtlhjjpdlfddflacW.PrintMore
attribute [local go_sem] max2_int min2_int max_two min_two max_three min_three max_four min_four   -- for this text's walks alone
set_option linter.unusedVariables false
set_option linter.unusedSimpArgs false

/-! ### laws_FnDrums: function 3 -/
mutual
def laws_FnDrums.j0:Nat→List Int→Int→Bool→Bool→Int→List Int→Int→List Int→Int→List Int→Option (Bool)
 | 0,_,_,_,_,_,_,_,_,_,_=>none
 | k+1,x1,x6,x8,x74,x415000,x415001,x421000,x421001,x427000,x427001=>if x74=true then(some false) else(if x8=true then((impl_LeastTurn.f k x415000 x415001 x421000 x421001).bind fun bt428=>((spec_LeastTurn.f k x415000 x415001 x427000 x427001).bind fun bt430=>(if bt428.2=true then(if bt430.2=true then(if bt428.1=bt430.1 then(if bt430.1>x6 then(laws_FnDrums.j1 k x1 x6 true x415000 x415001 x427000 x427001) else(laws_FnDrums.j1 k x1 x6 ((x427001.length:Int) != (x415001.length:Int)) x415000 x415001 x427000 x427001)) else(laws_FnDrums.j1 k x1 x6 true x415000 x415001 x427000 x427001)) else(laws_FnDrums.j1 k x1 x6 true x415000 x415001 x427000 x427001)) else(laws_FnDrums.j1 k x1 x6 true x415000 x415001 x427000 x427001)))) else(laws_FnDrums.j3 k x1))
def laws_FnDrums.j3:Nat→List Int→Option (Bool)
 | 0,_=>none
 | k+1,x1=>(spec_DrawMostTogether.f k x1).bind fun t434=>((impl_MostTogether.f k t434).bind fun bt437=>((spec_MostTogether.f k t434).bind fun bt440=>((impl_CommonSteps.f k t434).bind fun bt443=>((spec_CommonSteps.f k t434).bind fun bt445=>((impl_TogetherAt.f k t434).bind fun bt447=>((spec_TogetherAt.f k t434).bind fun bt449=>(if(bt437.2.2 != bt440.2.2)=true then(laws_FnDrums.j4 k x1 t434 bt437.2.2 bt440.1 bt440.2.1 bt445.1 true) else(if bt437.1=bt440.1 then(if bt437.2.1=bt440.2.1 then(if(bt443.2 != bt445.2)=true then(laws_FnDrums.j4 k x1 t434 bt437.2.2 bt440.1 bt440.2.1 bt445.1 true) else(if bt443.1=bt445.1 then(if(bt447.2 != bt449.2)=true then(laws_FnDrums.j4 k x1 t434 bt437.2.2 bt440.1 bt440.2.1 bt445.1 true) else(if bt447.1=bt449.1 then(if(bt443.2 != bt437.2.2)=true then(laws_FnDrums.j4 k x1 t434 bt437.2.2 bt440.1 bt440.2.1 bt445.1 true) else(if bt437.2.2=true then(if(bt447.2 != (bt440.2.1 == (t434.length:Int)))=true then(laws_FnDrums.j4 k x1 t434 bt437.2.2 bt440.1 bt440.2.1 bt445.1 true) else(if bt447.2=true then(laws_FnDrums.j4 k x1 t434 bt437.2.2 bt440.1 bt440.2.1 bt445.1 (bt449.1 != bt440.1)) else(laws_FnDrums.j4 k x1 t434 bt437.2.2 bt440.1 bt440.2.1 bt445.1 false))) else(if(bt447.2 != false)=true then(laws_FnDrums.j4 k x1 t434 bt437.2.2 bt440.1 bt440.2.1 bt445.1 true) else(if bt447.2=true then(laws_FnDrums.j4 k x1 t434 bt437.2.2 bt440.1 bt440.2.1 bt445.1 (bt449.1 != bt440.1)) else(laws_FnDrums.j4 k x1 t434 bt437.2.2 bt440.1 bt440.2.1 bt445.1 false))))) else(laws_FnDrums.j4 k x1 t434 bt437.2.2 bt440.1 bt440.2.1 bt445.1 true))) else(laws_FnDrums.j4 k x1 t434 bt437.2.2 bt440.1 bt440.2.1 bt445.1 true))) else(laws_FnDrums.j4 k x1 t434 bt437.2.2 bt440.1 bt440.2.1 bt445.1 true)) else(laws_FnDrums.j4 k x1 t434 bt437.2.2 bt440.1 bt440.2.1 bt445.1 true)))))))))
def laws_FnDrums.j4:Nat→List Int→List (S26)→Bool→Int→Int→Int→Bool→Option (Bool)
 | 0,_,_,_,_,_,_,_=>none
 | k+1,x1,x17,x20,x21,x22,x26,x221=>if x221=true then(some false) else(if x20=true then(laws_FnDrums.l1 k x1 x17 x21 x22 x26 x17 (x17.length:Int) 0) else(laws_FnDrums.j9 k x1))
def laws_FnDrums.j9:Nat→List Int→Option (Bool)
 | 0,_=>none
 | k+1,x1=>(spec_DrawLeastTurn.f k x1).bind fun bt456=>((impl_LeastTurn.f k bt456.1 bt456.2.1 bt456.2.2.1 bt456.2.2.2).bind fun bt466=>((spec_LeastTurn.f k bt456.1 bt456.2.1 bt456.2.2.1 bt456.2.2.2).bind fun bt468=>(if(bt466.2 != bt468.2)=true then(laws_FnDrums.j10 k bt466.2 bt468.1 true bt456.1 bt456.2.1 bt456.2.2.1 bt456.2.2.2) else(laws_FnDrums.j10 k bt466.2 bt468.1 (bt466.1 != bt468.1) bt456.1 bt456.2.1 bt456.2.2.1 bt456.2.2.2))))
def laws_FnDrums.j10:Nat→Bool→Int→Bool→Int→List Int→Int→List Int→Option (Bool)
 | 0,_,_,_,_,_,_,_=>none
 | k+1,x41,x42,x307,x465000,x465001,x466000,x466001=>if x307=true then(some false) else(if x41=true then((impl_TurnPattern.f k x465000 x465001 x42).bind fun bt470=>(if bt470.2.2=true then((laws_pSamePattern.f k bt470.1 bt470.2.1 x466000 x466001).bind fun t476=>(some t476)) else(some false))) else(some true))
def laws_FnDrums.l1:Nat→List Int→List (S26)→Int→Int→Int→List (S26)→Int→Int→Option (Bool)
 | 0,_,_,_,_,_,_,_,_=>none
 | k+1,x1,x17,x21,x22,x26,x223,x224,x225=>if x225<x224 then(if 0≤x225 then(if x225<(x223.length:Int) then(if((rd_T26 x223 x225).f0)=0 then(none) else(if(Int.tmod x26 ((rd_T26 x223 x225).f0))=0 then(laws_FnDrums.l1 k x1 x17 x21 x22 x26 x223 x224 (wrap64 (x225+1))) else(some false))) else(none)) else(none)) else(laws_FnDrums.l2 k x1 x17 x21 x22 x26 0)
def laws_FnDrums.l2:Nat→List Int→List (S26)→Int→Int→Int→Int→Option (Bool)
 | 0,_,_,_,_,_,_=>none
 | k+1,x1,x17,x21,x22,x26,x34=>if x34<x26 then(laws_FnDrums.j7 k x1 x17 x21 x22 x26 x34 (decide (x34<200))) else(laws_FnDrums.j7 k x1 x17 x21 x22 x26 x34 false)
def laws_FnDrums.j7:Nat→List Int→List (S26)→Int→Int→Int→Int→Bool→Option (Bool)
 | 0,_,_,_,_,_,_,_=>none
 | k+1,x1,x17,x21,x22,x26,x34,x241=>if x241=true then(laws_FnDrums.l3 k x1 x17 x21 x22 x26 x34 0 x17 (x17.length:Int) 0) else(laws_FnDrums.j9 k x1)
def laws_FnDrums.l3:Nat→List Int→List (S26)→Int→Int→Int→Int→Int→List (S26)→Int→Int→Option (Bool)
 | 0,_,_,_,_,_,_,_,_,_,_=>none
 | k+1,x1,x17,x21,x22,x26,x34,x35,x244,x245,x246=>if x246<x245 then(if 0≤x246 then(if x246<(x244.length:Int) then(if((rd_T26 x244 x246).f0)=0 then(none) else((laws_pIn.f k ((rd_T26 x244 x246).f1) (Int.tmod x34 ((rd_T26 x244 x246).f0))).bind fun t455=>(if t455=true then(laws_FnDrums.l3 k x1 x17 x21 x22 x26 x34 (wrap64 (x35+1)) x244 x245 (wrap64 (x246+1))) else(laws_FnDrums.l3 k x1 x17 x21 x22 x26 x34 x35 x244 x245 (wrap64 (x246+1)))))) else(none)) else(none)) else(if x35>x22 then(some false) else(if x35=x22 then(if x34<x21 then(some false) else(if x34=x21 then(laws_FnDrums.l2 k x1 x17 x21 x22 x26 (wrap64 (x34+1))) else(laws_FnDrums.l2 k x1 x17 x21 x22 x26 (wrap64 (x34+1))))) else(if x34=x21 then(some false) else(laws_FnDrums.l2 k x1 x17 x21 x22 x26 (wrap64 (x34+1))))))
def laws_FnDrums.j1:Nat→List Int→Int→Bool→Int→List Int→Int→List Int→Option (Bool)
 | 0,_,_,_,_,_,_,_=>none
 | k+1,x1,x6,x112,x415000,x415001,x427000,x427001=>if x112=true then(some false) else(laws_FnDrums.l0 k x1 x6 x415001 (x415001.length:Int) 0 x415000 x415001 x427000 x427001)
def laws_FnDrums.l0:Nat→List Int→Int→List Int→Int→Int→Int→List Int→Int→List Int→Option (Bool)
 | 0,_,_,_,_,_,_,_,_,_=>none
 | k+1,x1,x6,x114,x115,x116,x415000,x415001,x427000,x427001=>if x116<x115 then(if 0≤x116 then(if x116<(x114.length:Int) then(if x415000=0 then(none) else((laws_pIn.f k x427001 (Int.tmod (wrap64 ((rd x114 x116)+x6)) x415000)).bind fun t433=>(if t433=true then(laws_FnDrums.l0 k x1 x6 x114 x115 (wrap64 (x116+1)) x415000 x415001 x427000 x427001) else(some false)))) else(none)) else(none)) else(laws_FnDrums.j3 k x1)
end
theorem laws_FnDrums.j0_dead {k:Nat} {a0:List Int} {a1:Int} {a2:Bool} {a4:Int} {a5:List Int} {a6:Int} {a7:List Int} {a8:Int} {a9:List Int} {r:Bool} (h:laws_FnDrums.j0 k a0 a1 a2 true a4 a5 a6 a7 a8 a9=some r):¬ r=true:=by
 cases k with
 | zero=>simp [laws_FnDrums.j0] at h
 | succ k =>
  have h2:some false=some r:=h
  obtain rfl:=Option.some.inj h2
  simp
theorem laws_FnDrums.j1_dead {k:Nat} {a0:List Int} {a1:Int} {a3:Int} {a4:List Int} {a5:Int} {a6:List Int} {r:Bool} (h:laws_FnDrums.j1 k a0 a1 true a3 a4 a5 a6=some r):¬ r=true:=by
 cases k with
 | zero=>simp [laws_FnDrums.j1] at h
 | succ k =>
  have h2:some false=some r:=h
  obtain rfl:=Option.some.inj h2
  simp
theorem laws_FnDrums.j10_dead {k:Nat} {a0:Bool} {a1:Int} {a3:Int} {a4:List Int} {a5:Int} {a6:List Int} {r:Bool} (h:laws_FnDrums.j10 k a0 a1 true a3 a4 a5 a6=some r):¬ r=true:=by
 cases k with
 | zero=>simp [laws_FnDrums.j10] at h
 | succ k =>
  have h2:some false=some r:=h
  obtain rfl:=Option.some.inj h2
  simp
theorem laws_FnDrums.j4_dead {k:Nat} {a0:List Int} {a1:List (S26)} {a2:Bool} {a3:Int} {a4:Int} {a5:Int} {r:Bool} (h:laws_FnDrums.j4 k a0 a1 a2 a3 a4 a5 true=some r):¬ r=true:=by
 cases k with
 | zero=>simp [laws_FnDrums.j4] at h
 | succ k =>
  have h2:some false=some r:=h
  obtain rfl:=Option.some.inj h2
  simp
def laws_FnDrums.f (k:Nat) (l0:List Int) (l1:List Int):Option (Bool):=(laws_big.f l0 l1).bind fun t408=>(if t408=true then(some true) else((spec_DrawTurnPattern.f k l0).bind fun bt409=>((impl_TurnPattern.f k bt409.1 bt409.2.1 bt409.2.2).bind fun bt415=>((spec_TurnPattern.f k bt409.1 bt409.2.1 bt409.2.2).bind fun bt421=>(if(bt415.2.2 != bt421.2.2)=true then(laws_FnDrums.j0 k l1 bt409.2.2 bt415.2.2 true bt409.1 bt409.2.1 bt415.1 bt415.2.1 bt421.1 bt421.2.1) else((laws_pSamePattern.f k bt415.1 bt415.2.1 bt421.1 bt421.2.1).bind fun t427=>(laws_FnDrums.j0 k l1 bt409.2.2 bt415.2.2 (!t427) bt409.1 bt409.2.1 bt415.1 bt415.2.1 bt421.1 bt421.2.1)))))))
set_option maxHeartbeats 8000000 in
set_option maxRecDepth 100000 in
theorem laws_FnDrums.calls (k:Nat) (A0:Option Addr) (c0:Nat) (l0:List Int) (A1:Option Addr) (c1:Nat) (l1:List Int) (r:Bool) (w:World) (hr0:Kd.C (Kd.int .u8) w A0 l0.length l0) (hc0:l0.length≤c0) (hr1:Kd.C (Kd.int .u8) w A1 l1.length l1) (hc1:l1.length≤c1) (h:laws_FnDrums.f k l0 l1=some r) (hrt:Aside0 (r=true)) :
  Calls Try.prog 3 #[.slice A0 l0.length c0,.slice A1 l1.length c1] w fun e w'=>e = .returned (.bool r)∧Below w.heap.size w w':=by
 have hu26:=Try.underlying26
 have HR0:=am hr0
 have HC0:=am hc0
 clear hr0 hc0
 have HR1:=am hr1
 have HC1:=am hc1
 clear hr1 hc1
 have HB:=am (Below.refl w.heap.size w)
 have H:((laws_big.f l0 l1).bind fun t408=>(if t408=true then(some true) else((spec_DrawTurnPattern.f k l0).bind fun bt409=>((impl_TurnPattern.f k bt409.1 bt409.2.1 bt409.2.2).bind fun bt415=>((spec_TurnPattern.f k bt409.1 bt409.2.1 bt409.2.2).bind fun bt421=>(if(bt415.2.2 != bt421.2.2)=true then(laws_FnDrums.j0 k l1 bt409.2.2 bt415.2.2 true bt409.1 bt409.2.1 bt415.1 bt415.2.1 bt421.1 bt421.2.1) else((laws_pSamePattern.f k bt415.1 bt415.2.1 bt421.1 bt421.2.1).bind fun t427=>(laws_FnDrums.j0 k l1 bt409.2.2 bt415.2.2 (!t427) bt409.1 bt409.2.1 bt415.1 bt415.2.1 bt421.1 bt421.2.1))))))))=some r:=h
 clear h
 replace H:=Option.bind_eq_some_iff.mp H
 obtain⟨t408,A30,H⟩:=H
 replace H:(if t408=true then(some true) else((spec_DrawTurnPattern.f k l0).bind fun bt409=>((impl_TurnPattern.f k bt409.1 bt409.2.1 bt409.2.2).bind fun bt415=>((spec_TurnPattern.f k bt409.1 bt409.2.1 bt409.2.2).bind fun bt421=>(if(bt415.2.2 != bt421.2.2)=true then(laws_FnDrums.j0 k l1 bt409.2.2 bt415.2.2 true bt409.1 bt409.2.1 bt415.1 bt415.2.1 bt421.1 bt421.2.1) else((laws_pSamePattern.f k bt415.1 bt415.2.1 bt421.1 bt421.2.1).bind fun t427=>(laws_FnDrums.j0 k l1 bt409.2.2 bt415.2.2 (!t427) bt409.1 bt409.2.1 bt415.1 bt415.2.1 bt421.1 bt421.2.1)))))))=some r:=H
 have A3:=am A30
 clear A30
 by_cases c4:t408=true
 ·subst c4
  have H1:(some true)=some r:=by rw[if_pos rfl] at H;exact H
  clear H
  have H:=H1
  clear H1
  obtain rfl:=Option.some.inj H
  go_enter Try.func3,Try.ntmps3
  go_wp2_with (first|(go_at_call 4;(with_reducible refine(laws_big.calls _ _ l0 _ _ l1 true _ ?side1 ?side2 ?side3 ?side4 A3.out).mono ?_);(case side1=>repeat(first|exact HR0.out|(with_reducible refine Kd.C_alloc ?_ _)|(with_reducible refine Kd.C_drewN ?_ _)|(with_reducible refine Kd.C_drew ?_)));(case side2=>exact HC0.out);(case side3=>repeat(first|exact HR1.out|(with_reducible refine Kd.C_alloc ?_ _)|(with_reducible refine Kd.C_drewN ?_ _)|(with_reducible refine Kd.C_drew ?_)));(case side4=>exact HC1.out);rintro e w' ⟨rfl,⟨nd,rfl⟩⟩;(try first|exact⟨rfl,_,World.drewN_drewN _ _ _⟩|exact⟨rfl,_,Eq.trans (World.drewN_drewN _ _ _) (congrArg (World.drewN _) (Nat.add_assoc _ _ _))⟩)))
  repeat(go_quiet (first|(go_at_call 4;(with_reducible refine(laws_big.calls _ _ l0 _ _ l1 true _ ?side1 ?side2 ?side3 ?side4 A3.out).mono ?_);(case side1=>repeat(first|exact HR0.out|(with_reducible refine Kd.C_alloc ?_ _)|(with_reducible refine Kd.C_drewN ?_ _)|(with_reducible refine Kd.C_drew ?_)));(case side2=>exact HC0.out);(case side3=>repeat(first|exact HR1.out|(with_reducible refine Kd.C_alloc ?_ _)|(with_reducible refine Kd.C_drewN ?_ _)|(with_reducible refine Kd.C_drew ?_)));(case side4=>exact HC1.out);rintro e w' ⟨rfl,⟨nd,rfl⟩⟩;(try first|exact⟨rfl,_,World.drewN_drewN _ _ _⟩|exact⟨rfl,_,Eq.trans (World.drewN_drewN _ _ _) (congrArg (World.drewN _) (Nat.add_assoc _ _ _))⟩)));try go_wp2_with (first|(go_at_call 4;(with_reducible refine(laws_big.calls _ _ l0 _ _ l1 true _ ?side1 ?side2 ?side3 ?side4 A3.out).mono ?_);(case side1=>repeat(first|exact HR0.out|(with_reducible refine Kd.C_alloc ?_ _)|(with_reducible refine Kd.C_drewN ?_ _)|(with_reducible refine Kd.C_drew ?_)));(case side2=>exact HC0.out);(case side3=>repeat(first|exact HR1.out|(with_reducible refine Kd.C_alloc ?_ _)|(with_reducible refine Kd.C_drewN ?_ _)|(with_reducible refine Kd.C_drew ?_)));(case side4=>exact HC1.out);rintro e w' ⟨rfl,⟨nd,rfl⟩⟩;(try first|exact⟨rfl,_,World.drewN_drewN _ _ _⟩|exact⟨rfl,_,Eq.trans (World.drewN_drewN _ _ _) (congrArg (World.drewN _) (Nat.add_assoc _ _ _))⟩))))
  go_ret
  exact⟨fin1,bl⟩
 ·replace c4:=Bool.eq_false_iff.mpr c4
  subst c4
  have H1:((spec_DrawTurnPattern.f k l0).bind fun bt409=>((impl_TurnPattern.f k bt409.1 bt409.2.1 bt409.2.2).bind fun bt415=>((spec_TurnPattern.f k bt409.1 bt409.2.1 bt409.2.2).bind fun bt421=>(if(bt415.2.2 != bt421.2.2)=true then(laws_FnDrums.j0 k l1 bt409.2.2 bt415.2.2 true bt409.1 bt409.2.1 bt415.1 bt415.2.1 bt421.1 bt421.2.1) else((laws_pSamePattern.f k bt415.1 bt415.2.1 bt421.1 bt421.2.1).bind fun t427=>(laws_FnDrums.j0 k l1 bt409.2.2 bt415.2.2 (!t427) bt409.1 bt409.2.1 bt415.1 bt415.2.1 bt421.1 bt421.2.1))))))=some r:=by rw[if_neg (show ¬ (false=true) by decide)] at H;exact H
  clear H
  have H:=H1
  clear H1
  replace H:=Option.bind_eq_some_iff.mp H
  obtain⟨⟨t409,t410,t413⟩,A50,H⟩:=H
  replace H:((impl_TurnPattern.f k t409 t410 t413).bind fun bt415=>((spec_TurnPattern.f k t409 t410 t413).bind fun bt421=>(if(bt415.2.2 != bt421.2.2)=true then(laws_FnDrums.j0 k l1 t413 bt415.2.2 true t409 t410 bt415.1 bt415.2.1 bt421.1 bt421.2.1) else((laws_pSamePattern.f k bt415.1 bt415.2.1 bt421.1 bt421.2.1).bind fun t427=>(laws_FnDrums.j0 k l1 t413 bt415.2.2 (!t427) t409 t410 bt415.1 bt415.2.1 bt421.1 bt421.2.1)))))=some r:=H
  have A5:=am A50
  clear A50
  replace H:=Option.bind_eq_some_iff.mp H
  obtain⟨⟨t415,t416,t419⟩,A60,H⟩:=H
  replace H:((spec_TurnPattern.f k t409 t410 t413).bind fun bt421=>(if(t419 != bt421.2.2)=true then(laws_FnDrums.j0 k l1 t413 t419 true t409 t410 t415 t416 bt421.1 bt421.2.1) else((laws_pSamePattern.f k t415 t416 bt421.1 bt421.2.1).bind fun t427=>(laws_FnDrums.j0 k l1 t413 t419 (!t427) t409 t410 t415 t416 bt421.1 bt421.2.1))))=some r:=H
  have A6:=am A60
  clear A60
  replace H:=Option.bind_eq_some_iff.mp H
  obtain⟨⟨t421,t422,t425⟩,A70,H⟩:=H
  replace H:(if(t419 != t425)=true then(laws_FnDrums.j0 k l1 t413 t419 true t409 t410 t415 t416 t421 t422) else((laws_pSamePattern.f k t415 t416 t421 t422).bind fun t427=>(laws_FnDrums.j0 k l1 t413 t419 (!t427) t409 t410 t415 t416 t421 t422)))=some r:=H
  have A7:=am A70
  clear A70
  have HC8:=am H
  clear H
  go_enter Try.func3,Try.ntmps3
  go_upto_region 6 with(first|(go_at_call 4;(with_reducible refine(laws_big.calls _ _ l0 _ _ l1 false _ ?side1 ?side2 ?side3 ?side4 A3.out).mono ?_);(case side1=>repeat(first|exact HR0.out|(with_reducible refine Kd.C_alloc ?_ _)|(with_reducible refine Kd.C_drewN ?_ _)|(with_reducible refine Kd.C_drew ?_)));(case side2=>exact HC0.out);(case side3=>repeat(first|exact HR1.out|(with_reducible refine Kd.C_alloc ?_ _)|(with_reducible refine Kd.C_drewN ?_ _)|(with_reducible refine Kd.C_drew ?_)));(case side4=>exact HC1.out);rintro e w' ⟨rfl,⟨nd,rfl⟩⟩;(try first|exact⟨rfl,_,World.drewN_drewN _ _ _⟩|exact⟨rfl,_,Eq.trans (World.drewN_drewN _ _ _) (congrArg (World.drewN _) (Nat.add_assoc _ _ _))⟩))|(go_at_call 5;(with_reducible refine(spec_DrawTurnPattern.calls k _ _ l0 t409 t410 t413 _ ?side1 ?side2 A5.out).mono ?_);(case side1=>repeat(first|exact HR0.out|(with_reducible refine Kd.C_alloc ?_ _)|(with_reducible refine Kd.C_drewN ?_ _)|(with_reducible refine Kd.C_drew ?_)));(case side2=>exact HC0.out);rintro e w9 ⟨v411,rfl,ho0,hb⟩;have n0_:=am (Kd.R_lower ho0 (below_size bl));have n1_:=am (below_step bl hb);clear HB;have HO412:=n0_;have HB:=n1_;clear n0_ n1_;(try clear hb);(try clear hb2);(try clear hk);(try clear hi);(try clear ho0))|((with_reducible refine gate_dst (N:=5) rfl ?_);(try(refine gate_guard (by rfl) ?_;dsimp only));refine box_event ?hg (N:=5) ?hd (cs := #[.int .i64 0,.slice none 0 0]) (t:=26) ?hr ?_;(case hd=>rfl);(case hg=>rfl);(case hr=>first|(go_simp;done)|(go_simp;rfl));intro gb414 hg w10 hbox hb;have n0_:=am (Kd.R_below (rup HO412.out) hb);have n1_:=am (below_step bl hb);have n2_:=am (hbox);have n3_:=am (ge_ bl hg);have n4_:=am (ge_ bl hg);clear HO412 HB;have HO412:=n0_;have HB:=n1_;have BK414:=n2_;have GW414:=n3_;have GE414:=n4_;clear n0_ n1_ n2_ n3_ n4_ hb hbox hg;have hcz11_0:w10.cell? ⟨gb414,0,none⟩=some (.int .i64 0):=(blk_cell BK414.out 0).trans rfl;have hcz11_1:w10.cell? ⟨gb414,1,none⟩=some (.slice none 0 0):=(blk_cell BK414.out 1).trans rfl;have hfz11_0:=blk_frozen BK414.out 0;have hfz11_1:=blk_frozen BK414.out 1;obtain⟨Ao12,co12,eo12⟩:=Kd.R_slice HO412.out;subst eo12)|(go_at_call 6;(with_reducible refine(impl_TurnPattern.calls k t409 _ _ t410 t413 t415 t416 t419 _ ?side1 ?side2 A6.out).mono ?_);(case side1=>refine(Kd.R_reads' (e:=3) (base:=w.heap.size) (ok:=fun k_=>True) (n:=t410.length) (c:=co12) ?_).2.2;exact(by(with_reducible repeat(first|apply Kd.R_alloc|apply Kd.R_drewN|apply Kd.R_drew));exact(Kd.R_mono (Kd.R_far (p:=⟨gb414,1,none⟩) (Kd.R_far (p:=⟨gb414,0,none⟩) (Kd.R_types HO412.out BK414.out (by decide)) (fun _ hk=>hk.2) (.int .i64 t409)) (fun _ hk=>hk.2) (.slice Ao12 t410.length co12)) (fun _ h_=>h_.1))));(case side2=>exact(Kd.R_reads' HO412.out).2.1);rintro e w13 ⟨v417,rfl,ho0,hb⟩;have n0_:=am (Kd.R_elder' (by(with_reducible repeat(first|apply Kd.R_alloc|apply Kd.R_drewN|apply Kd.R_drew));exact(Kd.R_mono (Kd.R_far (p:=⟨gb414,1,none⟩) (Kd.R_far (p:=⟨gb414,0,none⟩) (Kd.R_types HO412.out BK414.out (by decide)) (fun _ hk=>hk.2) (.int .i64 t409)) (fun _ hk=>hk.2) (.slice Ao12 t410.length co12)) (fun _ h_=>h_.1))) (Kd.R_base ho0) hb);have n1_:=am (Kd.R_lower (Kd.R_new' ho0 (Kd.R_lt (by(with_reducible repeat(first|apply Kd.R_alloc|apply Kd.R_drewN|apply Kd.R_drew));exact(Kd.R_mono (Kd.R_far (p:=⟨gb414,1,none⟩) (Kd.R_far (p:=⟨gb414,0,none⟩) (Kd.R_types HO412.out BK414.out (by decide)) (fun _ hk=>hk.2) (.int .i64 t409)) (fun _ hk=>hk.2) (.slice Ao12 t410.length co12)) (fun _ h_=>h_.1))))) (below_size bl));have n2_:=am (blk_below (g:=gb414) (o := .cells #[.int .i64 t409,.slice Ao12 t410.length co12] 26 (0,0)) (by(with_reducible repeat(first|refine bN_ ?_ _|refine bD_ ?_|refine bA_ ?_ _));refine blk_put (cs := #[.int .i64 t409,.slice none 0 0]) ?_ 1 _ rfl;(with_reducible repeat(first|refine bN_ ?_ _|refine bD_ ?_|refine bA_ ?_ _));refine blk_put (cs := #[.int .i64 0,.slice none 0 0]) ?_ 0 _ rfl;exact bup BK414.out) hb);have n3_:=am (below_step bl hb);clear HO412 BK414 HB;have HO412:=n0_;have HO418:=n1_;have BK414:=n2_;have HB:=n3_;clear n0_ n1_ n2_ n3_;(try clear hb);(try clear hb2);(try clear hk);(try clear hi);(try clear ho0))|((with_reducible refine gate_dst (N:=7) rfl ?_);(try(refine gate_guard (by rfl) ?_;dsimp only));refine box_event ?hg (N:=7) ?hd (cs := #[.int .i64 0,.slice none 0 0]) (t:=26) ?hr ?_;(case hd=>rfl);(case hg=>rfl);(case hr=>first|(go_simp;done)|(go_simp;rfl));intro gb420 hg w14 hbox hb;have n0_:=am (Kd.R_below (rup HO412.out) hb);have n1_:=am (Kd.R_below (rup HO418.out) hb);have n2_:=am (blk_below (bup BK414.out) hb);have n3_:=am (below_step bl hb);have n4_:=am (hbox);have n5_:=am (ge_ bl hg);have n6_:=am (ge_ bl hg);have n7_:=am (nl (bup BK414.out) hg);have n8_:=am (ng (bup BK414.out) hg);clear HO412 HO418 BK414 HB;have HO412:=n0_;have HO418:=n1_;have BK414:=n2_;have HB:=n3_;have BK420:=n4_;have GW420:=n5_;have GE420:=n6_;have NB414_420:=n7_;have NB420_414:=n8_;clear n0_ n1_ n2_ n3_ n4_ n5_ n6_ n7_ n8_ hb hbox hg;have hnb15:=NB420_414.out;have hnc15:=NB414_420.out;have hcz16_0:w14.cell? ⟨gb420,0,none⟩=some (.int .i64 0):=(blk_cell BK420.out 0).trans rfl;have hcz16_1:w14.cell? ⟨gb420,1,none⟩=some (.slice none 0 0):=(blk_cell BK420.out 1).trans rfl;have hfz16_0:=blk_frozen BK420.out 0;have hfz16_1:=blk_frozen BK420.out 1;obtain⟨Ao17,co17,eo17⟩:=Kd.R_slice HO418.out;subst eo17;have hcz18_0:w14.cell? ⟨gb414,0,none⟩=some (.int .i64 t409):=(blk_cell BK414.out 0).trans rfl;have hcz18_1:w14.cell? ⟨gb414,1,none⟩=some (.slice Ao12 t410.length co12):=(blk_cell BK414.out 1).trans rfl;have hfz18_0:=blk_frozen BK414.out 0;have hfz18_1:=blk_frozen BK414.out 1)|(go_at_call 7;(with_reducible refine(spec_TurnPattern.calls k t409 _ _ t410 t413 t421 t422 t425 _ ?side1 ?side2 A7.out).mono ?_);(case side1=>refine(Kd.R_reads' (e:=3) (base:=w.heap.size) (ok:=fun k_=>(True∧some k_≠(.slice Ao17 t416.length co17:Value).ownBlock)) (n:=t410.length) (c:=co12) ?_).2.2;exact(by(with_reducible repeat(first|apply Kd.R_alloc|apply Kd.R_drewN|apply Kd.R_drew));exact(Kd.R_mono (Kd.R_far (p:=⟨gb420,1,none⟩) (Kd.R_far (p:=⟨gb420,0,none⟩) (Kd.R_types HO412.out BK420.out (by decide)) (fun _ hk=>hk.2) (.int .i64 t415)) (fun _ hk=>hk.2) (.slice Ao17 t416.length co17)) (fun _ h_=>h_.1))));(case side2=>exact(Kd.R_reads' HO412.out).2.1);rintro e w19 ⟨v423,rfl,ho0,hb⟩;have n0_:=am (Kd.R_elder' (by(with_reducible repeat(first|apply Kd.R_alloc|apply Kd.R_drewN|apply Kd.R_drew));exact(Kd.R_mono (Kd.R_far (p:=⟨gb420,1,none⟩) (Kd.R_far (p:=⟨gb420,0,none⟩) (Kd.R_types HO412.out BK420.out (by decide)) (fun _ hk=>hk.2) (.int .i64 t415)) (fun _ hk=>hk.2) (.slice Ao17 t416.length co17)) (fun _ h_=>h_.1))) (Kd.R_base ho0) hb);have n1_:=am (Kd.R_elder' (by(with_reducible repeat(first|apply Kd.R_alloc|apply Kd.R_drewN|apply Kd.R_drew));exact(Kd.R_mono (Kd.R_far (p:=⟨gb420,1,none⟩) (Kd.R_far (p:=⟨gb420,0,none⟩) (Kd.R_types HO418.out BK420.out (by decide)) (fun _ hk=>hk.2) (.int .i64 t415)) (fun _ hk=>hk.2) (.slice Ao17 t416.length co17)) (fun _ h_=>h_.1))) (Kd.R_base ho0) hb);have n2_:=am (Kd.R_lower (Kd.R_new' (Kd.R_new' ho0 (Kd.R_lt (by(with_reducible repeat(first|apply Kd.R_alloc|apply Kd.R_drewN|apply Kd.R_drew));exact(Kd.R_mono (Kd.R_far (p:=⟨gb420,1,none⟩) (Kd.R_far (p:=⟨gb420,0,none⟩) (Kd.R_types HO412.out BK420.out (by decide)) (fun _ hk=>hk.2) (.int .i64 t415)) (fun _ hk=>hk.2) (.slice Ao17 t416.length co17)) (fun _ h_=>h_.1))))) (Kd.R_lt (by(with_reducible repeat(first|apply Kd.R_alloc|apply Kd.R_drewN|apply Kd.R_drew));exact(Kd.R_mono (Kd.R_far (p:=⟨gb420,1,none⟩) (Kd.R_far (p:=⟨gb420,0,none⟩) (Kd.R_types HO418.out BK420.out (by decide)) (fun _ hk=>hk.2) (.int .i64 t415)) (fun _ hk=>hk.2) (.slice Ao17 t416.length co17)) (fun _ h_=>h_.1))))) (below_size bl));have n3_:=am (blk_below (g:=gb414) (o := .cells #[.int .i64 t409,.slice Ao12 t410.length co12] 26 (0,0)) (by(with_reducible repeat(first|refine bN_ ?_ _|refine bD_ ?_|refine bA_ ?_ _));refine blk_far ?_ NB414_420.out _;(with_reducible repeat(first|refine bN_ ?_ _|refine bD_ ?_|refine bA_ ?_ _));refine blk_far ?_ NB414_420.out _;exact bup BK414.out) hb);have n4_:=am (blk_below (g:=gb420) (o := .cells #[.int .i64 t415,.slice Ao17 t416.length co17] 26 (0,0)) (by(with_reducible repeat(first|refine bN_ ?_ _|refine bD_ ?_|refine bA_ ?_ _));refine blk_put (cs := #[.int .i64 t415,.slice none 0 0]) ?_ 1 _ rfl;(with_reducible repeat(first|refine bN_ ?_ _|refine bD_ ?_|refine bA_ ?_ _));refine blk_put (cs := #[.int .i64 0,.slice none 0 0]) ?_ 0 _ rfl;exact bup BK420.out) hb);have n5_:=am (below_step bl hb);clear HO412 HO418 BK414 BK420 HB;have HO412:=n0_;have HO418:=n1_;have HO424:=n2_;have BK414:=n3_;have BK420:=n4_;have HB:=n5_;clear n0_ n1_ n2_ n3_ n4_ n5_;(try clear hb);(try clear hb2);(try clear hk);(try clear hi);(try clear ho0))|((with_reducible refine gate_dst (N:=9) rfl ?_);(try(refine gate_guard (by rfl) ?_;dsimp only));refine box_event ?hg (N:=9) ?hd (cs := #[.int .i64 0,.slice none 0 0]) (t:=26) ?hr ?_;(case hd=>rfl);(case hg=>rfl);(case hr=>first|(go_simp;done)|(go_simp;rfl));intro gb426 hg w20 hbox hb;have n0_:=am (Kd.R_below (rup HO412.out) hb);have n1_:=am (Kd.R_below (rup HO418.out) hb);have n2_:=am (Kd.R_below (rup HO424.out) hb);have n3_:=am (blk_below (bup BK414.out) hb);have n4_:=am (blk_below (bup BK420.out) hb);have n5_:=am (below_step bl hb);have n6_:=am (hbox);have n7_:=am (ge_ bl hg);have n8_:=am (ge_ bl hg);have n9_:=am (nl (bup BK414.out) hg);have n10_:=am (ng (bup BK414.out) hg);have n11_:=am (nl (bup BK420.out) hg);have n12_:=am (ng (bup BK420.out) hg);clear HO412 HO418 HO424 BK414 BK420 HB;have HO412:=n0_;have HO418:=n1_;have HO424:=n2_;have BK414:=n3_;have BK420:=n4_;have HB:=n5_;have BK426:=n6_;have GW426:=n7_;have GE426:=n8_;have NB414_426:=n9_;have NB426_414:=n10_;have NB420_426:=n11_;have NB426_420:=n12_;clear n0_ n1_ n2_ n3_ n4_ n5_ n6_ n7_ n8_ n9_ n10_ n11_ n12_ hb hbox hg;have hnb21:=NB426_414.out;have hnc21:=NB414_426.out;have hnb22:=NB426_420.out;have hnc22:=NB420_426.out;have hcz23_0:w20.cell? ⟨gb426,0,none⟩=some (.int .i64 0):=(blk_cell BK426.out 0).trans rfl;have hcz23_1:w20.cell? ⟨gb426,1,none⟩=some (.slice none 0 0):=(blk_cell BK426.out 1).trans rfl;have hfz23_0:=blk_frozen BK426.out 0;have hfz23_1:=blk_frozen BK426.out 1;obtain⟨Ao24,co24,eo24⟩:=Kd.R_slice HO424.out;subst eo24))
  repeat(go_quiet (first|(go_at_call 4;(with_reducible refine(laws_big.calls _ _ l0 _ _ l1 false _ ?side1 ?side2 ?side3 ?side4 A3.out).mono ?_);(case side1=>repeat(first|exact HR0.out|(with_reducible refine Kd.C_alloc ?_ _)|(with_reducible refine Kd.C_drewN ?_ _)|(with_reducible refine Kd.C_drew ?_)));(case side2=>exact HC0.out);(case side3=>repeat(first|exact HR1.out|(with_reducible refine Kd.C_alloc ?_ _)|(with_reducible refine Kd.C_drewN ?_ _)|(with_reducible refine Kd.C_drew ?_)));(case side4=>exact HC1.out);rintro e w' ⟨rfl,⟨nd,rfl⟩⟩;(try first|exact⟨rfl,_,World.drewN_drewN _ _ _⟩|exact⟨rfl,_,Eq.trans (World.drewN_drewN _ _ _) (congrArg (World.drewN _) (Nat.add_assoc _ _ _))⟩))|(go_at_call 5;(with_reducible refine(spec_DrawTurnPattern.calls k _ _ l0 t409 t410 t413 _ ?side1 ?side2 A5.out).mono ?_);(case side1=>repeat(first|exact HR0.out|(with_reducible refine Kd.C_alloc ?_ _)|(with_reducible refine Kd.C_drewN ?_ _)|(with_reducible refine Kd.C_drew ?_)));(case side2=>exact HC0.out);rintro e w9 ⟨v411,rfl,ho0,hb⟩;have n0_:=am (Kd.R_lower ho0 (below_size bl));have n1_:=am (below_step bl hb);clear HB;have HO412:=n0_;have HB:=n1_;clear n0_ n1_;(try clear hb);(try clear hb2);(try clear hk);(try clear hi);(try clear ho0))|((with_reducible refine gate_dst (N:=5) rfl ?_);(try(refine gate_guard (by rfl) ?_;dsimp only));refine box_event ?hg (N:=5) ?hd (cs := #[.int .i64 0,.slice none 0 0]) (t:=26) ?hr ?_;(case hd=>rfl);(case hg=>rfl);(case hr=>first|(go_simp;done)|(go_simp;rfl));intro gb414 hg w10 hbox hb;have n0_:=am (Kd.R_below (rup HO412.out) hb);have n1_:=am (below_step bl hb);have n2_:=am (hbox);have n3_:=am (ge_ bl hg);have n4_:=am (ge_ bl hg);clear HO412 HB;have HO412:=n0_;have HB:=n1_;have BK414:=n2_;have GW414:=n3_;have GE414:=n4_;clear n0_ n1_ n2_ n3_ n4_ hb hbox hg;have hcz11_0:w10.cell? ⟨gb414,0,none⟩=some (.int .i64 0):=(blk_cell BK414.out 0).trans rfl;have hcz11_1:w10.cell? ⟨gb414,1,none⟩=some (.slice none 0 0):=(blk_cell BK414.out 1).trans rfl;have hfz11_0:=blk_frozen BK414.out 0;have hfz11_1:=blk_frozen BK414.out 1;obtain⟨Ao12,co12,eo12⟩:=Kd.R_slice HO412.out;subst eo12)|(go_at_call 6;(with_reducible refine(impl_TurnPattern.calls k t409 _ _ t410 t413 t415 t416 t419 _ ?side1 ?side2 A6.out).mono ?_);(case side1=>refine(Kd.R_reads' (e:=3) (base:=w.heap.size) (ok:=fun k_=>True) (n:=t410.length) (c:=co12) ?_).2.2;exact(by(with_reducible repeat(first|apply Kd.R_alloc|apply Kd.R_drewN|apply Kd.R_drew));exact(Kd.R_mono (Kd.R_far (p:=⟨gb414,1,none⟩) (Kd.R_far (p:=⟨gb414,0,none⟩) (Kd.R_types HO412.out BK414.out (by decide)) (fun _ hk=>hk.2) (.int .i64 t409)) (fun _ hk=>hk.2) (.slice Ao12 t410.length co12)) (fun _ h_=>h_.1))));(case side2=>exact(Kd.R_reads' HO412.out).2.1);rintro e w13 ⟨v417,rfl,ho0,hb⟩;have n0_:=am (Kd.R_elder' (by(with_reducible repeat(first|apply Kd.R_alloc|apply Kd.R_drewN|apply Kd.R_drew));exact(Kd.R_mono (Kd.R_far (p:=⟨gb414,1,none⟩) (Kd.R_far (p:=⟨gb414,0,none⟩) (Kd.R_types HO412.out BK414.out (by decide)) (fun _ hk=>hk.2) (.int .i64 t409)) (fun _ hk=>hk.2) (.slice Ao12 t410.length co12)) (fun _ h_=>h_.1))) (Kd.R_base ho0) hb);have n1_:=am (Kd.R_lower (Kd.R_new' ho0 (Kd.R_lt (by(with_reducible repeat(first|apply Kd.R_alloc|apply Kd.R_drewN|apply Kd.R_drew));exact(Kd.R_mono (Kd.R_far (p:=⟨gb414,1,none⟩) (Kd.R_far (p:=⟨gb414,0,none⟩) (Kd.R_types HO412.out BK414.out (by decide)) (fun _ hk=>hk.2) (.int .i64 t409)) (fun _ hk=>hk.2) (.slice Ao12 t410.length co12)) (fun _ h_=>h_.1))))) (below_size bl));have n2_:=am (blk_below (g:=gb414) (o := .cells #[.int .i64 t409,.slice Ao12 t410.length co12] 26 (0,0)) (by(with_reducible repeat(first|refine bN_ ?_ _|refine bD_ ?_|refine bA_ ?_ _));refine blk_put (cs := #[.int .i64 t409,.slice none 0 0]) ?_ 1 _ rfl;(with_reducible repeat(first|refine bN_ ?_ _|refine bD_ ?_|refine bA_ ?_ _));refine blk_put (cs := #[.int .i64 0,.slice none 0 0]) ?_ 0 _ rfl;exact bup BK414.out) hb);have n3_:=am (below_step bl hb);clear HO412 BK414 HB;have HO412:=n0_;have HO418:=n1_;have BK414:=n2_;have HB:=n3_;clear n0_ n1_ n2_ n3_;(try clear hb);(try clear hb2);(try clear hk);(try clear hi);(try clear ho0))|((with_reducible refine gate_dst (N:=7) rfl ?_);(try(refine gate_guard (by rfl) ?_;dsimp only));refine box_event ?hg (N:=7) ?hd (cs := #[.int .i64 0,.slice none 0 0]) (t:=26) ?hr ?_;(case hd=>rfl);(case hg=>rfl);(case hr=>first|(go_simp;done)|(go_simp;rfl));intro gb420 hg w14 hbox hb;have n0_:=am (Kd.R_below (rup HO412.out) hb);have n1_:=am (Kd.R_below (rup HO418.out) hb);have n2_:=am (blk_below (bup BK414.out) hb);have n3_:=am (below_step bl hb);have n4_:=am (hbox);have n5_:=am (ge_ bl hg);have n6_:=am (ge_ bl hg);have n7_:=am (nl (bup BK414.out) hg);have n8_:=am (ng (bup BK414.out) hg);clear HO412 HO418 BK414 HB;have HO412:=n0_;have HO418:=n1_;have BK414:=n2_;have HB:=n3_;have BK420:=n4_;have GW420:=n5_;have GE420:=n6_;have NB414_420:=n7_;have NB420_414:=n8_;clear n0_ n1_ n2_ n3_ n4_ n5_ n6_ n7_ n8_ hb hbox hg;have hnb15:=NB420_414.out;have hnc15:=NB414_420.out;have hcz16_0:w14.cell? ⟨gb420,0,none⟩=some (.int .i64 0):=(blk_cell BK420.out 0).trans rfl;have hcz16_1:w14.cell? ⟨gb420,1,none⟩=some (.slice none 0 0):=(blk_cell BK420.out 1).trans rfl;have hfz16_0:=blk_frozen BK420.out 0;have hfz16_1:=blk_frozen BK420.out 1;obtain⟨Ao17,co17,eo17⟩:=Kd.R_slice HO418.out;subst eo17;have hcz18_0:w14.cell? ⟨gb414,0,none⟩=some (.int .i64 t409):=(blk_cell BK414.out 0).trans rfl;have hcz18_1:w14.cell? ⟨gb414,1,none⟩=some (.slice Ao12 t410.length co12):=(blk_cell BK414.out 1).trans rfl;have hfz18_0:=blk_frozen BK414.out 0;have hfz18_1:=blk_frozen BK414.out 1)|(go_at_call 7;(with_reducible refine(spec_TurnPattern.calls k t409 _ _ t410 t413 t421 t422 t425 _ ?side1 ?side2 A7.out).mono ?_);(case side1=>refine(Kd.R_reads' (e:=3) (base:=w.heap.size) (ok:=fun k_=>(True∧some k_≠(.slice Ao17 t416.length co17:Value).ownBlock)) (n:=t410.length) (c:=co12) ?_).2.2;exact(by(with_reducible repeat(first|apply Kd.R_alloc|apply Kd.R_drewN|apply Kd.R_drew));exact(Kd.R_mono (Kd.R_far (p:=⟨gb420,1,none⟩) (Kd.R_far (p:=⟨gb420,0,none⟩) (Kd.R_types HO412.out BK420.out (by decide)) (fun _ hk=>hk.2) (.int .i64 t415)) (fun _ hk=>hk.2) (.slice Ao17 t416.length co17)) (fun _ h_=>h_.1))));(case side2=>exact(Kd.R_reads' HO412.out).2.1);rintro e w19 ⟨v423,rfl,ho0,hb⟩;have n0_:=am (Kd.R_elder' (by(with_reducible repeat(first|apply Kd.R_alloc|apply Kd.R_drewN|apply Kd.R_drew));exact(Kd.R_mono (Kd.R_far (p:=⟨gb420,1,none⟩) (Kd.R_far (p:=⟨gb420,0,none⟩) (Kd.R_types HO412.out BK420.out (by decide)) (fun _ hk=>hk.2) (.int .i64 t415)) (fun _ hk=>hk.2) (.slice Ao17 t416.length co17)) (fun _ h_=>h_.1))) (Kd.R_base ho0) hb);have n1_:=am (Kd.R_elder' (by(with_reducible repeat(first|apply Kd.R_alloc|apply Kd.R_drewN|apply Kd.R_drew));exact(Kd.R_mono (Kd.R_far (p:=⟨gb420,1,none⟩) (Kd.R_far (p:=⟨gb420,0,none⟩) (Kd.R_types HO418.out BK420.out (by decide)) (fun _ hk=>hk.2) (.int .i64 t415)) (fun _ hk=>hk.2) (.slice Ao17 t416.length co17)) (fun _ h_=>h_.1))) (Kd.R_base ho0) hb);have n2_:=am (Kd.R_lower (Kd.R_new' (Kd.R_new' ho0 (Kd.R_lt (by(with_reducible repeat(first|apply Kd.R_alloc|apply Kd.R_drewN|apply Kd.R_drew));exact(Kd.R_mono (Kd.R_far (p:=⟨gb420,1,none⟩) (Kd.R_far (p:=⟨gb420,0,none⟩) (Kd.R_types HO412.out BK420.out (by decide)) (fun _ hk=>hk.2) (.int .i64 t415)) (fun _ hk=>hk.2) (.slice Ao17 t416.length co17)) (fun _ h_=>h_.1))))) (Kd.R_lt (by(with_reducible repeat(first|apply Kd.R_alloc|apply Kd.R_drewN|apply Kd.R_drew));exact(Kd.R_mono (Kd.R_far (p:=⟨gb420,1,none⟩) (Kd.R_far (p:=⟨gb420,0,none⟩) (Kd.R_types HO418.out BK420.out (by decide)) (fun _ hk=>hk.2) (.int .i64 t415)) (fun _ hk=>hk.2) (.slice Ao17 t416.length co17)) (fun _ h_=>h_.1))))) (below_size bl));have n3_:=am (blk_below (g:=gb414) (o := .cells #[.int .i64 t409,.slice Ao12 t410.length co12] 26 (0,0)) (by(with_reducible repeat(first|refine bN_ ?_ _|refine bD_ ?_|refine bA_ ?_ _));refine blk_far ?_ NB414_420.out _;(with_reducible repeat(first|refine bN_ ?_ _|refine bD_ ?_|refine bA_ ?_ _));refine blk_far ?_ NB414_420.out _;exact bup BK414.out) hb);have n4_:=am (blk_below (g:=gb420) (o := .cells #[.int .i64 t415,.slice Ao17 t416.length co17] 26 (0,0)) (by(with_reducible repeat(first|refine bN_ ?_ _|refine bD_ ?_|refine bA_ ?_ _));refine blk_put (cs := #[.int .i64 t415,.slice none 0 0]) ?_ 1 _ rfl;(with_reducible repeat(first|refine bN_ ?_ _|refine bD_ ?_|refine bA_ ?_ _));refine blk_put (cs := #[.int .i64 0,.slice none 0 0]) ?_ 0 _ rfl;exact bup BK420.out) hb);have n5_:=am (below_step bl hb);clear HO412 HO418 BK414 BK420 HB;have HO412:=n0_;have HO418:=n1_;have HO424:=n2_;have BK414:=n3_;have BK420:=n4_;have HB:=n5_;clear n0_ n1_ n2_ n3_ n4_ n5_;(try clear hb);(try clear hb2);(try clear hk);(try clear hi);(try clear ho0))|((with_reducible refine gate_dst (N:=9) rfl ?_);(try(refine gate_guard (by rfl) ?_;dsimp only));refine box_event ?hg (N:=9) ?hd (cs := #[.int .i64 0,.slice none 0 0]) (t:=26) ?hr ?_;(case hd=>rfl);(case hg=>rfl);(case hr=>first|(go_simp;done)|(go_simp;rfl));intro gb426 hg w20 hbox hb;have n0_:=am (Kd.R_below (rup HO412.out) hb);have n1_:=am (Kd.R_below (rup HO418.out) hb);have n2_:=am (Kd.R_below (rup HO424.out) hb);have n3_:=am (blk_below (bup BK414.out) hb);have n4_:=am (blk_below (bup BK420.out) hb);have n5_:=am (below_step bl hb);have n6_:=am (hbox);have n7_:=am (ge_ bl hg);have n8_:=am (ge_ bl hg);have n9_:=am (nl (bup BK414.out) hg);have n10_:=am (ng (bup BK414.out) hg);have n11_:=am (nl (bup BK420.out) hg);have n12_:=am (ng (bup BK420.out) hg);clear HO412 HO418 HO424 BK414 BK420 HB;have HO412:=n0_;have HO418:=n1_;have HO424:=n2_;have BK414:=n3_;have BK420:=n4_;have HB:=n5_;have BK426:=n6_;have GW426:=n7_;have GE426:=n8_;have NB414_426:=n9_;have NB426_414:=n10_;have NB420_426:=n11_;have NB426_420:=n12_;clear n0_ n1_ n2_ n3_ n4_ n5_ n6_ n7_ n8_ n9_ n10_ n11_ n12_ hb hbox hg;have hnb21:=NB426_414.out;have hnc21:=NB414_426.out;have hnb22:=NB426_420.out;have hnc22:=NB420_426.out;have hcz23_0:w20.cell? ⟨gb426,0,none⟩=some (.int .i64 0):=(blk_cell BK426.out 0).trans rfl;have hcz23_1:w20.cell? ⟨gb426,1,none⟩=some (.slice none 0 0):=(blk_cell BK426.out 1).trans rfl;have hfz23_0:=blk_frozen BK426.out 0;have hfz23_1:=blk_frozen BK426.out 1;obtain⟨Ao24,co24,eo24⟩:=Kd.R_slice HO424.out;subst eo24));go_upto_region 6 with(first|(go_at_call 4;(with_reducible refine(laws_big.calls _ _ l0 _ _ l1 false _ ?side1 ?side2 ?side3 ?side4 A3.out).mono ?_);(case side1=>repeat(first|exact HR0.out|(with_reducible refine Kd.C_alloc ?_ _)|(with_reducible refine Kd.C_drewN ?_ _)|(with_reducible refine Kd.C_drew ?_)));(case side2=>exact HC0.out);(case side3=>repeat(first|exact HR1.out|(with_reducible refine Kd.C_alloc ?_ _)|(with_reducible refine Kd.C_drewN ?_ _)|(with_reducible refine Kd.C_drew ?_)));(case side4=>exact HC1.out);rintro e w' ⟨rfl,⟨nd,rfl⟩⟩;(try first|exact⟨rfl,_,World.drewN_drewN _ _ _⟩|exact⟨rfl,_,Eq.trans (World.drewN_drewN _ _ _) (congrArg (World.drewN _) (Nat.add_assoc _ _ _))⟩))|(go_at_call 5;(with_reducible refine(spec_DrawTurnPattern.calls k _ _ l0 t409 t410 t413 _ ?side1 ?side2 A5.out).mono ?_);(case side1=>repeat(first|exact HR0.out|(with_reducible refine Kd.C_alloc ?_ _)|(with_reducible refine Kd.C_drewN ?_ _)|(with_reducible refine Kd.C_drew ?_)));(case side2=>exact HC0.out);rintro e w9 ⟨v411,rfl,ho0,hb⟩;have n0_:=am (Kd.R_lower ho0 (below_size bl));have n1_:=am (below_step bl hb);clear HB;have HO412:=n0_;have HB:=n1_;clear n0_ n1_;(try clear hb);(try clear hb2);(try clear hk);(try clear hi);(try clear ho0))|((with_reducible refine gate_dst (N:=5) rfl ?_);(try(refine gate_guard (by rfl) ?_;dsimp only));refine box_event ?hg (N:=5) ?hd (cs := #[.int .i64 0,.slice none 0 0]) (t:=26) ?hr ?_;(case hd=>rfl);(case hg=>rfl);(case hr=>first|(go_simp;done)|(go_simp;rfl));intro gb414 hg w10 hbox hb;have n0_:=am (Kd.R_below (rup HO412.out) hb);have n1_:=am (below_step bl hb);have n2_:=am (hbox);have n3_:=am (ge_ bl hg);have n4_:=am (ge_ bl hg);clear HO412 HB;have HO412:=n0_;have HB:=n1_;have BK414:=n2_;have GW414:=n3_;have GE414:=n4_;clear n0_ n1_ n2_ n3_ n4_ hb hbox hg;have hcz11_0:w10.cell? ⟨gb414,0,none⟩=some (.int .i64 0):=(blk_cell BK414.out 0).trans rfl;have hcz11_1:w10.cell? ⟨gb414,1,none⟩=some (.slice none 0 0):=(blk_cell BK414.out 1).trans rfl;have hfz11_0:=blk_frozen BK414.out 0;have hfz11_1:=blk_frozen BK414.out 1;obtain⟨Ao12,co12,eo12⟩:=Kd.R_slice HO412.out;subst eo12)|(go_at_call 6;(with_reducible refine(impl_TurnPattern.calls k t409 _ _ t410 t413 t415 t416 t419 _ ?side1 ?side2 A6.out).mono ?_);(case side1=>refine(Kd.R_reads' (e:=3) (base:=w.heap.size) (ok:=fun k_=>True) (n:=t410.length) (c:=co12) ?_).2.2;exact(by(with_reducible repeat(first|apply Kd.R_alloc|apply Kd.R_drewN|apply Kd.R_drew));exact(Kd.R_mono (Kd.R_far (p:=⟨gb414,1,none⟩) (Kd.R_far (p:=⟨gb414,0,none⟩) (Kd.R_types HO412.out BK414.out (by decide)) (fun _ hk=>hk.2) (.int .i64 t409)) (fun _ hk=>hk.2) (.slice Ao12 t410.length co12)) (fun _ h_=>h_.1))));(case side2=>exact(Kd.R_reads' HO412.out).2.1);rintro e w13 ⟨v417,rfl,ho0,hb⟩;have n0_:=am (Kd.R_elder' (by(with_reducible repeat(first|apply Kd.R_alloc|apply Kd.R_drewN|apply Kd.R_drew));exact(Kd.R_mono (Kd.R_far (p:=⟨gb414,1,none⟩) (Kd.R_far (p:=⟨gb414,0,none⟩) (Kd.R_types HO412.out BK414.out (by decide)) (fun _ hk=>hk.2) (.int .i64 t409)) (fun _ hk=>hk.2) (.slice Ao12 t410.length co12)) (fun _ h_=>h_.1))) (Kd.R_base ho0) hb);have n1_:=am (Kd.R_lower (Kd.R_new' ho0 (Kd.R_lt (by(with_reducible repeat(first|apply Kd.R_alloc|apply Kd.R_drewN|apply Kd.R_drew));exact(Kd.R_mono (Kd.R_far (p:=⟨gb414,1,none⟩) (Kd.R_far (p:=⟨gb414,0,none⟩) (Kd.R_types HO412.out BK414.out (by decide)) (fun _ hk=>hk.2) (.int .i64 t409)) (fun _ hk=>hk.2) (.slice Ao12 t410.length co12)) (fun _ h_=>h_.1))))) (below_size bl));have n2_:=am (blk_below (g:=gb414) (o := .cells #[.int .i64 t409,.slice Ao12 t410.length co12] 26 (0,0)) (by(with_reducible repeat(first|refine bN_ ?_ _|refine bD_ ?_|refine bA_ ?_ _));refine blk_put (cs := #[.int .i64 t409,.slice none 0 0]) ?_ 1 _ rfl;(with_reducible repeat(first|refine bN_ ?_ _|refine bD_ ?_|refine bA_ ?_ _));refine blk_put (cs := #[.int .i64 0,.slice none 0 0]) ?_ 0 _ rfl;exact bup BK414.out) hb);have n3_:=am (below_step bl hb);clear HO412 BK414 HB;have HO412:=n0_;have HO418:=n1_;have BK414:=n2_;have HB:=n3_;clear n0_ n1_ n2_ n3_;(try clear hb);(try clear hb2);(try clear hk);(try clear hi);(try clear ho0))|((with_reducible refine gate_dst (N:=7) rfl ?_);(try(refine gate_guard (by rfl) ?_;dsimp only));refine box_event ?hg (N:=7) ?hd (cs := #[.int .i64 0,.slice none 0 0]) (t:=26) ?hr ?_;(case hd=>rfl);(case hg=>rfl);(case hr=>first|(go_simp;done)|(go_simp;rfl));intro gb420 hg w14 hbox hb;have n0_:=am (Kd.R_below (rup HO412.out) hb);have n1_:=am (Kd.R_below (rup HO418.out) hb);have n2_:=am (blk_below (bup BK414.out) hb);have n3_:=am (below_step bl hb);have n4_:=am (hbox);have n5_:=am (ge_ bl hg);have n6_:=am (ge_ bl hg);have n7_:=am (nl (bup BK414.out) hg);have n8_:=am (ng (bup BK414.out) hg);clear HO412 HO418 BK414 HB;have HO412:=n0_;have HO418:=n1_;have BK414:=n2_;have HB:=n3_;have BK420:=n4_;have GW420:=n5_;have GE420:=n6_;have NB414_420:=n7_;have NB420_414:=n8_;clear n0_ n1_ n2_ n3_ n4_ n5_ n6_ n7_ n8_ hb hbox hg;have hnb15:=NB420_414.out;have hnc15:=NB414_420.out;have hcz16_0:w14.cell? ⟨gb420,0,none⟩=some (.int .i64 0):=(blk_cell BK420.out 0).trans rfl;have hcz16_1:w14.cell? ⟨gb420,1,none⟩=some (.slice none 0 0):=(blk_cell BK420.out 1).trans rfl;have hfz16_0:=blk_frozen BK420.out 0;have hfz16_1:=blk_frozen BK420.out 1;obtain⟨Ao17,co17,eo17⟩:=Kd.R_slice HO418.out;subst eo17;have hcz18_0:w14.cell? ⟨gb414,0,none⟩=some (.int .i64 t409):=(blk_cell BK414.out 0).trans rfl;have hcz18_1:w14.cell? ⟨gb414,1,none⟩=some (.slice Ao12 t410.length co12):=(blk_cell BK414.out 1).trans rfl;have hfz18_0:=blk_frozen BK414.out 0;have hfz18_1:=blk_frozen BK414.out 1)|(go_at_call 7;(with_reducible refine(spec_TurnPattern.calls k t409 _ _ t410 t413 t421 t422 t425 _ ?side1 ?side2 A7.out).mono ?_);(case side1=>refine(Kd.R_reads' (e:=3) (base:=w.heap.size) (ok:=fun k_=>(True∧some k_≠(.slice Ao17 t416.length co17:Value).ownBlock)) (n:=t410.length) (c:=co12) ?_).2.2;exact(by(with_reducible repeat(first|apply Kd.R_alloc|apply Kd.R_drewN|apply Kd.R_drew));exact(Kd.R_mono (Kd.R_far (p:=⟨gb420,1,none⟩) (Kd.R_far (p:=⟨gb420,0,none⟩) (Kd.R_types HO412.out BK420.out (by decide)) (fun _ hk=>hk.2) (.int .i64 t415)) (fun _ hk=>hk.2) (.slice Ao17 t416.length co17)) (fun _ h_=>h_.1))));(case side2=>exact(Kd.R_reads' HO412.out).2.1);rintro e w19 ⟨v423,rfl,ho0,hb⟩;have n0_:=am (Kd.R_elder' (by(with_reducible repeat(first|apply Kd.R_alloc|apply Kd.R_drewN|apply Kd.R_drew));exact(Kd.R_mono (Kd.R_far (p:=⟨gb420,1,none⟩) (Kd.R_far (p:=⟨gb420,0,none⟩) (Kd.R_types HO412.out BK420.out (by decide)) (fun _ hk=>hk.2) (.int .i64 t415)) (fun _ hk=>hk.2) (.slice Ao17 t416.length co17)) (fun _ h_=>h_.1))) (Kd.R_base ho0) hb);have n1_:=am (Kd.R_elder' (by(with_reducible repeat(first|apply Kd.R_alloc|apply Kd.R_drewN|apply Kd.R_drew));exact(Kd.R_mono (Kd.R_far (p:=⟨gb420,1,none⟩) (Kd.R_far (p:=⟨gb420,0,none⟩) (Kd.R_types HO418.out BK420.out (by decide)) (fun _ hk=>hk.2) (.int .i64 t415)) (fun _ hk=>hk.2) (.slice Ao17 t416.length co17)) (fun _ h_=>h_.1))) (Kd.R_base ho0) hb);have n2_:=am (Kd.R_lower (Kd.R_new' (Kd.R_new' ho0 (Kd.R_lt (by(with_reducible repeat(first|apply Kd.R_alloc|apply Kd.R_drewN|apply Kd.R_drew));exact(Kd.R_mono (Kd.R_far (p:=⟨gb420,1,none⟩) (Kd.R_far (p:=⟨gb420,0,none⟩) (Kd.R_types HO412.out BK420.out (by decide)) (fun _ hk=>hk.2) (.int .i64 t415)) (fun _ hk=>hk.2) (.slice Ao17 t416.length co17)) (fun _ h_=>h_.1))))) (Kd.R_lt (by(with_reducible repeat(first|apply Kd.R_alloc|apply Kd.R_drewN|apply Kd.R_drew));exact(Kd.R_mono (Kd.R_far (p:=⟨gb420,1,none⟩) (Kd.R_far (p:=⟨gb420,0,none⟩) (Kd.R_types HO418.out BK420.out (by decide)) (fun _ hk=>hk.2) (.int .i64 t415)) (fun _ hk=>hk.2) (.slice Ao17 t416.length co17)) (fun _ h_=>h_.1))))) (below_size bl));have n3_:=am (blk_below (g:=gb414) (o := .cells #[.int .i64 t409,.slice Ao12 t410.length co12] 26 (0,0)) (by(with_reducible repeat(first|refine bN_ ?_ _|refine bD_ ?_|refine bA_ ?_ _));refine blk_far ?_ NB414_420.out _;(with_reducible repeat(first|refine bN_ ?_ _|refine bD_ ?_|refine bA_ ?_ _));refine blk_far ?_ NB414_420.out _;exact bup BK414.out) hb);have n4_:=am (blk_below (g:=gb420) (o := .cells #[.int .i64 t415,.slice Ao17 t416.length co17] 26 (0,0)) (by(with_reducible repeat(first|refine bN_ ?_ _|refine bD_ ?_|refine bA_ ?_ _));refine blk_put (cs := #[.int .i64 t415,.slice none 0 0]) ?_ 1 _ rfl;(with_reducible repeat(first|refine bN_ ?_ _|refine bD_ ?_|refine bA_ ?_ _));refine blk_put (cs := #[.int .i64 0,.slice none 0 0]) ?_ 0 _ rfl;exact bup BK420.out) hb);have n5_:=am (below_step bl hb);clear HO412 HO418 BK414 BK420 HB;have HO412:=n0_;have HO418:=n1_;have HO424:=n2_;have BK414:=n3_;have BK420:=n4_;have HB:=n5_;clear n0_ n1_ n2_ n3_ n4_ n5_;(try clear hb);(try clear hb2);(try clear hk);(try clear hi);(try clear ho0))|((with_reducible refine gate_dst (N:=9) rfl ?_);(try(refine gate_guard (by rfl) ?_;dsimp only));refine box_event ?hg (N:=9) ?hd (cs := #[.int .i64 0,.slice none 0 0]) (t:=26) ?hr ?_;(case hd=>rfl);(case hg=>rfl);(case hr=>first|(go_simp;done)|(go_simp;rfl));intro gb426 hg w20 hbox hb;have n0_:=am (Kd.R_below (rup HO412.out) hb);have n1_:=am (Kd.R_below (rup HO418.out) hb);have n2_:=am (Kd.R_below (rup HO424.out) hb);have n3_:=am (blk_below (bup BK414.out) hb);have n4_:=am (blk_below (bup BK420.out) hb);have n5_:=am (below_step bl hb);have n6_:=am (hbox);have n7_:=am (ge_ bl hg);have n8_:=am (ge_ bl hg);have n9_:=am (nl (bup BK414.out) hg);have n10_:=am (ng (bup BK414.out) hg);have n11_:=am (nl (bup BK420.out) hg);have n12_:=am (ng (bup BK420.out) hg);clear HO412 HO418 HO424 BK414 BK420 HB;have HO412:=n0_;have HO418:=n1_;have HO424:=n2_;have BK414:=n3_;have BK420:=n4_;have HB:=n5_;have BK426:=n6_;have GW426:=n7_;have GE426:=n8_;have NB414_426:=n9_;have NB426_414:=n10_;have NB420_426:=n11_;have NB426_420:=n12_;clear n0_ n1_ n2_ n3_ n4_ n5_ n6_ n7_ n8_ n9_ n10_ n11_ n12_ hb hbox hg;have hnb21:=NB426_414.out;have hnc21:=NB414_426.out;have hnb22:=NB426_420.out;have hnc22:=NB420_426.out;have hcz23_0:w20.cell? ⟨gb426,0,none⟩=some (.int .i64 0):=(blk_cell BK426.out 0).trans rfl;have hcz23_1:w20.cell? ⟨gb426,1,none⟩=some (.slice none 0 0):=(blk_cell BK426.out 1).trans rfl;have hfz23_0:=blk_frozen BK426.out 0;have hfz23_1:=blk_frozen BK426.out 1;obtain⟨Ao24,co24,eo24⟩:=Kd.R_slice HO424.out;subst eo24)))
  (try simp only[Act.put,List.setIfInBounds_toArray,List.set_cons_zero,List.set_cons_succ])
  go_cut [74] (fun v74 wc=>∃(kq:Nat) (x74_7:Bool),v74 = .bool x74_7∧Aside0 (laws_FnDrums.j0 kq l1 t413 t419 x74_7 t409 t410 t415 t416 t421 t422=some r)∧Aside0 (kq≤k)∧Aside0 (Kd.R (Kd.int .i64) 3 wc w.heap.size (fun k_=>some k_≠((.slice Ao17 t416.length co17):Value).ownBlock∧some k_≠((.slice Ao24 t422.length co24):Value).ownBlock) (.slice Ao12 t410.length co12) t410)∧Aside0 (Kd.R (Kd.int .i64) 3 wc w.heap.size (fun k_=>some k_≠((.slice Ao12 t410.length co12):Value).ownBlock∧some k_≠((.slice Ao24 t422.length co24):Value).ownBlock) (.slice Ao17 t416.length co17) t416)∧Aside0 (Kd.R (Kd.int .i64) 3 wc w.heap.size (fun k_=>some k_≠((.slice Ao12 t410.length co12):Value).ownBlock∧some k_≠((.slice Ao17 t416.length co17):Value).ownBlock) (.slice Ao24 t422.length co24) t422)∧Aside0 (wc.heap[gb414]?=some (.cells #[.int .i64 t409,(.slice Ao12 t410.length co12)] 26 (0,0)))∧Aside0 (wc.heap[gb420]?=some (.cells #[.int .i64 t415,(.slice Ao17 t416.length co17)] 26 (0,0)))∧Aside0 (wc.heap[gb426]?=some (.cells #[.int .i64 t421,(.slice Ao24 t422.length co24)] 26 (0,0)))∧Aside0 (Below w.heap.size w wc))
  case first =>
   have H:=HC8.out
   clear HC8
   by_cases c25:(t419 != t425)=true
   ·rw[if_pos c25] at H
    have c25b0:(t419 != t425)=true:=c25
    (try(have c25b1:decide (t419=t425)=false:=by simpa using c25))
    (try(have c25b2:(t419 == t425)=false:=by simpa using c25))
    (try(have c25b3:¬ (t419=t425):=by simpa using c25))
    clear c25
    (first|rw[c25b0]|(simp only[i64_w,i32_w];rw[c25b0])|skip)
    exact absurd hrt.out (laws_FnDrums.j0_dead H)
   ·rw[if_neg c25] at H
    have c25b0:(t419 != t425)=false:=by simpa using c25
    (try(have c25b1:decide (t419=t425)=true:=by simpa using c25))
    (try(have c25b2:(t419 == t425)=true:=by simpa using c25))
    clear c25
    (first|rw[c25b0]|(simp only[i64_w,i32_w];rw[c25b0])|skip)
    replace H:=Option.bind_eq_some_iff.mp H
    obtain⟨t427,A260,H⟩:=H
    replace H:(laws_FnDrums.j0 k l1 t413 t419 (!t427) t409 t410 t415 t416 t421 t422)=some r:=H
    have A26:=am A260
    clear A260
    have H':=am H
    clear H
    have hnb27:=NB420_414.out
    have hnc27:=NB414_420.out
    have hnb28:=NB420_426.out
    have hnc28:=NB426_420.out
    have hcz29_0:w20.cell? ⟨gb420,0,none⟩=some (.int .i64 t415):=(blk_cell BK420.out 0).trans rfl
    have hcz29_1:w20.cell? ⟨gb420,1,none⟩=some (.slice Ao17 t416.length co17):=(blk_cell BK420.out 1).trans rfl
    have hfz29_0:=blk_frozen BK420.out 0
    have hfz29_1:=blk_frozen BK420.out 1
    have hnb30:=NB426_414.out
    have hnc30:=NB414_426.out
    have hcz31_0:w20.cell? ⟨gb426,0,none⟩=some (.int .i64 0):=(blk_cell BK426.out 0).trans rfl
    have hcz31_1:w20.cell? ⟨gb426,1,none⟩=some (.slice none 0 0):=(blk_cell BK426.out 1).trans rfl
    have hfz31_0:=blk_frozen BK426.out 0
    have hfz31_1:=blk_frozen BK426.out 1
    go_wp2_with (first|(go_at_call 8;(with_reducible refine(laws_pSamePattern.calls k t415 _ _ t416 t421 _ _ t422 t427 _ ?side1 ?side2 ?side3 ?side4 A26.out).mono ?_);(case side1=>refine(Kd.R_reads' (e:=3) (base:=w.heap.size) (ok:=fun k_=>((True∧some k_≠(.slice Ao12 t410.length co12:Value).ownBlock)∧some k_≠(.slice Ao24 t422.length co24:Value).ownBlock)) (n:=t416.length) (c:=co17) ?_).2.2;exact(by(with_reducible repeat(first|apply Kd.R_alloc|apply Kd.R_drewN|apply Kd.R_drew));exact(Kd.R_mono (Kd.R_far (p:=⟨gb426,1,none⟩) (Kd.R_far (p:=⟨gb426,0,none⟩) (Kd.R_types HO418.out BK426.out (by decide)) (fun _ hk=>hk.2) (.int .i64 t421)) (fun _ hk=>hk.2) (.slice Ao24 t422.length co24)) (fun _ h_=>h_.1))));(case side2=>exact(Kd.R_reads' HO418.out).2.1);(case side3=>refine(Kd.R_reads' (e:=3) (base:=w.heap.size) (ok:=fun k_=>((True∧some k_≠(.slice Ao12 t410.length co12:Value).ownBlock)∧some k_≠(.slice Ao17 t416.length co17:Value).ownBlock)) (n:=t422.length) (c:=co24) ?_).2.2;exact(by(with_reducible repeat(first|apply Kd.R_alloc|apply Kd.R_drewN|apply Kd.R_drew));exact(Kd.R_mono (Kd.R_far (p:=⟨gb426,1,none⟩) (Kd.R_far (p:=⟨gb426,0,none⟩) (Kd.R_types HO424.out BK426.out (by decide)) (fun _ hk=>hk.2) (.int .i64 t421)) (fun _ hk=>hk.2) (.slice Ao24 t422.length co24)) (fun _ h_=>h_.1))));(case side4=>exact(Kd.R_reads' HO424.out).2.1);rintro e w32 ⟨rfl,hb⟩;have n0_:=am (Kd.R_below (by(with_reducible repeat(first|apply Kd.R_alloc|apply Kd.R_drewN|apply Kd.R_drew));exact(Kd.R_mono (Kd.R_far (p:=⟨gb426,1,none⟩) (Kd.R_far (p:=⟨gb426,0,none⟩) (Kd.R_types HO412.out BK426.out (by decide)) (fun _ hk=>hk.2) (.int .i64 t421)) (fun _ hk=>hk.2) (.slice Ao24 t422.length co24)) (fun _ h_=>h_.1))) hb);have n1_:=am (Kd.R_below (by(with_reducible repeat(first|apply Kd.R_alloc|apply Kd.R_drewN|apply Kd.R_drew));exact(Kd.R_mono (Kd.R_far (p:=⟨gb426,1,none⟩) (Kd.R_far (p:=⟨gb426,0,none⟩) (Kd.R_types HO418.out BK426.out (by decide)) (fun _ hk=>hk.2) (.int .i64 t421)) (fun _ hk=>hk.2) (.slice Ao24 t422.length co24)) (fun _ h_=>h_.1))) hb);have n2_:=am (Kd.R_below (by(with_reducible repeat(first|apply Kd.R_alloc|apply Kd.R_drewN|apply Kd.R_drew));exact(Kd.R_mono (Kd.R_far (p:=⟨gb426,1,none⟩) (Kd.R_far (p:=⟨gb426,0,none⟩) (Kd.R_types HO424.out BK426.out (by decide)) (fun _ hk=>hk.2) (.int .i64 t421)) (fun _ hk=>hk.2) (.slice Ao24 t422.length co24)) (fun _ h_=>h_.1))) hb);have n3_:=am (blk_below (g:=gb414) (o := .cells #[.int .i64 t409,.slice Ao12 t410.length co12] 26 (0,0)) (by(with_reducible repeat(first|refine bN_ ?_ _|refine bD_ ?_|refine bA_ ?_ _));refine blk_far ?_ NB414_426.out _;(with_reducible repeat(first|refine bN_ ?_ _|refine bD_ ?_|refine bA_ ?_ _));refine blk_far ?_ NB414_426.out _;exact bup BK414.out) hb);have n4_:=am (blk_below (g:=gb420) (o := .cells #[.int .i64 t415,.slice Ao17 t416.length co17] 26 (0,0)) (by(with_reducible repeat(first|refine bN_ ?_ _|refine bD_ ?_|refine bA_ ?_ _));refine blk_far ?_ NB420_426.out _;(with_reducible repeat(first|refine bN_ ?_ _|refine bD_ ?_|refine bA_ ?_ _));refine blk_far ?_ NB420_426.out _;exact bup BK420.out) hb);have n5_:=am (blk_below (g:=gb426) (o := .cells #[.int .i64 t421,.slice Ao24 t422.length co24] 26 (0,0)) (by(with_reducible repeat(first|refine bN_ ?_ _|refine bD_ ?_|refine bA_ ?_ _));refine blk_put (cs := #[.int .i64 t421,.slice none 0 0]) ?_ 1 _ rfl;(with_reducible repeat(first|refine bN_ ?_ _|refine bD_ ?_|refine bA_ ?_ _));refine blk_put (cs := #[.int .i64 0,.slice none 0 0]) ?_ 0 _ rfl;exact bup BK426.out) hb);have n6_:=am (below_step bl hb);clear HO412 HO418 HO424 BK414 BK420 BK426 HB;have HO412:=n0_;have HO418:=n1_;have HO424:=n2_;have BK414:=n3_;have BK420:=n4_;have BK426:=n5_;have HB:=n6_;clear n0_ n1_ n2_ n3_ n4_ n5_ n6_;(try clear hb);(try clear hb2);(try clear hk);(try clear hi)))
    repeat(go_quiet (first|(go_at_call 8;(with_reducible refine(laws_pSamePattern.calls k t415 _ _ t416 t421 _ _ t422 t427 _ ?side1 ?side2 ?side3 ?side4 A26.out).mono ?_);(case side1=>refine(Kd.R_reads' (e:=3) (base:=w.heap.size) (ok:=fun k_=>((True∧some k_≠(.slice Ao12 t410.length co12:Value).ownBlock)∧some k_≠(.slice Ao24 t422.length co24:Value).ownBlock)) (n:=t416.length) (c:=co17) ?_).2.2;exact(by(with_reducible repeat(first|apply Kd.R_alloc|apply Kd.R_drewN|apply Kd.R_drew));exact(Kd.R_mono (Kd.R_far (p:=⟨gb426,1,none⟩) (Kd.R_far (p:=⟨gb426,0,none⟩) (Kd.R_types HO418.out BK426.out (by decide)) (fun _ hk=>hk.2) (.int .i64 t421)) (fun _ hk=>hk.2) (.slice Ao24 t422.length co24)) (fun _ h_=>h_.1))));(case side2=>exact(Kd.R_reads' HO418.out).2.1);(case side3=>refine(Kd.R_reads' (e:=3) (base:=w.heap.size) (ok:=fun k_=>((True∧some k_≠(.slice Ao12 t410.length co12:Value).ownBlock)∧some k_≠(.slice Ao17 t416.length co17:Value).ownBlock)) (n:=t422.length) (c:=co24) ?_).2.2;exact(by(with_reducible repeat(first|apply Kd.R_alloc|apply Kd.R_drewN|apply Kd.R_drew));exact(Kd.R_mono (Kd.R_far (p:=⟨gb426,1,none⟩) (Kd.R_far (p:=⟨gb426,0,none⟩) (Kd.R_types HO424.out BK426.out (by decide)) (fun _ hk=>hk.2) (.int .i64 t421)) (fun _ hk=>hk.2) (.slice Ao24 t422.length co24)) (fun _ h_=>h_.1))));(case side4=>exact(Kd.R_reads' HO424.out).2.1);rintro e w32 ⟨rfl,hb⟩;have n0_:=am (Kd.R_below (by(with_reducible repeat(first|apply Kd.R_alloc|apply Kd.R_drewN|apply Kd.R_drew));exact(Kd.R_mono (Kd.R_far (p:=⟨gb426,1,none⟩) (Kd.R_far (p:=⟨gb426,0,none⟩) (Kd.R_types HO412.out BK426.out (by decide)) (fun _ hk=>hk.2) (.int .i64 t421)) (fun _ hk=>hk.2) (.slice Ao24 t422.length co24)) (fun _ h_=>h_.1))) hb);have n1_:=am (Kd.R_below (by(with_reducible repeat(first|apply Kd.R_alloc|apply Kd.R_drewN|apply Kd.R_drew));exact(Kd.R_mono (Kd.R_far (p:=⟨gb426,1,none⟩) (Kd.R_far (p:=⟨gb426,0,none⟩) (Kd.R_types HO418.out BK426.out (by decide)) (fun _ hk=>hk.2) (.int .i64 t421)) (fun _ hk=>hk.2) (.slice Ao24 t422.length co24)) (fun _ h_=>h_.1))) hb);have n2_:=am (Kd.R_below (by(with_reducible repeat(first|apply Kd.R_alloc|apply Kd.R_drewN|apply Kd.R_drew));exact(Kd.R_mono (Kd.R_far (p:=⟨gb426,1,none⟩) (Kd.R_far (p:=⟨gb426,0,none⟩) (Kd.R_types HO424.out BK426.out (by decide)) (fun _ hk=>hk.2) (.int .i64 t421)) (fun _ hk=>hk.2) (.slice Ao24 t422.length co24)) (fun _ h_=>h_.1))) hb);have n3_:=am (blk_below (g:=gb414) (o := .cells #[.int .i64 t409,.slice Ao12 t410.length co12] 26 (0,0)) (by(with_reducible repeat(first|refine bN_ ?_ _|refine bD_ ?_|refine bA_ ?_ _));refine blk_far ?_ NB414_426.out _;(with_reducible repeat(first|refine bN_ ?_ _|refine bD_ ?_|refine bA_ ?_ _));refine blk_far ?_ NB414_426.out _;exact bup BK414.out) hb);have n4_:=am (blk_below (g:=gb420) (o := .cells #[.int .i64 t415,.slice Ao17 t416.length co17] 26 (0,0)) (by(with_reducible repeat(first|refine bN_ ?_ _|refine bD_ ?_|refine bA_ ?_ _));refine blk_far ?_ NB420_426.out _;(with_reducible repeat(first|refine bN_ ?_ _|refine bD_ ?_|refine bA_ ?_ _));refine blk_far ?_ NB420_426.out _;exact bup BK420.out) hb);have n5_:=am (blk_below (g:=gb426) (o := .cells #[.int .i64 t421,.slice Ao24 t422.length co24] 26 (0,0)) (by(with_reducible repeat(first|refine bN_ ?_ _|refine bD_ ?_|refine bA_ ?_ _));refine blk_put (cs := #[.int .i64 t421,.slice none 0 0]) ?_ 1 _ rfl;(with_reducible repeat(first|refine bN_ ?_ _|refine bD_ ?_|refine bA_ ?_ _));refine blk_put (cs := #[.int .i64 0,.slice none 0 0]) ?_ 0 _ rfl;exact bup BK426.out) hb);have n6_:=am (below_step bl hb);clear HO412 HO418 HO424 BK414 BK420 BK426 HB;have HO412:=n0_;have HO418:=n1_;have HO424:=n2_;have BK414:=n3_;have BK420:=n4_;have BK426:=n5_;have HB:=n6_;clear n0_ n1_ n2_ n3_ n4_ n5_ n6_;(try clear hb);(try clear hb2);(try clear hk);(try clear hi)));try go_wp2_with (first|(go_at_call 8;(with_reducible refine(laws_pSamePattern.calls k t415 _ _ t416 t421 _ _ t422 t427 _ ?side1 ?side2 ?side3 ?side4 A26.out).mono ?_);(case side1=>refine(Kd.R_reads' (e:=3) (base:=w.heap.size) (ok:=fun k_=>((True∧some k_≠(.slice Ao12 t410.length co12:Value).ownBlock)∧some k_≠(.slice Ao24 t422.length co24:Value).ownBlock)) (n:=t416.length) (c:=co17) ?_).2.2;exact(by(with_reducible repeat(first|apply Kd.R_alloc|apply Kd.R_drewN|apply Kd.R_drew));exact(Kd.R_mono (Kd.R_far (p:=⟨gb426,1,none⟩) (Kd.R_far (p:=⟨gb426,0,none⟩) (Kd.R_types HO418.out BK426.out (by decide)) (fun _ hk=>hk.2) (.int .i64 t421)) (fun _ hk=>hk.2) (.slice Ao24 t422.length co24)) (fun _ h_=>h_.1))));(case side2=>exact(Kd.R_reads' HO418.out).2.1);(case side3=>refine(Kd.R_reads' (e:=3) (base:=w.heap.size) (ok:=fun k_=>((True∧some k_≠(.slice Ao12 t410.length co12:Value).ownBlock)∧some k_≠(.slice Ao17 t416.length co17:Value).ownBlock)) (n:=t422.length) (c:=co24) ?_).2.2;exact(by(with_reducible repeat(first|apply Kd.R_alloc|apply Kd.R_drewN|apply Kd.R_drew));exact(Kd.R_mono (Kd.R_far (p:=⟨gb426,1,none⟩) (Kd.R_far (p:=⟨gb426,0,none⟩) (Kd.R_types HO424.out BK426.out (by decide)) (fun _ hk=>hk.2) (.int .i64 t421)) (fun _ hk=>hk.2) (.slice Ao24 t422.length co24)) (fun _ h_=>h_.1))));(case side4=>exact(Kd.R_reads' HO424.out).2.1);rintro e w32 ⟨rfl,hb⟩;have n0_:=am (Kd.R_below (by(with_reducible repeat(first|apply Kd.R_alloc|apply Kd.R_drewN|apply Kd.R_drew));exact(Kd.R_mono (Kd.R_far (p:=⟨gb426,1,none⟩) (Kd.R_far (p:=⟨gb426,0,none⟩) (Kd.R_types HO412.out BK426.out (by decide)) (fun _ hk=>hk.2) (.int .i64 t421)) (fun _ hk=>hk.2) (.slice Ao24 t422.length co24)) (fun _ h_=>h_.1))) hb);have n1_:=am (Kd.R_below (by(with_reducible repeat(first|apply Kd.R_alloc|apply Kd.R_drewN|apply Kd.R_drew));exact(Kd.R_mono (Kd.R_far (p:=⟨gb426,1,none⟩) (Kd.R_far (p:=⟨gb426,0,none⟩) (Kd.R_types HO418.out BK426.out (by decide)) (fun _ hk=>hk.2) (.int .i64 t421)) (fun _ hk=>hk.2) (.slice Ao24 t422.length co24)) (fun _ h_=>h_.1))) hb);have n2_:=am (Kd.R_below (by(with_reducible repeat(first|apply Kd.R_alloc|apply Kd.R_drewN|apply Kd.R_drew));exact(Kd.R_mono (Kd.R_far (p:=⟨gb426,1,none⟩) (Kd.R_far (p:=⟨gb426,0,none⟩) (Kd.R_types HO424.out BK426.out (by decide)) (fun _ hk=>hk.2) (.int .i64 t421)) (fun _ hk=>hk.2) (.slice Ao24 t422.length co24)) (fun _ h_=>h_.1))) hb);have n3_:=am (blk_below (g:=gb414) (o := .cells #[.int .i64 t409,.slice Ao12 t410.length co12] 26 (0,0)) (by(with_reducible repeat(first|refine bN_ ?_ _|refine bD_ ?_|refine bA_ ?_ _));refine blk_far ?_ NB414_426.out _;(with_reducible repeat(first|refine bN_ ?_ _|refine bD_ ?_|refine bA_ ?_ _));refine blk_far ?_ NB414_426.out _;exact bup BK414.out) hb);have n4_:=am (blk_below (g:=gb420) (o := .cells #[.int .i64 t415,.slice Ao17 t416.length co17] 26 (0,0)) (by(with_reducible repeat(first|refine bN_ ?_ _|refine bD_ ?_|refine bA_ ?_ _));refine blk_far ?_ NB420_426.out _;(with_reducible repeat(first|refine bN_ ?_ _|refine bD_ ?_|refine bA_ ?_ _));refine blk_far ?_ NB420_426.out _;exact bup BK420.out) hb);have n5_:=am (blk_below (g:=gb426) (o := .cells #[.int .i64 t421,.slice Ao24 t422.length co24] 26 (0,0)) (by(with_reducible repeat(first|refine bN_ ?_ _|refine bD_ ?_|refine bA_ ?_ _));refine blk_put (cs := #[.int .i64 t421,.slice none 0 0]) ?_ 1 _ rfl;(with_reducible repeat(first|refine bN_ ?_ _|refine bD_ ?_|refine bA_ ?_ _));refine blk_put (cs := #[.int .i64 0,.slice none 0 0]) ?_ 0 _ rfl;exact bup BK426.out) hb);have n6_:=am (below_step bl hb);clear HO412 HO418 HO424 BK414 BK420 BK426 HB;have HO412:=n0_;have HO418:=n1_;have HO424:=n2_;have BK414:=n3_;have BK420:=n4_;have BK426:=n5_;have HB:=n6_;clear n0_ n1_ n2_ n3_ n4_ n5_ n6_;(try clear hb);(try clear hb2);(try clear hk);(try clear hi))))
    go_meet
    case rel=>exact⟨_,(!t427),fin2,H',⟨by first|omega|exact Nat.le_refl _⟩,⟨rup (Kd.R_mono HO412.out (fun _ hk=>⟨hk.1.2,hk.2⟩))⟩,⟨rup (Kd.R_mono HO418.out (fun _ hk=>⟨hk.1.2,hk.2⟩))⟩,⟨rup (Kd.R_mono HO424.out (fun _ hk=>⟨hk.1.2,hk.2⟩))⟩,⟨bup BK414.out⟩,⟨bup BK420.out⟩,⟨bup BK426.out⟩,⟨bl⟩⟩
  case rest =>
   as_aux_lemma =>
    clear HC8
    try clear c1
    try clear c2
    try clear p2
    try clear c3
    try clear c4
    try clear c15
    try clear c21
    try clear c22
    try clear c25
    try clear c25b0
    try clear c25b1
    try clear c25b2
    try clear c27
    try clear c28
    try clear c30
    try clear hcz11_0
    try clear hcz11_1
    try clear hcz16_0
    try clear hcz16_1
    try clear hcz18_0
    try clear hcz18_1
    try clear hcz23_0
    try clear hcz23_1
    try clear hcz29_0
    try clear hcz29_1
    try clear hcz31_0
    try clear hcz31_1
    try clear hfz11_0
    try clear hfz11_1
    try clear hfz16_0
    try clear hfz16_1
    try clear hfz18_0
    try clear hfz18_1
    try clear hfz23_0
    try clear hfz23_1
    try clear hfz29_0
    try clear hfz29_1
    try clear hfz31_0
    try clear hfz31_1
    obtain⟨kq,x74_7,rfl,HA,HJ7,HO_415001,HO_421001,HO_427001,BK414,BK420,BK426,HB⟩:=hcut
    cases kq with
    | zero=>exact absurd HA.out (by simp [laws_FnDrums.j0])
    | succ kj7 =>
     have H:=HA.out
     clear HA
     simp only[laws_FnDrums.j0] at H
     by_cases c33:x74_7=true
     ·subst c33
      have H1:(some false)=some r:=by rw[if_pos rfl] at H;exact H
      clear H
      have H:=H1
      clear H1
      obtain rfl:=Option.some.inj H
      exact absurd hrt.out (by simp)
     ·replace c33:=Bool.eq_false_iff.mpr c33
      subst c33
      have H1:(if t419=true then((impl_LeastTurn.f kj7 t409 t410 t415 t416).bind fun bt428=>((spec_LeastTurn.f kj7 t409 t410 t421 t422).bind fun bt430=>(if bt428.2=true then(if bt430.2=true then(if bt428.1=bt430.1 then(if bt430.1>t413 then(laws_FnDrums.j1 kj7 l1 t413 true t409 t410 t421 t422) else(laws_FnDrums.j1 kj7 l1 t413 ((t422.length:Int) != (t410.length:Int)) t409 t410 t421 t422)) else(laws_FnDrums.j1 kj7 l1 t413 true t409 t410 t421 t422)) else(laws_FnDrums.j1 kj7 l1 t413 true t409 t410 t421 t422)) else(laws_FnDrums.j1 kj7 l1 t413 true t409 t410 t421 t422)))) else(laws_FnDrums.j3 kj7 l1))=some r:=by rw[if_neg (show ¬ (false=true) by decide)] at H;exact H
      clear H
      have H:=H1
      clear H1
      have HC34:=am H
      clear H
      go_upto_if 75 with(fail)
      repeat(go_quiet (fail);go_upto_if 75 with(fail))
      go_cut [] (fun wc=>∃(kq:Nat),Aside0 (laws_FnDrums.j3 kq l1=some r)∧Aside0 (kq≤kj7)∧Aside0 (Below w.heap.size w wc))
      case first =>
       have H:=HC34.out
       clear HC34
       by_cases c35:t419=true
       ·subst c35
        have H1:((impl_LeastTurn.f kj7 t409 t410 t415 t416).bind fun bt428=>((spec_LeastTurn.f kj7 t409 t410 t421 t422).bind fun bt430=>(if bt428.2=true then(if bt430.2=true then(if bt428.1=bt430.1 then(if bt430.1>t413 then(laws_FnDrums.j1 kj7 l1 t413 true t409 t410 t421 t422) else(laws_FnDrums.j1 kj7 l1 t413 ((t422.length:Int) != (t410.length:Int)) t409 t410 t421 t422)) else(laws_FnDrums.j1 kj7 l1 t413 true t409 t410 t421 t422)) else(laws_FnDrums.j1 kj7 l1 t413 true t409 t410 t421 t422)) else(laws_FnDrums.j1 kj7 l1 t413 true t409 t410 t421 t422))))=some r:=by rw[if_pos rfl] at H;exact H
        clear H
        have H:=H1
        clear H1
        replace H:=Option.bind_eq_some_iff.mp H
        obtain⟨⟨t428,t429⟩,A360,H⟩:=H
        replace H:((spec_LeastTurn.f kj7 t409 t410 t421 t422).bind fun bt430=>(if t429=true then(if bt430.2=true then(if t428=bt430.1 then(if bt430.1>t413 then(laws_FnDrums.j1 kj7 l1 t413 true t409 t410 t421 t422) else(laws_FnDrums.j1 kj7 l1 t413 ((t422.length:Int) != (t410.length:Int)) t409 t410 t421 t422)) else(laws_FnDrums.j1 kj7 l1 t413 true t409 t410 t421 t422)) else(laws_FnDrums.j1 kj7 l1 t413 true t409 t410 t421 t422)) else(laws_FnDrums.j1 kj7 l1 t413 true t409 t410 t421 t422)))=some r:=H
        have A36:=am A360
        clear A360
        replace H:=Option.bind_eq_some_iff.mp H
        obtain⟨⟨t430,t431⟩,A370,H⟩:=H
        replace H:(if t429=true then(if t431=true then(if t428=t430 then(if t430>t413 then(laws_FnDrums.j1 kj7 l1 t413 true t409 t410 t421 t422) else(laws_FnDrums.j1 kj7 l1 t413 ((t422.length:Int) != (t410.length:Int)) t409 t410 t421 t422)) else(laws_FnDrums.j1 kj7 l1 t413 true t409 t410 t421 t422)) else(laws_FnDrums.j1 kj7 l1 t413 true t409 t410 t421 t422)) else(laws_FnDrums.j1 kj7 l1 t413 true t409 t410 t421 t422))=some r:=H
        have A37:=am A370
        clear A370
        have HC38:=am H
        clear H
        have hnb39:=NB414_420.out
        have hnc39:=NB420_414.out
        have hnb40:=NB414_426.out
        have hnc40:=NB426_414.out
        have hcz41_0:wc.cell? ⟨gb414,0,none⟩=some (.int .i64 t409):=(blk_cell BK414.out 0).trans rfl
        have hcz41_1:wc.cell? ⟨gb414,1,none⟩=some (.slice Ao12 t410.length co12):=(blk_cell BK414.out 1).trans rfl
        have hfz41_0:=blk_frozen BK414.out 0
        have hfz41_1:=blk_frozen BK414.out 1
        have hnb42:=NB420_426.out
        have hnc42:=NB426_420.out
        have hcz43_0:wc.cell? ⟨gb420,0,none⟩=some (.int .i64 t415):=(blk_cell BK420.out 0).trans rfl
        have hcz43_1:wc.cell? ⟨gb420,1,none⟩=some (.slice Ao17 t416.length co17):=(blk_cell BK420.out 1).trans rfl
        have hfz43_0:=blk_frozen BK420.out 0
        have hfz43_1:=blk_frozen BK420.out 1
        go_upto_region 11 with(first|(go_at_call 9;(with_reducible refine(impl_LeastTurn.calls kj7 t409 _ _ t410 t415 _ _ t416 t428 t429 _ ?side1 ?side2 ?side3 ?side4 A36.out).mono ?_);(case side1=>repeat(first|exact(Kd.R_reads' HO_415001.out).2.2|(with_reducible refine Kd.C_alloc ?_ _)|(with_reducible refine Kd.C_drewN ?_ _)|(with_reducible refine Kd.C_drew ?_)));(case side2=>exact(Kd.R_reads' HO_415001.out).2.1);(case side3=>repeat(first|exact(Kd.R_reads' HO_421001.out).2.2|(with_reducible refine Kd.C_alloc ?_ _)|(with_reducible refine Kd.C_drewN ?_ _)|(with_reducible refine Kd.C_drew ?_)));(case side4=>exact(Kd.R_reads' HO_421001.out).2.1);rintro e w44 ⟨rfl,hb⟩;have n0_:=am (Kd.R_below (rup HO_415001.out) hb);have n1_:=am (Kd.R_below (rup HO_421001.out) hb);have n2_:=am (Kd.R_below (rup HO_427001.out) hb);have n3_:=am (blk_below (bup BK414.out) hb);have n4_:=am (blk_below (bup BK420.out) hb);have n5_:=am (blk_below (bup BK426.out) hb);have n6_:=am (below_step bl hb);clear HO_415001 HO_421001 HO_427001 BK414 BK420 BK426 HB;have HO_415001:=n0_;have HO_421001:=n1_;have HO_427001:=n2_;have BK414:=n3_;have BK420:=n4_;have BK426:=n5_;have HB:=n6_;clear n0_ n1_ n2_ n3_ n4_ n5_ n6_;(try clear hb);(try clear hb2);(try clear hk);(try clear hi);have hcz45_0:w44.cell? ⟨gb414,0,none⟩=some (.int .i64 t409):=(blk_cell BK414.out 0).trans rfl;have hcz45_1:w44.cell? ⟨gb414,1,none⟩=some (.slice Ao12 t410.length co12):=(blk_cell BK414.out 1).trans rfl;have hfz45_0:=blk_frozen BK414.out 0;have hfz45_1:=blk_frozen BK414.out 1;have hcz46_0:w44.cell? ⟨gb426,0,none⟩=some (.int .i64 t421):=(blk_cell BK426.out 0).trans rfl;have hcz46_1:w44.cell? ⟨gb426,1,none⟩=some (.slice Ao24 t422.length co24):=(blk_cell BK426.out 1).trans rfl;have hfz46_0:=blk_frozen BK426.out 0;have hfz46_1:=blk_frozen BK426.out 1)|(go_at_call 10;(with_reducible refine(spec_LeastTurn.calls kj7 t409 _ _ t410 t421 _ _ t422 t430 t431 _ ?side1 ?side2 ?side3 ?side4 A37.out).mono ?_);(case side1=>repeat(first|exact(Kd.R_reads' HO_415001.out).2.2|(with_reducible refine Kd.C_alloc ?_ _)|(with_reducible refine Kd.C_drewN ?_ _)|(with_reducible refine Kd.C_drew ?_)));(case side2=>exact(Kd.R_reads' HO_415001.out).2.1);(case side3=>repeat(first|exact(Kd.R_reads' HO_427001.out).2.2|(with_reducible refine Kd.C_alloc ?_ _)|(with_reducible refine Kd.C_drewN ?_ _)|(with_reducible refine Kd.C_drew ?_)));(case side4=>exact(Kd.R_reads' HO_427001.out).2.1);rintro e w47 ⟨rfl,hb⟩;have n0_:=am (Kd.R_below (rup HO_415001.out) hb);have n1_:=am (Kd.R_below (rup HO_421001.out) hb);have n2_:=am (Kd.R_below (rup HO_427001.out) hb);have n3_:=am (blk_below (bup BK414.out) hb);have n4_:=am (blk_below (bup BK420.out) hb);have n5_:=am (blk_below (bup BK426.out) hb);have n6_:=am (below_step bl hb);clear HO_415001 HO_421001 HO_427001 BK414 BK420 BK426 HB;have HO_415001:=n0_;have HO_421001:=n1_;have HO_427001:=n2_;have BK414:=n3_;have BK420:=n4_;have BK426:=n5_;have HB:=n6_;clear n0_ n1_ n2_ n3_ n4_ n5_ n6_;(try clear hb);(try clear hb2);(try clear hk);(try clear hi)))
        repeat(go_quiet (first|(go_at_call 9;(with_reducible refine(impl_LeastTurn.calls kj7 t409 _ _ t410 t415 _ _ t416 t428 t429 _ ?side1 ?side2 ?side3 ?side4 A36.out).mono ?_);(case side1=>repeat(first|exact(Kd.R_reads' HO_415001.out).2.2|(with_reducible refine Kd.C_alloc ?_ _)|(with_reducible refine Kd.C_drewN ?_ _)|(with_reducible refine Kd.C_drew ?_)));(case side2=>exact(Kd.R_reads' HO_415001.out).2.1);(case side3=>repeat(first|exact(Kd.R_reads' HO_421001.out).2.2|(with_reducible refine Kd.C_alloc ?_ _)|(with_reducible refine Kd.C_drewN ?_ _)|(with_reducible refine Kd.C_drew ?_)));(case side4=>exact(Kd.R_reads' HO_421001.out).2.1);rintro e w44 ⟨rfl,hb⟩;have n0_:=am (Kd.R_below (rup HO_415001.out) hb);have n1_:=am (Kd.R_below (rup HO_421001.out) hb);have n2_:=am (Kd.R_below (rup HO_427001.out) hb);have n3_:=am (blk_below (bup BK414.out) hb);have n4_:=am (blk_below (bup BK420.out) hb);have n5_:=am (blk_below (bup BK426.out) hb);have n6_:=am (below_step bl hb);clear HO_415001 HO_421001 HO_427001 BK414 BK420 BK426 HB;have HO_415001:=n0_;have HO_421001:=n1_;have HO_427001:=n2_;have BK414:=n3_;have BK420:=n4_;have BK426:=n5_;have HB:=n6_;clear n0_ n1_ n2_ n3_ n4_ n5_ n6_;(try clear hb);(try clear hb2);(try clear hk);(try clear hi);have hcz45_0:w44.cell? ⟨gb414,0,none⟩=some (.int .i64 t409):=(blk_cell BK414.out 0).trans rfl;have hcz45_1:w44.cell? ⟨gb414,1,none⟩=some (.slice Ao12 t410.length co12):=(blk_cell BK414.out 1).trans rfl;have hfz45_0:=blk_frozen BK414.out 0;have hfz45_1:=blk_frozen BK414.out 1;have hcz46_0:w44.cell? ⟨gb426,0,none⟩=some (.int .i64 t421):=(blk_cell BK426.out 0).trans rfl;have hcz46_1:w44.cell? ⟨gb426,1,none⟩=some (.slice Ao24 t422.length co24):=(blk_cell BK426.out 1).trans rfl;have hfz46_0:=blk_frozen BK426.out 0;have hfz46_1:=blk_frozen BK426.out 1)|(go_at_call 10;(with_reducible refine(spec_LeastTurn.calls kj7 t409 _ _ t410 t421 _ _ t422 t430 t431 _ ?side1 ?side2 ?side3 ?side4 A37.out).mono ?_);(case side1=>repeat(first|exact(Kd.R_reads' HO_415001.out).2.2|(with_reducible refine Kd.C_alloc ?_ _)|(with_reducible refine Kd.C_drewN ?_ _)|(with_reducible refine Kd.C_drew ?_)));(case side2=>exact(Kd.R_reads' HO_415001.out).2.1);(case side3=>repeat(first|exact(Kd.R_reads' HO_427001.out).2.2|(with_reducible refine Kd.C_alloc ?_ _)|(with_reducible refine Kd.C_drewN ?_ _)|(with_reducible refine Kd.C_drew ?_)));(case side4=>exact(Kd.R_reads' HO_427001.out).2.1);rintro e w47 ⟨rfl,hb⟩;have n0_:=am (Kd.R_below (rup HO_415001.out) hb);have n1_:=am (Kd.R_below (rup HO_421001.out) hb);have n2_:=am (Kd.R_below (rup HO_427001.out) hb);have n3_:=am (blk_below (bup BK414.out) hb);have n4_:=am (blk_below (bup BK420.out) hb);have n5_:=am (blk_below (bup BK426.out) hb);have n6_:=am (below_step bl hb);clear HO_415001 HO_421001 HO_427001 BK414 BK420 BK426 HB;have HO_415001:=n0_;have HO_421001:=n1_;have HO_427001:=n2_;have BK414:=n3_;have BK420:=n4_;have BK426:=n5_;have HB:=n6_;clear n0_ n1_ n2_ n3_ n4_ n5_ n6_;(try clear hb);(try clear hb2);(try clear hk);(try clear hi)));go_upto_region 11 with(first|(go_at_call 9;(with_reducible refine(impl_LeastTurn.calls kj7 t409 _ _ t410 t415 _ _ t416 t428 t429 _ ?side1 ?side2 ?side3 ?side4 A36.out).mono ?_);(case side1=>repeat(first|exact(Kd.R_reads' HO_415001.out).2.2|(with_reducible refine Kd.C_alloc ?_ _)|(with_reducible refine Kd.C_drewN ?_ _)|(with_reducible refine Kd.C_drew ?_)));(case side2=>exact(Kd.R_reads' HO_415001.out).2.1);(case side3=>repeat(first|exact(Kd.R_reads' HO_421001.out).2.2|(with_reducible refine Kd.C_alloc ?_ _)|(with_reducible refine Kd.C_drewN ?_ _)|(with_reducible refine Kd.C_drew ?_)));(case side4=>exact(Kd.R_reads' HO_421001.out).2.1);rintro e w44 ⟨rfl,hb⟩;have n0_:=am (Kd.R_below (rup HO_415001.out) hb);have n1_:=am (Kd.R_below (rup HO_421001.out) hb);have n2_:=am (Kd.R_below (rup HO_427001.out) hb);have n3_:=am (blk_below (bup BK414.out) hb);have n4_:=am (blk_below (bup BK420.out) hb);have n5_:=am (blk_below (bup BK426.out) hb);have n6_:=am (below_step bl hb);clear HO_415001 HO_421001 HO_427001 BK414 BK420 BK426 HB;have HO_415001:=n0_;have HO_421001:=n1_;have HO_427001:=n2_;have BK414:=n3_;have BK420:=n4_;have BK426:=n5_;have HB:=n6_;clear n0_ n1_ n2_ n3_ n4_ n5_ n6_;(try clear hb);(try clear hb2);(try clear hk);(try clear hi);have hcz45_0:w44.cell? ⟨gb414,0,none⟩=some (.int .i64 t409):=(blk_cell BK414.out 0).trans rfl;have hcz45_1:w44.cell? ⟨gb414,1,none⟩=some (.slice Ao12 t410.length co12):=(blk_cell BK414.out 1).trans rfl;have hfz45_0:=blk_frozen BK414.out 0;have hfz45_1:=blk_frozen BK414.out 1;have hcz46_0:w44.cell? ⟨gb426,0,none⟩=some (.int .i64 t421):=(blk_cell BK426.out 0).trans rfl;have hcz46_1:w44.cell? ⟨gb426,1,none⟩=some (.slice Ao24 t422.length co24):=(blk_cell BK426.out 1).trans rfl;have hfz46_0:=blk_frozen BK426.out 0;have hfz46_1:=blk_frozen BK426.out 1)|(go_at_call 10;(with_reducible refine(spec_LeastTurn.calls kj7 t409 _ _ t410 t421 _ _ t422 t430 t431 _ ?side1 ?side2 ?side3 ?side4 A37.out).mono ?_);(case side1=>repeat(first|exact(Kd.R_reads' HO_415001.out).2.2|(with_reducible refine Kd.C_alloc ?_ _)|(with_reducible refine Kd.C_drewN ?_ _)|(with_reducible refine Kd.C_drew ?_)));(case side2=>exact(Kd.R_reads' HO_415001.out).2.1);(case side3=>repeat(first|exact(Kd.R_reads' HO_427001.out).2.2|(with_reducible refine Kd.C_alloc ?_ _)|(with_reducible refine Kd.C_drewN ?_ _)|(with_reducible refine Kd.C_drew ?_)));(case side4=>exact(Kd.R_reads' HO_427001.out).2.1);rintro e w47 ⟨rfl,hb⟩;have n0_:=am (Kd.R_below (rup HO_415001.out) hb);have n1_:=am (Kd.R_below (rup HO_421001.out) hb);have n2_:=am (Kd.R_below (rup HO_427001.out) hb);have n3_:=am (blk_below (bup BK414.out) hb);have n4_:=am (blk_below (bup BK420.out) hb);have n5_:=am (blk_below (bup BK426.out) hb);have n6_:=am (below_step bl hb);clear HO_415001 HO_421001 HO_427001 BK414 BK420 BK426 HB;have HO_415001:=n0_;have HO_421001:=n1_;have HO_427001:=n2_;have BK414:=n3_;have BK420:=n4_;have BK426:=n5_;have HB:=n6_;clear n0_ n1_ n2_ n3_ n4_ n5_ n6_;(try clear hb);(try clear hb2);(try clear hk);(try clear hi))))
        (try simp only[Act.put,List.setIfInBounds_toArray,List.set_cons_zero,List.set_cons_succ])
        go_cut [112] (fun v112 wc=>∃(kq:Nat) (x112_37:Bool),v112 = .bool x112_37∧Aside0 (laws_FnDrums.j1 kq l1 t413 x112_37 t409 t410 t421 t422=some r)∧Aside0 (kq≤kj7)∧Aside0 (Kd.R (Kd.int .i64) 3 wc w.heap.size (fun k_=>some k_≠((.slice Ao24 t422.length co24):Value).ownBlock) (.slice Ao12 t410.length co12) t410)∧Aside0 (Kd.R (Kd.int .i64) 3 wc w.heap.size (fun k_=>some k_≠((.slice Ao12 t410.length co12):Value).ownBlock) (.slice Ao24 t422.length co24) t422)∧Aside0 (wc.heap[gb414]?=some (.cells #[.int .i64 t409,(.slice Ao12 t410.length co12)] 26 (0,0)))∧Aside0 (wc.heap[gb426]?=some (.cells #[.int .i64 t421,(.slice Ao24 t422.length co24)] 26 (0,0)))∧Aside0 (Below w.heap.size w wc))
        case first =>
         have H:=HC38.out
         clear HC38
         by_cases c48:t429=true
         ·subst c48
          have H1:(if t431=true then(if t428=t430 then(if t430>t413 then(laws_FnDrums.j1 kj7 l1 t413 true t409 t410 t421 t422) else(laws_FnDrums.j1 kj7 l1 t413 ((t422.length:Int) != (t410.length:Int)) t409 t410 t421 t422)) else(laws_FnDrums.j1 kj7 l1 t413 true t409 t410 t421 t422)) else(laws_FnDrums.j1 kj7 l1 t413 true t409 t410 t421 t422))=some r:=by rw[if_pos rfl] at H;exact H
          clear H
          have H:=H1
          clear H1
          by_cases c49:t431=true
          ·subst c49
           have H1:(if t428=t430 then(if t430>t413 then(laws_FnDrums.j1 kj7 l1 t413 true t409 t410 t421 t422) else(laws_FnDrums.j1 kj7 l1 t413 ((t422.length:Int) != (t410.length:Int)) t409 t410 t421 t422)) else(laws_FnDrums.j1 kj7 l1 t413 true t409 t410 t421 t422))=some r:=by rw[if_pos rfl] at H;exact H
           clear H
           have H:=H1
           clear H1
           by_cases c50:t428=t430
           ·rw[if_pos c50] at H
            have c50b0:(t428 == t430)=true:=beq_iff_eq.mpr c50
            have c50b1:(t428 != t430)=false:=bne_eq_false_iff_eq.mpr c50
            clear c50
            (first|rw[c50b0]|(simp only[i64_w,i32_w];rw[c50b0])|skip)
            by_cases c51:t430>t413
            ·rw[if_pos c51] at H
             have c51b0:decide (t413<t430)=true:=decide_eq_true c51
             clear c51
             exact absurd hrt.out (laws_FnDrums.j1_dead H)
            ·rw[if_neg c51] at H
             have c51b0:decide (t413<t430)=false:=decide_eq_false c51
             clear c51
             have H':=am H
             clear H
             have hnb52:=NB426_414.out
             have hnc52:=NB414_426.out
             have hnb53:=NB426_420.out
             have hnc53:=NB420_426.out
             have hcz54_0:w47.cell? ⟨gb426,0,none⟩=some (.int .i64 t421):=(blk_cell BK426.out 0).trans rfl
             have hcz54_1:w47.cell? ⟨gb426,1,none⟩=some (.slice Ao24 t422.length co24):=(blk_cell BK426.out 1).trans rfl
             have hfz54_0:=blk_frozen BK426.out 0
             have hfz54_1:=blk_frozen BK426.out 1
             have hnb55:=NB414_420.out
             have hnc55:=NB420_414.out
             have hcz56_0:w47.cell? ⟨gb414,0,none⟩=some (.int .i64 t409):=(blk_cell BK414.out 0).trans rfl
             have hcz56_1:w47.cell? ⟨gb414,1,none⟩=some (.slice Ao12 t410.length co12):=(blk_cell BK414.out 1).trans rfl
             have hfz56_0:=blk_frozen BK414.out 0
             have hfz56_1:=blk_frozen BK414.out 1
             go_wp2
             repeat(go_quiet (fail);try go_wp2)
             go_meet
             case rel=>exact⟨_,(((t422.length:Int) != (t410.length:Int))),fin2,H',⟨by have:=HJ7.out;first|omega|exact Nat.le_refl _⟩,⟨rup (Kd.R_mono HO_415001.out (fun _ hk=>hk.2))⟩,⟨rup (Kd.R_mono HO_427001.out (fun _ hk=>hk.1))⟩,⟨bup BK414.out⟩,⟨bup BK426.out⟩,⟨bl⟩⟩
           ·rw[if_neg c50] at H
            have c50b0:(t428 == t430)=false:=beq_eq_false_iff_ne.mpr c50
            have c50b1:(t428 != t430)=true:=bne_iff_ne.mpr c50
            (first|rw[c50b0]|(simp only[i64_w,i32_w];rw[c50b0])|skip)
            exact absurd hrt.out (laws_FnDrums.j1_dead H)
          ·replace c49:=Bool.eq_false_iff.mpr c49
           subst c49
           have H1:(laws_FnDrums.j1 kj7 l1 t413 true t409 t410 t421 t422)=some r:=by rw[if_neg (show ¬ (false=true) by decide)] at H;exact H
           clear H
           have H:=H1
           clear H1
           exact absurd hrt.out (laws_FnDrums.j1_dead H)
         ·replace c48:=Bool.eq_false_iff.mpr c48
          subst c48
          have H1:(laws_FnDrums.j1 kj7 l1 t413 true t409 t410 t421 t422)=some r:=by rw[if_neg (show ¬ (false=true) by decide)] at H;exact H
          clear H
          have H:=H1
          clear H1
          exact absurd hrt.out (laws_FnDrums.j1_dead H)
        case rest =>
         as_aux_lemma =>
          clear HC38
          try clear c1
          try clear c2
          try clear p2
          try clear c3
          try clear c4
          try clear c5
          try clear c15
          try clear c21
          try clear c22
          try clear c25
          try clear c25b0
          try clear c25b1
          try clear c25b2
          try clear c27
          try clear c28
          try clear c30
          try clear c33
          try clear c35
          try clear c39
          try clear c40
          try clear c42
          try clear c48
          try clear c49
          try clear c50
          try clear c50b0
          try clear c50b1
          try clear c51
          try clear c51b0
          try clear c52
          try clear c53
          try clear c55
          try clear hcz11_0
          try clear hcz11_1
          try clear hcz16_0
          try clear hcz16_1
          try clear hcz18_0
          try clear hcz18_1
          try clear hcz23_0
          try clear hcz23_1
          try clear hcz29_0
          try clear hcz29_1
          try clear hcz31_0
          try clear hcz31_1
          try clear hcz41_0
          try clear hcz41_1
          try clear hcz43_0
          try clear hcz43_1
          try clear hcz45_0
          try clear hcz45_1
          try clear hcz46_0
          try clear hcz46_1
          try clear hcz54_0
          try clear hcz54_1
          try clear hcz56_0
          try clear hcz56_1
          try clear hfz11_0
          try clear hfz11_1
          try clear hfz16_0
          try clear hfz16_1
          try clear hfz18_0
          try clear hfz18_1
          try clear hfz23_0
          try clear hfz23_1
          try clear hfz29_0
          try clear hfz29_1
          try clear hfz31_0
          try clear hfz31_1
          try clear hfz41_0
          try clear hfz41_1
          try clear hfz43_0
          try clear hfz43_1
          try clear hfz45_0
          try clear hfz45_1
          try clear hfz46_0
          try clear hfz46_1
          try clear hfz54_0
          try clear hfz54_1
          try clear hfz56_0
          try clear hfz56_1
          try clear p2
          obtain⟨kq,x112_37,rfl,HA,HJ37,HO_415001,HO_427001,BK414,BK426,HB⟩:=hcut
          cases kq with
          | zero=>exact absurd HA.out (by simp [laws_FnDrums.j1])
          | succ kj37 =>
           have H:=HA.out
           clear HA
           simp only[laws_FnDrums.j1] at H
           by_cases c57:x112_37=true
           ·subst c57
            have H1:(some false)=some r:=by rw[if_pos rfl] at H;exact H
            clear H
            have H:=H1
            clear H1
            obtain rfl:=Option.some.inj H
            exact absurd hrt.out (by simp)
           ·replace c57:=Bool.eq_false_iff.mpr c57
            subst c57
            have H1:(laws_FnDrums.l0 kj37 l1 t413 t410 (t410.length:Int) 0 t409 t410 t421 t422)=some r:=by rw[if_neg (show ¬ (false=true) by decide)] at H;exact H
            clear H
            have H:=H1
            clear H1
            have H':=am H
            clear H
            have hnb58:=NB414_426.out
            have hnc58:=NB426_414.out
            have hcz59_0:wc.cell? ⟨gb414,0,none⟩=some (.int .i64 t409):=(blk_cell BK414.out 0).trans rfl
            have hcz59_1:wc.cell? ⟨gb414,1,none⟩=some (.slice Ao12 t410.length co12):=(blk_cell BK414.out 1).trans rfl
            have hfz59_0:=blk_frozen BK414.out 0
            have hfz59_1:=blk_frozen BK414.out 1
            go_wp2
            repeat(go_quiet (fail);try go_wp2)
            go_loopg [116] kj37 (fun kq v116 w'=>∃(x116_3:Int),v116 = .int .i64 x116_3∧Aside0 (laws_FnDrums.l0 kq l1 t413 t410 (t410.length:Int) x116_3 t409 t410 t421 t422=some r)∧Aside0 (kq≤kj37)∧Aside0 (Kd.R (Kd.int .i64) 3 w' w.heap.size (fun k_=>some k_≠((.slice Ao24 t422.length co24):Value).ownBlock) (.slice Ao12 t410.length co12) t410)∧Aside0 (Kd.R (Kd.int .i64) 3 w' w.heap.size (fun k_=>some k_≠((.slice Ao24 t422.length co24):Value).ownBlock) (.slice Ao12 t410.length co12) t410)∧Aside0 (Kd.R (Kd.int .i64) 3 w' w.heap.size (fun k_=>some k_≠((.slice Ao12 t410.length co12):Value).ownBlock∧some k_≠((.slice Ao12 t410.length co12):Value).ownBlock) (.slice Ao24 t422.length co24) t422)∧Aside0 (w'.heap[gb414]?=some (.cells #[.int .i64 t409,(.slice Ao12 t410.length co12)] 26 (0,0)))∧Aside0 (w'.heap[gb426]?=some (.cells #[.int .i64 t421,(.slice Ao24 t422.length co24)] 26 (0,0)))∧Aside0 (Below w.heap.size w w'))
            case atStart=>exact⟨(0),fin2,H',⟨Nat.le_refl _⟩,⟨rup HO_415001.out⟩,⟨rup HO_415001.out⟩,⟨rup (Kd.R_mono HO_427001.out (fun _ hk=>⟨hk,hk⟩))⟩,⟨bup BK414.out⟩,⟨bup BK426.out⟩,⟨bl⟩⟩
            case round =>
             as_aux_lemma =>
              clear H'
              try clear c1
              try clear c2
              try clear p2
              try clear c3
              try clear c4
              try clear c5
              try clear c15
              try clear c21
              try clear c22
              try clear c25
              try clear c25b0
              try clear c25b1
              try clear c25b2
              try clear c27
              try clear c28
              try clear c30
              try clear c33
              try clear c35
              try clear c39
              try clear c40
              try clear c42
              try clear c48
              try clear c49
              try clear c50
              try clear c50b0
              try clear c50b1
              try clear c51
              try clear c51b0
              try clear c52
              try clear c53
              try clear c55
              try clear c57
              try clear c58
              try clear hcz11_0
              try clear hcz11_1
              try clear hcz16_0
              try clear hcz16_1
              try clear hcz18_0
              try clear hcz18_1
              try clear hcz23_0
              try clear hcz23_1
              try clear hcz29_0
              try clear hcz29_1
              try clear hcz31_0
              try clear hcz31_1
              try clear hcz41_0
              try clear hcz41_1
              try clear hcz43_0
              try clear hcz43_1
              try clear hcz45_0
              try clear hcz45_1
              try clear hcz46_0
              try clear hcz46_1
              try clear hcz54_0
              try clear hcz54_1
              try clear hcz56_0
              try clear hcz56_1
              try clear hcz59_0
              try clear hcz59_1
              try clear hfz11_0
              try clear hfz11_1
              try clear hfz16_0
              try clear hfz16_1
              try clear hfz18_0
              try clear hfz18_1
              try clear hfz23_0
              try clear hfz23_1
              try clear hfz29_0
              try clear hfz29_1
              try clear hfz31_0
              try clear hfz31_1
              try clear hfz41_0
              try clear hfz41_1
              try clear hfz43_0
              try clear hfz43_1
              try clear hfz45_0
              try clear hfz45_1
              try clear hfz46_0
              try clear hfz46_1
              try clear hfz54_0
              try clear hfz54_1
              try clear hfz56_0
              try clear hfz56_1
              try clear hfz59_0
              try clear hfz59_1
              try clear p2
              obtain⟨x116_3,rfl,HA,HK3,HO_114,HO_415001,HO_427001,BK414,BK426,HB⟩:=hrel
              cases gk with
              | zero=>exact absurd HA.out (by simp [laws_FnDrums.l0])
              | succ k3 =>
               have H:=HA.out
               clear HA
               simp only[laws_FnDrums.l0] at H
               by_cases c60:x116_3<(t410.length:Int)
               ·rw[if_pos c60] at H
                have c60b0:decide (x116_3<(t410.length:Int))=true:=decide_eq_true c60
                clear c60
                by_cases c61:0≤x116_3
                ·rw[if_pos c61] at H
                 have c61b0:decide (0≤x116_3)=true:=decide_eq_true c61
                 clear c61
                 by_cases c62:x116_3<(t410.length:Int)
                 ·rw[if_pos c62] at H
                  have c62b0:decide (x116_3<(t410.length:Int))=true:=decide_eq_true c62
                  clear c62
                  by_cases c63:t409=0
                  ·rw[if_pos c63] at H
                   exact absurd H (by simp)
                  ·rw[if_neg c63] at H
                   have c63b0:(t409 == 0)=false:=beq_eq_false_iff_ne.mpr c63
                   have c63b1:(t409 != 0)=true:=bne_iff_ne.mpr c63
                   replace H:=Option.bind_eq_some_iff.mp H
                   obtain⟨t433,A640,H⟩:=H
                   replace H:(if t433=true then(laws_FnDrums.l0 k3 l1 t413 t410 (t410.length:Int) (wrap64 (x116_3+1)) t409 t410 t421 t422) else(some false))=some r:=H
                   have A64:=am A640
                   clear A640
                   by_cases c65:t433=true
                   ·subst c65
                    have H1:(laws_FnDrums.l0 k3 l1 t413 t410 (t410.length:Int) (wrap64 (x116_3+1)) t409 t410 t421 t422)=some r:=by rw[if_pos rfl] at H;exact H
                    clear H
                    have H:=H1
                    clear H1
                    have H':=am H
                    clear H
                    have p432:0≤(x116_3:Int):=od
                    have q432:x116_3<(t410.length:Int):=od
                    obtain⟨ad432,e432,hx432_0⟩:=Kd.at_int (Kd.R_reads' HO_114.out).2.2 x116_3 p432 q432
                    cases e432
                    replace p432:=eq_true p432
                    replace q432:=eq_true q432
                    have hnb66:=NB426_414.out
                    have hnc66:=NB414_426.out
                    have hcz67_0:wr.cell? ⟨gb426,0,none⟩=some (.int .i64 t421):=(blk_cell BK426.out 0).trans rfl
                    have hcz67_1:wr.cell? ⟨gb426,1,none⟩=some (.slice Ao24 t422.length co24):=(blk_cell BK426.out 1).trans rfl
                    have hfz67_0:=blk_frozen BK426.out 0
                    have hfz67_1:=blk_frozen BK426.out 1
                    have hcz68_0:wr.cell? ⟨gb414,0,none⟩=some (.int .i64 t409):=(blk_cell BK414.out 0).trans rfl
                    have hcz68_1:wr.cell? ⟨gb414,1,none⟩=some (.slice (some ad432) t410.length co12):=(blk_cell BK414.out 1).trans rfl
                    have hfz68_0:=blk_frozen BK414.out 0
                    have hfz68_1:=blk_frozen BK414.out 1
                    go_wp2_with (first|(go_at_call 11;(with_reducible refine(laws_pIn.calls k3 _ _ t422 (Int.tmod (wrap64 ((rd t410 x116_3)+t413)) t409) true _ ?side1 ?side2 A64.out).mono ?_);(case side1=>repeat(first|exact(Kd.R_reads' HO_427001.out).2.2|(with_reducible refine Kd.C_alloc ?_ _)|(with_reducible refine Kd.C_drewN ?_ _)|(with_reducible refine Kd.C_drew ?_)));(case side2=>exact(Kd.R_reads' HO_427001.out).2.1);rintro e w' ⟨rfl,⟨nd,rfl⟩⟩;(try first|exact⟨rfl,_,World.drewN_drewN _ _ _⟩|exact⟨rfl,_,Eq.trans (World.drewN_drewN _ _ _) (congrArg (World.drewN _) (Nat.add_assoc _ _ _))⟩)))
                    repeat(go_quiet (first|(go_at_call 11;(with_reducible refine(laws_pIn.calls k3 _ _ t422 (Int.tmod (wrap64 ((rd t410 x116_3)+t413)) t409) true _ ?side1 ?side2 A64.out).mono ?_);(case side1=>repeat(first|exact(Kd.R_reads' HO_427001.out).2.2|(with_reducible refine Kd.C_alloc ?_ _)|(with_reducible refine Kd.C_drewN ?_ _)|(with_reducible refine Kd.C_drew ?_)));(case side2=>exact(Kd.R_reads' HO_427001.out).2.1);rintro e w' ⟨rfl,⟨nd,rfl⟩⟩;(try first|exact⟨rfl,_,World.drewN_drewN _ _ _⟩|exact⟨rfl,_,Eq.trans (World.drewN_drewN _ _ _) (congrArg (World.drewN _) (Nat.add_assoc _ _ _))⟩)));try go_wp2_with (first|(go_at_call 11;(with_reducible refine(laws_pIn.calls k3 _ _ t422 (Int.tmod (wrap64 ((rd t410 x116_3)+t413)) t409) true _ ?side1 ?side2 A64.out).mono ?_);(case side1=>repeat(first|exact(Kd.R_reads' HO_427001.out).2.2|(with_reducible refine Kd.C_alloc ?_ _)|(with_reducible refine Kd.C_drewN ?_ _)|(with_reducible refine Kd.C_drew ?_)));(case side2=>exact(Kd.R_reads' HO_427001.out).2.1);rintro e w' ⟨rfl,⟨nd,rfl⟩⟩;(try first|exact⟨rfl,_,World.drewN_drewN _ _ _⟩|exact⟨rfl,_,Eq.trans (World.drewN_drewN _ _ _) (congrArg (World.drewN _) (Nat.add_assoc _ _ _))⟩))))
                    go_roundg k3
                    case measure=>have:=HJ7.out;have:=HJ37.out;have:=HK3.out;omega
                    case rel=>exact⟨(wrap64 (x116_3+1)),fin2,H',⟨by have:=HJ7.out;have:=HJ37.out;have:=HK3.out;omega⟩,⟨rup HO_114.out⟩,⟨rup HO_415001.out⟩,⟨rup HO_427001.out⟩,⟨bup BK414.out⟩,⟨bup BK426.out⟩,⟨bl⟩⟩
                   ·replace c65:=Bool.eq_false_iff.mpr c65
                    subst c65
                    have H1:(some false)=some r:=by rw[if_neg (show ¬ (false=true) by decide)] at H;exact H
                    clear H
                    have H:=H1
                    clear H1
                    obtain rfl:=Option.some.inj H
                    exact absurd hrt.out (by simp)
                 ·rw[if_neg c62] at H
                  exact absurd H (by simp)
                ·rw[if_neg c61] at H
                 exact absurd H (by simp)
               ·rw[if_neg c60] at H
                have c60b0:decide (x116_3<(t410.length:Int))=false:=decide_eq_false c60
                clear c60
                have H':=am H
                clear H
                go_wp2
                repeat(go_quiet (fail);try go_wp2)
                go_meet
                case rel=>exact⟨_,H',⟨by have:=HJ7.out;have:=HJ37.out;have:=HK3.out;first|omega|exact Nat.le_refl _⟩,⟨bl⟩⟩
       ·replace c35:=Bool.eq_false_iff.mpr c35
        subst c35
        have H1:(laws_FnDrums.j3 kj7 l1)=some r:=by rw[if_neg (show ¬ (false=true) by decide)] at H;exact H
        clear H
        have H:=H1
        clear H1
        have H':=am H
        clear H
        go_wp2
        repeat(go_quiet (fail);try go_wp2)
        go_meet
        case rel=>exact⟨_,H',⟨by have:=HJ7.out;first|omega|exact Nat.le_refl _⟩,⟨bl⟩⟩
      case rest =>
       as_aux_lemma =>
        clear HC34
        try clear c1
        try clear c2
        try clear p2
        try clear c3
        try clear c4
        try clear p4
        try clear q4
        try clear hx4
        try clear c5
        try clear c6
        try clear p6
        try clear c15
        try clear c21
        try clear c22
        try clear c25
        try clear c25b0
        try clear c25b1
        try clear c25b2
        try clear c27
        try clear c28
        try clear c30
        try clear c33
        try clear c35
        try clear c39
        try clear c40
        try clear c42
        try clear p43
        try clear q43
        try clear hx43
        try clear c48
        try clear c49
        try clear c50
        try clear c50b0
        try clear c50b1
        try clear c51
        try clear c51b0
        try clear c52
        try clear c53
        try clear c55
        try clear c57
        try clear c58
        try clear c60
        try clear c60b0
        try clear c61
        try clear c61b0
        try clear c62
        try clear c62b0
        try clear c63
        try clear c63b0
        try clear c63b1
        try clear p64
        try clear c65
        try clear c66
        try clear c69
        try clear hcz11_0
        try clear hcz11_1
        try clear hcz16_0
        try clear hcz16_1
        try clear hcz18_0
        try clear hcz18_1
        try clear hcz23_0
        try clear hcz23_1
        try clear hcz29_0
        try clear hcz29_1
        try clear hcz31_0
        try clear hcz31_1
        try clear hcz41_0
        try clear hcz41_1
        try clear hcz43_0
        try clear hcz43_1
        try clear hcz45_0
        try clear hcz45_1
        try clear hcz46_0
        try clear hcz46_1
        try clear hcz54_0
        try clear hcz54_1
        try clear hcz56_0
        try clear hcz56_1
        try clear hcz59_0
        try clear hcz59_1
        try clear hcz67_0
        try clear hcz67_1
        try clear hcz68_0
        try clear hcz68_1
        try clear hcz70_0
        try clear hcz70_1
        try clear hcz71_0
        try clear hcz71_1
        try clear hfz11_0
        try clear hfz11_1
        try clear hfz16_0
        try clear hfz16_1
        try clear hfz18_0
        try clear hfz18_1
        try clear hfz23_0
        try clear hfz23_1
        try clear hfz29_0
        try clear hfz29_1
        try clear hfz31_0
        try clear hfz31_1
        try clear hfz41_0
        try clear hfz41_1
        try clear hfz43_0
        try clear hfz43_1
        try clear hfz45_0
        try clear hfz45_1
        try clear hfz46_0
        try clear hfz46_1
        try clear hfz54_0
        try clear hfz54_1
        try clear hfz56_0
        try clear hfz56_1
        try clear hfz59_0
        try clear hfz59_1
        try clear hfz67_0
        try clear hfz67_1
        try clear hfz68_0
        try clear hfz68_1
        try clear hfz70_0
        try clear hfz70_1
        try clear hfz71_0
        try clear hfz71_1
        try clear hx432_0
        try clear p2
        try clear p432
        try clear q432
        obtain⟨kq,HA,HJ33,HB⟩:=hcut
        cases kq with
        | zero=>exact absurd HA.out (by simp [laws_FnDrums.j3])
        | succ kj33 =>
         have H:=HA.out
         clear HA
         simp only[laws_FnDrums.j3] at H
         replace H:=Option.bind_eq_some_iff.mp H
         obtain⟨t434,A720,H⟩:=H
         replace H:((impl_MostTogether.f kj33 t434).bind fun bt437=>((spec_MostTogether.f kj33 t434).bind fun bt440=>((impl_CommonSteps.f kj33 t434).bind fun bt443=>((spec_CommonSteps.f kj33 t434).bind fun bt445=>((impl_TogetherAt.f kj33 t434).bind fun bt447=>((spec_TogetherAt.f kj33 t434).bind fun bt449=>(if(bt437.2.2 != bt440.2.2)=true then(laws_FnDrums.j4 kj33 l1 t434 bt437.2.2 bt440.1 bt440.2.1 bt445.1 true) else(if bt437.1=bt440.1 then(if bt437.2.1=bt440.2.1 then(if(bt443.2 != bt445.2)=true then(laws_FnDrums.j4 kj33 l1 t434 bt437.2.2 bt440.1 bt440.2.1 bt445.1 true) else(if bt443.1=bt445.1 then(if(bt447.2 != bt449.2)=true then(laws_FnDrums.j4 kj33 l1 t434 bt437.2.2 bt440.1 bt440.2.1 bt445.1 true) else(if bt447.1=bt449.1 then(if(bt443.2 != bt437.2.2)=true then(laws_FnDrums.j4 kj33 l1 t434 bt437.2.2 bt440.1 bt440.2.1 bt445.1 true) else(if bt437.2.2=true then(if(bt447.2 != (bt440.2.1 == (t434.length:Int)))=true then(laws_FnDrums.j4 kj33 l1 t434 bt437.2.2 bt440.1 bt440.2.1 bt445.1 true) else(if bt447.2=true then(laws_FnDrums.j4 kj33 l1 t434 bt437.2.2 bt440.1 bt440.2.1 bt445.1 (bt449.1 != bt440.1)) else(laws_FnDrums.j4 kj33 l1 t434 bt437.2.2 bt440.1 bt440.2.1 bt445.1 false))) else(if(bt447.2 != false)=true then(laws_FnDrums.j4 kj33 l1 t434 bt437.2.2 bt440.1 bt440.2.1 bt445.1 true) else(if bt447.2=true then(laws_FnDrums.j4 kj33 l1 t434 bt437.2.2 bt440.1 bt440.2.1 bt445.1 (bt449.1 != bt440.1)) else(laws_FnDrums.j4 kj33 l1 t434 bt437.2.2 bt440.1 bt440.2.1 bt445.1 false))))) else(laws_FnDrums.j4 kj33 l1 t434 bt437.2.2 bt440.1 bt440.2.1 bt445.1 true))) else(laws_FnDrums.j4 kj33 l1 t434 bt437.2.2 bt440.1 bt440.2.1 bt445.1 true))) else(laws_FnDrums.j4 kj33 l1 t434 bt437.2.2 bt440.1 bt440.2.1 bt445.1 true)) else(laws_FnDrums.j4 kj33 l1 t434 bt437.2.2 bt440.1 bt440.2.1 bt445.1 true)))))))))=some r:=H
         have A72:=am A720
         clear A720
         replace H:=Option.bind_eq_some_iff.mp H
         obtain⟨⟨t437,t438,t439⟩,A730,H⟩:=H
         replace H:((spec_MostTogether.f kj33 t434).bind fun bt440=>((impl_CommonSteps.f kj33 t434).bind fun bt443=>((spec_CommonSteps.f kj33 t434).bind fun bt445=>((impl_TogetherAt.f kj33 t434).bind fun bt447=>((spec_TogetherAt.f kj33 t434).bind fun bt449=>(if(t439 != bt440.2.2)=true then(laws_FnDrums.j4 kj33 l1 t434 t439 bt440.1 bt440.2.1 bt445.1 true) else(if t437=bt440.1 then(if t438=bt440.2.1 then(if(bt443.2 != bt445.2)=true then(laws_FnDrums.j4 kj33 l1 t434 t439 bt440.1 bt440.2.1 bt445.1 true) else(if bt443.1=bt445.1 then(if(bt447.2 != bt449.2)=true then(laws_FnDrums.j4 kj33 l1 t434 t439 bt440.1 bt440.2.1 bt445.1 true) else(if bt447.1=bt449.1 then(if(bt443.2 != t439)=true then(laws_FnDrums.j4 kj33 l1 t434 t439 bt440.1 bt440.2.1 bt445.1 true) else(if t439=true then(if(bt447.2 != (bt440.2.1 == (t434.length:Int)))=true then(laws_FnDrums.j4 kj33 l1 t434 t439 bt440.1 bt440.2.1 bt445.1 true) else(if bt447.2=true then(laws_FnDrums.j4 kj33 l1 t434 t439 bt440.1 bt440.2.1 bt445.1 (bt449.1 != bt440.1)) else(laws_FnDrums.j4 kj33 l1 t434 t439 bt440.1 bt440.2.1 bt445.1 false))) else(if(bt447.2 != false)=true then(laws_FnDrums.j4 kj33 l1 t434 t439 bt440.1 bt440.2.1 bt445.1 true) else(if bt447.2=true then(laws_FnDrums.j4 kj33 l1 t434 t439 bt440.1 bt440.2.1 bt445.1 (bt449.1 != bt440.1)) else(laws_FnDrums.j4 kj33 l1 t434 t439 bt440.1 bt440.2.1 bt445.1 false))))) else(laws_FnDrums.j4 kj33 l1 t434 t439 bt440.1 bt440.2.1 bt445.1 true))) else(laws_FnDrums.j4 kj33 l1 t434 t439 bt440.1 bt440.2.1 bt445.1 true))) else(laws_FnDrums.j4 kj33 l1 t434 t439 bt440.1 bt440.2.1 bt445.1 true)) else(laws_FnDrums.j4 kj33 l1 t434 t439 bt440.1 bt440.2.1 bt445.1 true))))))))=some r:=H
         have A73:=am A730
         clear A730
         replace H:=Option.bind_eq_some_iff.mp H
         obtain⟨⟨t440,t441,t442⟩,A740,H⟩:=H
         replace H:((impl_CommonSteps.f kj33 t434).bind fun bt443=>((spec_CommonSteps.f kj33 t434).bind fun bt445=>((impl_TogetherAt.f kj33 t434).bind fun bt447=>((spec_TogetherAt.f kj33 t434).bind fun bt449=>(if(t439 != t442)=true then(laws_FnDrums.j4 kj33 l1 t434 t439 t440 t441 bt445.1 true) else(if t437=t440 then(if t438=t441 then(if(bt443.2 != bt445.2)=true then(laws_FnDrums.j4 kj33 l1 t434 t439 t440 t441 bt445.1 true) else(if bt443.1=bt445.1 then(if(bt447.2 != bt449.2)=true then(laws_FnDrums.j4 kj33 l1 t434 t439 t440 t441 bt445.1 true) else(if bt447.1=bt449.1 then(if(bt443.2 != t439)=true then(laws_FnDrums.j4 kj33 l1 t434 t439 t440 t441 bt445.1 true) else(if t439=true then(if(bt447.2 != (t441 == (t434.length:Int)))=true then(laws_FnDrums.j4 kj33 l1 t434 t439 t440 t441 bt445.1 true) else(if bt447.2=true then(laws_FnDrums.j4 kj33 l1 t434 t439 t440 t441 bt445.1 (bt449.1 != t440)) else(laws_FnDrums.j4 kj33 l1 t434 t439 t440 t441 bt445.1 false))) else(if(bt447.2 != false)=true then(laws_FnDrums.j4 kj33 l1 t434 t439 t440 t441 bt445.1 true) else(if bt447.2=true then(laws_FnDrums.j4 kj33 l1 t434 t439 t440 t441 bt445.1 (bt449.1 != t440)) else(laws_FnDrums.j4 kj33 l1 t434 t439 t440 t441 bt445.1 false))))) else(laws_FnDrums.j4 kj33 l1 t434 t439 t440 t441 bt445.1 true))) else(laws_FnDrums.j4 kj33 l1 t434 t439 t440 t441 bt445.1 true))) else(laws_FnDrums.j4 kj33 l1 t434 t439 t440 t441 bt445.1 true)) else(laws_FnDrums.j4 kj33 l1 t434 t439 t440 t441 bt445.1 true)))))))=some r:=H
         have A74:=am A740
         clear A740
         replace H:=Option.bind_eq_some_iff.mp H
         obtain⟨⟨t443,t444⟩,A750,H⟩:=H
         replace H:((spec_CommonSteps.f kj33 t434).bind fun bt445=>((impl_TogetherAt.f kj33 t434).bind fun bt447=>((spec_TogetherAt.f kj33 t434).bind fun bt449=>(if(t439 != t442)=true then(laws_FnDrums.j4 kj33 l1 t434 t439 t440 t441 bt445.1 true) else(if t437=t440 then(if t438=t441 then(if(t444 != bt445.2)=true then(laws_FnDrums.j4 kj33 l1 t434 t439 t440 t441 bt445.1 true) else(if t443=bt445.1 then(if(bt447.2 != bt449.2)=true then(laws_FnDrums.j4 kj33 l1 t434 t439 t440 t441 bt445.1 true) else(if bt447.1=bt449.1 then(if(t444 != t439)=true then(laws_FnDrums.j4 kj33 l1 t434 t439 t440 t441 bt445.1 true) else(if t439=true then(if(bt447.2 != (t441 == (t434.length:Int)))=true then(laws_FnDrums.j4 kj33 l1 t434 t439 t440 t441 bt445.1 true) else(if bt447.2=true then(laws_FnDrums.j4 kj33 l1 t434 t439 t440 t441 bt445.1 (bt449.1 != t440)) else(laws_FnDrums.j4 kj33 l1 t434 t439 t440 t441 bt445.1 false))) else(if(bt447.2 != false)=true then(laws_FnDrums.j4 kj33 l1 t434 t439 t440 t441 bt445.1 true) else(if bt447.2=true then(laws_FnDrums.j4 kj33 l1 t434 t439 t440 t441 bt445.1 (bt449.1 != t440)) else(laws_FnDrums.j4 kj33 l1 t434 t439 t440 t441 bt445.1 false))))) else(laws_FnDrums.j4 kj33 l1 t434 t439 t440 t441 bt445.1 true))) else(laws_FnDrums.j4 kj33 l1 t434 t439 t440 t441 bt445.1 true))) else(laws_FnDrums.j4 kj33 l1 t434 t439 t440 t441 bt445.1 true)) else(laws_FnDrums.j4 kj33 l1 t434 t439 t440 t441 bt445.1 true))))))=some r:=H
         have A75:=am A750
         clear A750
         replace H:=Option.bind_eq_some_iff.mp H
         obtain⟨⟨t445,t446⟩,A760,H⟩:=H
         replace H:((impl_TogetherAt.f kj33 t434).bind fun bt447=>((spec_TogetherAt.f kj33 t434).bind fun bt449=>(if(t439 != t442)=true then(laws_FnDrums.j4 kj33 l1 t434 t439 t440 t441 t445 true) else(if t437=t440 then(if t438=t441 then(if(t444 != t446)=true then(laws_FnDrums.j4 kj33 l1 t434 t439 t440 t441 t445 true) else(if t443=t445 then(if(bt447.2 != bt449.2)=true then(laws_FnDrums.j4 kj33 l1 t434 t439 t440 t441 t445 true) else(if bt447.1=bt449.1 then(if(t444 != t439)=true then(laws_FnDrums.j4 kj33 l1 t434 t439 t440 t441 t445 true) else(if t439=true then(if(bt447.2 != (t441 == (t434.length:Int)))=true then(laws_FnDrums.j4 kj33 l1 t434 t439 t440 t441 t445 true) else(if bt447.2=true then(laws_FnDrums.j4 kj33 l1 t434 t439 t440 t441 t445 (bt449.1 != t440)) else(laws_FnDrums.j4 kj33 l1 t434 t439 t440 t441 t445 false))) else(if(bt447.2 != false)=true then(laws_FnDrums.j4 kj33 l1 t434 t439 t440 t441 t445 true) else(if bt447.2=true then(laws_FnDrums.j4 kj33 l1 t434 t439 t440 t441 t445 (bt449.1 != t440)) else(laws_FnDrums.j4 kj33 l1 t434 t439 t440 t441 t445 false))))) else(laws_FnDrums.j4 kj33 l1 t434 t439 t440 t441 t445 true))) else(laws_FnDrums.j4 kj33 l1 t434 t439 t440 t441 t445 true))) else(laws_FnDrums.j4 kj33 l1 t434 t439 t440 t441 t445 true)) else(laws_FnDrums.j4 kj33 l1 t434 t439 t440 t441 t445 true)))))=some r:=H
         have A76:=am A760
         clear A760
         replace H:=Option.bind_eq_some_iff.mp H
         obtain⟨⟨t447,t448⟩,A770,H⟩:=H
         replace H:((spec_TogetherAt.f kj33 t434).bind fun bt449=>(if(t439 != t442)=true then(laws_FnDrums.j4 kj33 l1 t434 t439 t440 t441 t445 true) else(if t437=t440 then(if t438=t441 then(if(t444 != t446)=true then(laws_FnDrums.j4 kj33 l1 t434 t439 t440 t441 t445 true) else(if t443=t445 then(if(t448 != bt449.2)=true then(laws_FnDrums.j4 kj33 l1 t434 t439 t440 t441 t445 true) else(if t447=bt449.1 then(if(t444 != t439)=true then(laws_FnDrums.j4 kj33 l1 t434 t439 t440 t441 t445 true) else(if t439=true then(if(t448 != (t441 == (t434.length:Int)))=true then(laws_FnDrums.j4 kj33 l1 t434 t439 t440 t441 t445 true) else(if t448=true then(laws_FnDrums.j4 kj33 l1 t434 t439 t440 t441 t445 (bt449.1 != t440)) else(laws_FnDrums.j4 kj33 l1 t434 t439 t440 t441 t445 false))) else(if(t448 != false)=true then(laws_FnDrums.j4 kj33 l1 t434 t439 t440 t441 t445 true) else(if t448=true then(laws_FnDrums.j4 kj33 l1 t434 t439 t440 t441 t445 (bt449.1 != t440)) else(laws_FnDrums.j4 kj33 l1 t434 t439 t440 t441 t445 false))))) else(laws_FnDrums.j4 kj33 l1 t434 t439 t440 t441 t445 true))) else(laws_FnDrums.j4 kj33 l1 t434 t439 t440 t441 t445 true))) else(laws_FnDrums.j4 kj33 l1 t434 t439 t440 t441 t445 true)) else(laws_FnDrums.j4 kj33 l1 t434 t439 t440 t441 t445 true))))=some r:=H
         have A77:=am A770
         clear A770
         replace H:=Option.bind_eq_some_iff.mp H
         obtain⟨⟨t449,t450⟩,A780,H⟩:=H
         replace H:(if(t439 != t442)=true then(laws_FnDrums.j4 kj33 l1 t434 t439 t440 t441 t445 true) else(if t437=t440 then(if t438=t441 then(if(t444 != t446)=true then(laws_FnDrums.j4 kj33 l1 t434 t439 t440 t441 t445 true) else(if t443=t445 then(if(t448 != t450)=true then(laws_FnDrums.j4 kj33 l1 t434 t439 t440 t441 t445 true) else(if t447=t449 then(if(t444 != t439)=true then(laws_FnDrums.j4 kj33 l1 t434 t439 t440 t441 t445 true) else(if t439=true then(if(t448 != (t441 == (t434.length:Int)))=true then(laws_FnDrums.j4 kj33 l1 t434 t439 t440 t441 t445 true) else(if t448=true then(laws_FnDrums.j4 kj33 l1 t434 t439 t440 t441 t445 (t449 != t440)) else(laws_FnDrums.j4 kj33 l1 t434 t439 t440 t441 t445 false))) else(if(t448 != false)=true then(laws_FnDrums.j4 kj33 l1 t434 t439 t440 t441 t445 true) else(if t448=true then(laws_FnDrums.j4 kj33 l1 t434 t439 t440 t441 t445 (t449 != t440)) else(laws_FnDrums.j4 kj33 l1 t434 t439 t440 t441 t445 false))))) else(laws_FnDrums.j4 kj33 l1 t434 t439 t440 t441 t445 true))) else(laws_FnDrums.j4 kj33 l1 t434 t439 t440 t441 t445 true))) else(laws_FnDrums.j4 kj33 l1 t434 t439 t440 t441 t445 true)) else(laws_FnDrums.j4 kj33 l1 t434 t439 t440 t441 t445 true)))=some r:=H
         have A78:=am A780
         clear A780
         have HC79:=am H
         clear H
         go_upto_region 26 with(first|(go_at_call 12;(with_reducible refine(spec_DrawMostTogether.calls kj33 _ _ l1 t434 _ ?side1 ?side2 A72.out).mono ?_);(case side1=>exact cup (Kd.C_below HR1.out HB.out));(case side2=>exact HC1.out);rintro e w80 ⟨v435,rfl,ho0,hb⟩;have n0_:=am (Kd.N_lower (Kd.N_mono (ok':=fun k_=>True) ho0 (fun k_ hk_=>trivial)) (below_size bl));have n1_:=am (below_step bl hb);clear HB;have HO436:=n0_;have HB:=n1_;clear n0_ n1_;(try clear hb);(try clear hb2);(try clear hk);(try clear hi);(try clear ho0);obtain⟨Ao81,co81,eo81⟩:=Kd.N_slice HO436.out;subst eo81)|(go_at_call 13;(with_reducible refine(impl_MostTogether.calls kj33 _ _ t434 t437 t438 t439 _ ?side1 ?side2 A73.out).mono ?_);(case side1=>repeat(first|exact(Kd.N_reads' HO436.out).2.2|(with_reducible refine Kd.C_alloc ?_ _)|(with_reducible refine Kd.C_drewN ?_ _)|(with_reducible refine Kd.C_drew ?_)));(case side2=>exact(Kd.N_reads' HO436.out).2.1);rintro e w82 ⟨rfl,hb⟩;have n0_:=am (Kd.N_below (by(with_reducible repeat(first|apply Kd.N_alloc|apply Kd.N_drewN|apply Kd.N_drew));exact HO436.out) hb);have n1_:=am (below_step bl hb);clear HO436 HB;have HO436:=n0_;have HB:=n1_;clear n0_ n1_;(try clear hb);(try clear hb2);(try clear hk);(try clear hi))|(go_at_call 14;(with_reducible refine(spec_MostTogether.calls kj33 _ _ t434 t440 t441 t442 _ ?side1 ?side2 A74.out).mono ?_);(case side1=>repeat(first|exact(Kd.N_reads' HO436.out).2.2|(with_reducible refine Kd.C_alloc ?_ _)|(with_reducible refine Kd.C_drewN ?_ _)|(with_reducible refine Kd.C_drew ?_)));(case side2=>exact(Kd.N_reads' HO436.out).2.1);rintro e w83 ⟨rfl,hb⟩;have n0_:=am (Kd.N_below (by(with_reducible repeat(first|apply Kd.N_alloc|apply Kd.N_drewN|apply Kd.N_drew));exact HO436.out) hb);have n1_:=am (below_step bl hb);clear HO436 HB;have HO436:=n0_;have HB:=n1_;clear n0_ n1_;(try clear hb);(try clear hb2);(try clear hk);(try clear hi))|(go_at_call 15;(with_reducible refine(impl_CommonSteps.calls kj33 _ _ t434 t443 t444 _ ?side1 ?side2 A75.out).mono ?_);(case side1=>repeat(first|exact(Kd.N_reads' HO436.out).2.2|(with_reducible refine Kd.C_alloc ?_ _)|(with_reducible refine Kd.C_drewN ?_ _)|(with_reducible refine Kd.C_drew ?_)));(case side2=>exact(Kd.N_reads' HO436.out).2.1);rintro e w84 ⟨rfl,hb⟩;have n0_:=am (Kd.N_below (by(with_reducible repeat(first|apply Kd.N_alloc|apply Kd.N_drewN|apply Kd.N_drew));exact HO436.out) hb);have n1_:=am (below_step bl hb);clear HO436 HB;have HO436:=n0_;have HB:=n1_;clear n0_ n1_;(try clear hb);(try clear hb2);(try clear hk);(try clear hi))|(go_at_call 16;(with_reducible refine(spec_CommonSteps.calls kj33 _ _ t434 t445 t446 _ ?side1 ?side2 A76.out).mono ?_);(case side1=>repeat(first|exact(Kd.N_reads' HO436.out).2.2|(with_reducible refine Kd.C_alloc ?_ _)|(with_reducible refine Kd.C_drewN ?_ _)|(with_reducible refine Kd.C_drew ?_)));(case side2=>exact(Kd.N_reads' HO436.out).2.1);rintro e w85 ⟨rfl,hb⟩;have n0_:=am (Kd.N_below (by(with_reducible repeat(first|apply Kd.N_alloc|apply Kd.N_drewN|apply Kd.N_drew));exact HO436.out) hb);have n1_:=am (below_step bl hb);clear HO436 HB;have HO436:=n0_;have HB:=n1_;clear n0_ n1_;(try clear hb);(try clear hb2);(try clear hk);(try clear hi))|(go_at_call 17;(with_reducible refine(impl_TogetherAt.calls kj33 _ _ t434 t447 t448 _ ?side1 ?side2 A77.out).mono ?_);(case side1=>repeat(first|exact(Kd.N_reads' HO436.out).2.2|(with_reducible refine Kd.C_alloc ?_ _)|(with_reducible refine Kd.C_drewN ?_ _)|(with_reducible refine Kd.C_drew ?_)));(case side2=>exact(Kd.N_reads' HO436.out).2.1);rintro e w86 ⟨rfl,hb⟩;have n0_:=am (Kd.N_below (by(with_reducible repeat(first|apply Kd.N_alloc|apply Kd.N_drewN|apply Kd.N_drew));exact HO436.out) hb);have n1_:=am (below_step bl hb);clear HO436 HB;have HO436:=n0_;have HB:=n1_;clear n0_ n1_;(try clear hb);(try clear hb2);(try clear hk);(try clear hi))|(go_at_call 18;(with_reducible refine(spec_TogetherAt.calls kj33 _ _ t434 t449 t450 _ ?side1 ?side2 A78.out).mono ?_);(case side1=>repeat(first|exact(Kd.N_reads' HO436.out).2.2|(with_reducible refine Kd.C_alloc ?_ _)|(with_reducible refine Kd.C_drewN ?_ _)|(with_reducible refine Kd.C_drew ?_)));(case side2=>exact(Kd.N_reads' HO436.out).2.1);rintro e w87 ⟨rfl,hb⟩;have n0_:=am (Kd.N_below (by(with_reducible repeat(first|apply Kd.N_alloc|apply Kd.N_drewN|apply Kd.N_drew));exact HO436.out) hb);have n1_:=am (below_step bl hb);clear HO436 HB;have HO436:=n0_;have HB:=n1_;clear n0_ n1_;(try clear hb);(try clear hb2);(try clear hk);(try clear hi)))
         repeat(go_quiet (first|(go_at_call 12;(with_reducible refine(spec_DrawMostTogether.calls kj33 _ _ l1 t434 _ ?side1 ?side2 A72.out).mono ?_);(case side1=>exact cup (Kd.C_below HR1.out HB.out));(case side2=>exact HC1.out);rintro e w80 ⟨v435,rfl,ho0,hb⟩;have n0_:=am (Kd.N_lower (Kd.N_mono (ok':=fun k_=>True) ho0 (fun k_ hk_=>trivial)) (below_size bl));have n1_:=am (below_step bl hb);clear HB;have HO436:=n0_;have HB:=n1_;clear n0_ n1_;(try clear hb);(try clear hb2);(try clear hk);(try clear hi);(try clear ho0);obtain⟨Ao81,co81,eo81⟩:=Kd.N_slice HO436.out;subst eo81)|(go_at_call 13;(with_reducible refine(impl_MostTogether.calls kj33 _ _ t434 t437 t438 t439 _ ?side1 ?side2 A73.out).mono ?_);(case side1=>repeat(first|exact(Kd.N_reads' HO436.out).2.2|(with_reducible refine Kd.C_alloc ?_ _)|(with_reducible refine Kd.C_drewN ?_ _)|(with_reducible refine Kd.C_drew ?_)));(case side2=>exact(Kd.N_reads' HO436.out).2.1);rintro e w82 ⟨rfl,hb⟩;have n0_:=am (Kd.N_below (by(with_reducible repeat(first|apply Kd.N_alloc|apply Kd.N_drewN|apply Kd.N_drew));exact HO436.out) hb);have n1_:=am (below_step bl hb);clear HO436 HB;have HO436:=n0_;have HB:=n1_;clear n0_ n1_;(try clear hb);(try clear hb2);(try clear hk);(try clear hi))|(go_at_call 14;(with_reducible refine(spec_MostTogether.calls kj33 _ _ t434 t440 t441 t442 _ ?side1 ?side2 A74.out).mono ?_);(case side1=>repeat(first|exact(Kd.N_reads' HO436.out).2.2|(with_reducible refine Kd.C_alloc ?_ _)|(with_reducible refine Kd.C_drewN ?_ _)|(with_reducible refine Kd.C_drew ?_)));(case side2=>exact(Kd.N_reads' HO436.out).2.1);rintro e w83 ⟨rfl,hb⟩;have n0_:=am (Kd.N_below (by(with_reducible repeat(first|apply Kd.N_alloc|apply Kd.N_drewN|apply Kd.N_drew));exact HO436.out) hb);have n1_:=am (below_step bl hb);clear HO436 HB;have HO436:=n0_;have HB:=n1_;clear n0_ n1_;(try clear hb);(try clear hb2);(try clear hk);(try clear hi))|(go_at_call 15;(with_reducible refine(impl_CommonSteps.calls kj33 _ _ t434 t443 t444 _ ?side1 ?side2 A75.out).mono ?_);(case side1=>repeat(first|exact(Kd.N_reads' HO436.out).2.2|(with_reducible refine Kd.C_alloc ?_ _)|(with_reducible refine Kd.C_drewN ?_ _)|(with_reducible refine Kd.C_drew ?_)));(case side2=>exact(Kd.N_reads' HO436.out).2.1);rintro e w84 ⟨rfl,hb⟩;have n0_:=am (Kd.N_below (by(with_reducible repeat(first|apply Kd.N_alloc|apply Kd.N_drewN|apply Kd.N_drew));exact HO436.out) hb);have n1_:=am (below_step bl hb);clear HO436 HB;have HO436:=n0_;have HB:=n1_;clear n0_ n1_;(try clear hb);(try clear hb2);(try clear hk);(try clear hi))|(go_at_call 16;(with_reducible refine(spec_CommonSteps.calls kj33 _ _ t434 t445 t446 _ ?side1 ?side2 A76.out).mono ?_);(case side1=>repeat(first|exact(Kd.N_reads' HO436.out).2.2|(with_reducible refine Kd.C_alloc ?_ _)|(with_reducible refine Kd.C_drewN ?_ _)|(with_reducible refine Kd.C_drew ?_)));(case side2=>exact(Kd.N_reads' HO436.out).2.1);rintro e w85 ⟨rfl,hb⟩;have n0_:=am (Kd.N_below (by(with_reducible repeat(first|apply Kd.N_alloc|apply Kd.N_drewN|apply Kd.N_drew));exact HO436.out) hb);have n1_:=am (below_step bl hb);clear HO436 HB;have HO436:=n0_;have HB:=n1_;clear n0_ n1_;(try clear hb);(try clear hb2);(try clear hk);(try clear hi))|(go_at_call 17;(with_reducible refine(impl_TogetherAt.calls kj33 _ _ t434 t447 t448 _ ?side1 ?side2 A77.out).mono ?_);(case side1=>repeat(first|exact(Kd.N_reads' HO436.out).2.2|(with_reducible refine Kd.C_alloc ?_ _)|(with_reducible refine Kd.C_drewN ?_ _)|(with_reducible refine Kd.C_drew ?_)));(case side2=>exact(Kd.N_reads' HO436.out).2.1);rintro e w86 ⟨rfl,hb⟩;have n0_:=am (Kd.N_below (by(with_reducible repeat(first|apply Kd.N_alloc|apply Kd.N_drewN|apply Kd.N_drew));exact HO436.out) hb);have n1_:=am (below_step bl hb);clear HO436 HB;have HO436:=n0_;have HB:=n1_;clear n0_ n1_;(try clear hb);(try clear hb2);(try clear hk);(try clear hi))|(go_at_call 18;(with_reducible refine(spec_TogetherAt.calls kj33 _ _ t434 t449 t450 _ ?side1 ?side2 A78.out).mono ?_);(case side1=>repeat(first|exact(Kd.N_reads' HO436.out).2.2|(with_reducible refine Kd.C_alloc ?_ _)|(with_reducible refine Kd.C_drewN ?_ _)|(with_reducible refine Kd.C_drew ?_)));(case side2=>exact(Kd.N_reads' HO436.out).2.1);rintro e w87 ⟨rfl,hb⟩;have n0_:=am (Kd.N_below (by(with_reducible repeat(first|apply Kd.N_alloc|apply Kd.N_drewN|apply Kd.N_drew));exact HO436.out) hb);have n1_:=am (below_step bl hb);clear HO436 HB;have HO436:=n0_;have HB:=n1_;clear n0_ n1_;(try clear hb);(try clear hb2);(try clear hk);(try clear hi)));go_upto_region 26 with(first|(go_at_call 12;(with_reducible refine(spec_DrawMostTogether.calls kj33 _ _ l1 t434 _ ?side1 ?side2 A72.out).mono ?_);(case side1=>exact cup (Kd.C_below HR1.out HB.out));(case side2=>exact HC1.out);rintro e w80 ⟨v435,rfl,ho0,hb⟩;have n0_:=am (Kd.N_lower (Kd.N_mono (ok':=fun k_=>True) ho0 (fun k_ hk_=>trivial)) (below_size bl));have n1_:=am (below_step bl hb);clear HB;have HO436:=n0_;have HB:=n1_;clear n0_ n1_;(try clear hb);(try clear hb2);(try clear hk);(try clear hi);(try clear ho0);obtain⟨Ao81,co81,eo81⟩:=Kd.N_slice HO436.out;subst eo81)|(go_at_call 13;(with_reducible refine(impl_MostTogether.calls kj33 _ _ t434 t437 t438 t439 _ ?side1 ?side2 A73.out).mono ?_);(case side1=>repeat(first|exact(Kd.N_reads' HO436.out).2.2|(with_reducible refine Kd.C_alloc ?_ _)|(with_reducible refine Kd.C_drewN ?_ _)|(with_reducible refine Kd.C_drew ?_)));(case side2=>exact(Kd.N_reads' HO436.out).2.1);rintro e w82 ⟨rfl,hb⟩;have n0_:=am (Kd.N_below (by(with_reducible repeat(first|apply Kd.N_alloc|apply Kd.N_drewN|apply Kd.N_drew));exact HO436.out) hb);have n1_:=am (below_step bl hb);clear HO436 HB;have HO436:=n0_;have HB:=n1_;clear n0_ n1_;(try clear hb);(try clear hb2);(try clear hk);(try clear hi))|(go_at_call 14;(with_reducible refine(spec_MostTogether.calls kj33 _ _ t434 t440 t441 t442 _ ?side1 ?side2 A74.out).mono ?_);(case side1=>repeat(first|exact(Kd.N_reads' HO436.out).2.2|(with_reducible refine Kd.C_alloc ?_ _)|(with_reducible refine Kd.C_drewN ?_ _)|(with_reducible refine Kd.C_drew ?_)));(case side2=>exact(Kd.N_reads' HO436.out).2.1);rintro e w83 ⟨rfl,hb⟩;have n0_:=am (Kd.N_below (by(with_reducible repeat(first|apply Kd.N_alloc|apply Kd.N_drewN|apply Kd.N_drew));exact HO436.out) hb);have n1_:=am (below_step bl hb);clear HO436 HB;have HO436:=n0_;have HB:=n1_;clear n0_ n1_;(try clear hb);(try clear hb2);(try clear hk);(try clear hi))|(go_at_call 15;(with_reducible refine(impl_CommonSteps.calls kj33 _ _ t434 t443 t444 _ ?side1 ?side2 A75.out).mono ?_);(case side1=>repeat(first|exact(Kd.N_reads' HO436.out).2.2|(with_reducible refine Kd.C_alloc ?_ _)|(with_reducible refine Kd.C_drewN ?_ _)|(with_reducible refine Kd.C_drew ?_)));(case side2=>exact(Kd.N_reads' HO436.out).2.1);rintro e w84 ⟨rfl,hb⟩;have n0_:=am (Kd.N_below (by(with_reducible repeat(first|apply Kd.N_alloc|apply Kd.N_drewN|apply Kd.N_drew));exact HO436.out) hb);have n1_:=am (below_step bl hb);clear HO436 HB;have HO436:=n0_;have HB:=n1_;clear n0_ n1_;(try clear hb);(try clear hb2);(try clear hk);(try clear hi))|(go_at_call 16;(with_reducible refine(spec_CommonSteps.calls kj33 _ _ t434 t445 t446 _ ?side1 ?side2 A76.out).mono ?_);(case side1=>repeat(first|exact(Kd.N_reads' HO436.out).2.2|(with_reducible refine Kd.C_alloc ?_ _)|(with_reducible refine Kd.C_drewN ?_ _)|(with_reducible refine Kd.C_drew ?_)));(case side2=>exact(Kd.N_reads' HO436.out).2.1);rintro e w85 ⟨rfl,hb⟩;have n0_:=am (Kd.N_below (by(with_reducible repeat(first|apply Kd.N_alloc|apply Kd.N_drewN|apply Kd.N_drew));exact HO436.out) hb);have n1_:=am (below_step bl hb);clear HO436 HB;have HO436:=n0_;have HB:=n1_;clear n0_ n1_;(try clear hb);(try clear hb2);(try clear hk);(try clear hi))|(go_at_call 17;(with_reducible refine(impl_TogetherAt.calls kj33 _ _ t434 t447 t448 _ ?side1 ?side2 A77.out).mono ?_);(case side1=>repeat(first|exact(Kd.N_reads' HO436.out).2.2|(with_reducible refine Kd.C_alloc ?_ _)|(with_reducible refine Kd.C_drewN ?_ _)|(with_reducible refine Kd.C_drew ?_)));(case side2=>exact(Kd.N_reads' HO436.out).2.1);rintro e w86 ⟨rfl,hb⟩;have n0_:=am (Kd.N_below (by(with_reducible repeat(first|apply Kd.N_alloc|apply Kd.N_drewN|apply Kd.N_drew));exact HO436.out) hb);have n1_:=am (below_step bl hb);clear HO436 HB;have HO436:=n0_;have HB:=n1_;clear n0_ n1_;(try clear hb);(try clear hb2);(try clear hk);(try clear hi))|(go_at_call 18;(with_reducible refine(spec_TogetherAt.calls kj33 _ _ t434 t449 t450 _ ?side1 ?side2 A78.out).mono ?_);(case side1=>repeat(first|exact(Kd.N_reads' HO436.out).2.2|(with_reducible refine Kd.C_alloc ?_ _)|(with_reducible refine Kd.C_drewN ?_ _)|(with_reducible refine Kd.C_drew ?_)));(case side2=>exact(Kd.N_reads' HO436.out).2.1);rintro e w87 ⟨rfl,hb⟩;have n0_:=am (Kd.N_below (by(with_reducible repeat(first|apply Kd.N_alloc|apply Kd.N_drewN|apply Kd.N_drew));exact HO436.out) hb);have n1_:=am (below_step bl hb);clear HO436 HB;have HO436:=n0_;have HB:=n1_;clear n0_ n1_;(try clear hb);(try clear hb2);(try clear hk);(try clear hi))))
         (try simp only[Act.put,List.setIfInBounds_toArray,List.set_cons_zero,List.set_cons_succ])
         go_cut [221] (fun v221 wc=>∃(kq:Nat) (x221_78:Bool),v221 = .bool x221_78∧Aside0 (laws_FnDrums.j4 kq l1 t434 t439 t440 t441 t445 x221_78=some r)∧Aside0 (kq≤kj33)∧Aside0 (Kd.N k26 26 wc w.heap.size (fun _=>True) (.slice Ao81 t434.length co81) t434)∧Aside0 (Below w.heap.size w wc))
         case first =>
          have H:=HC79.out
          clear HC79
          by_cases c88:(t439 != t442)=true
          ·rw[if_pos c88] at H
           have c88b0:(t439 != t442)=true:=c88
           (try(have c88b1:decide (t439=t442)=false:=by simpa using c88))
           (try(have c88b2:(t439 == t442)=false:=by simpa using c88))
           (try(have c88b3:¬ (t439=t442):=by simpa using c88))
           clear c88
           (first|rw[c88b0]|(simp only[i64_w,i32_w];rw[c88b0])|skip)
           exact absurd hrt.out (laws_FnDrums.j4_dead H)
          ·rw[if_neg c88] at H
           have c88b0:(t439 != t442)=false:=by simpa using c88
           (try(have c88b1:decide (t439=t442)=true:=by simpa using c88))
           (try(have c88b2:(t439 == t442)=true:=by simpa using c88))
           clear c88
           (first|rw[c88b0]|(simp only[i64_w,i32_w];rw[c88b0])|skip)
           by_cases c89:t437=t440
           ·rw[if_pos c89] at H
            have c89b0:(t437 == t440)=true:=beq_iff_eq.mpr c89
            have c89b1:(t437 != t440)=false:=bne_eq_false_iff_eq.mpr c89
            clear c89
            by_cases c90:t438=t441
            ·rw[if_pos c90] at H
             have c90b0:(t438 == t441)=true:=beq_iff_eq.mpr c90
             have c90b1:(t438 != t441)=false:=bne_eq_false_iff_eq.mpr c90
             clear c90
             by_cases c91:(t444 != t446)=true
             ·rw[if_pos c91] at H
              have c91b0:(t444 != t446)=true:=c91
              (try(have c91b1:decide (t444=t446)=false:=by simpa using c91))
              (try(have c91b2:(t444 == t446)=false:=by simpa using c91))
              (try(have c91b3:¬ (t444=t446):=by simpa using c91))
              clear c91
              exact absurd hrt.out (laws_FnDrums.j4_dead H)
             ·rw[if_neg c91] at H
              have c91b0:(t444 != t446)=false:=by simpa using c91
              (try(have c91b1:decide (t444=t446)=true:=by simpa using c91))
              (try(have c91b2:(t444 == t446)=true:=by simpa using c91))
              clear c91
              by_cases c92:t443=t445
              ·rw[if_pos c92] at H
               have c92b0:(t443 == t445)=true:=beq_iff_eq.mpr c92
               have c92b1:(t443 != t445)=false:=bne_eq_false_iff_eq.mpr c92
               clear c92
               by_cases c93:(t448 != t450)=true
               ·rw[if_pos c93] at H
                have c93b0:(t448 != t450)=true:=c93
                (try(have c93b1:decide (t448=t450)=false:=by simpa using c93))
                (try(have c93b2:(t448 == t450)=false:=by simpa using c93))
                (try(have c93b3:¬ (t448=t450):=by simpa using c93))
                clear c93
                exact absurd hrt.out (laws_FnDrums.j4_dead H)
               ·rw[if_neg c93] at H
                have c93b0:(t448 != t450)=false:=by simpa using c93
                (try(have c93b1:decide (t448=t450)=true:=by simpa using c93))
                (try(have c93b2:(t448 == t450)=true:=by simpa using c93))
                clear c93
                by_cases c94:t447=t449
                ·rw[if_pos c94] at H
                 have c94b0:(t447 == t449)=true:=beq_iff_eq.mpr c94
                 have c94b1:(t447 != t449)=false:=bne_eq_false_iff_eq.mpr c94
                 clear c94
                 by_cases c95:(t444 != t439)=true
                 ·rw[if_pos c95] at H
                  have c95b0:(t444 != t439)=true:=c95
                  (try(have c95b1:decide (t444=t439)=false:=by simpa using c95))
                  (try(have c95b2:(t444 == t439)=false:=by simpa using c95))
                  (try(have c95b3:¬ (t444=t439):=by simpa using c95))
                  clear c95
                  exact absurd hrt.out (laws_FnDrums.j4_dead H)
                 ·rw[if_neg c95] at H
                  have c95b0:(t444 != t439)=false:=by simpa using c95
                  (try(have c95b1:decide (t444=t439)=true:=by simpa using c95))
                  (try(have c95b2:(t444 == t439)=true:=by simpa using c95))
                  clear c95
                  by_cases c96:t439=true
                  ·subst c96
                   have H1:(if(t448 != (t441 == (t434.length:Int)))=true then(laws_FnDrums.j4 kj33 l1 t434 true t440 t441 t445 true) else(if t448=true then(laws_FnDrums.j4 kj33 l1 t434 true t440 t441 t445 (t449 != t440)) else(laws_FnDrums.j4 kj33 l1 t434 true t440 t441 t445 false)))=some r:=by rw[if_pos rfl] at H;exact H
                   clear H
                   have H:=H1
                   clear H1
                   by_cases c97:(t448 != (t441 == (t434.length:Int)))=true
                   ·rw[if_pos c97] at H
                    have c97b0:(t448 != (t441 == (t434.length:Int)))=true:=c97
                    (try(have c97b1:decide (t448=(t441 == (t434.length:Int)))=false:=by simpa using c97))
                    (try(have c97b2:(t448 == (t441 == (t434.length:Int)))=false:=by simpa using c97))
                    (try(have c97b3:¬ (t448=(t441 == (t434.length:Int))):=by simpa using c97))
                    clear c97
                    exact absurd hrt.out (laws_FnDrums.j4_dead H)
                   ·rw[if_neg c97] at H
                    have c97b0:(t448 != (t441 == (t434.length:Int)))=false:=by simpa using c97
                    (try(have c97b1:decide (t448=(t441 == (t434.length:Int)))=true:=by simpa using c97))
                    (try(have c97b2:(t448 == (t441 == (t434.length:Int)))=true:=by simpa using c97))
                    clear c97
                    by_cases c98:t448=true
                    ·subst c98
                     have H1:(laws_FnDrums.j4 kj33 l1 t434 true t440 t441 t445 (t449 != t440))=some r:=by rw[if_pos rfl] at H;exact H
                     clear H
                     have H:=H1
                     clear H1
                     have H':=am H
                     clear H
                     go_wp2
                     repeat(go_quiet (fail);try go_wp2)
                     go_meet
                     case rel=>exact⟨_,((t449 != t440)),fin2,H',⟨by have:=HJ7.out;have:=HJ33.out;first|omega|exact Nat.le_refl _⟩,⟨by(with_reducible repeat(first|apply Kd.N_alloc|apply Kd.N_drewN|apply Kd.N_drew));exact HO436.out⟩,⟨bl⟩⟩
                    ·replace c98:=Bool.eq_false_iff.mpr c98
                     subst c98
                     have H1:(laws_FnDrums.j4 kj33 l1 t434 true t440 t441 t445 false)=some r:=by rw[if_neg (show ¬ (false=true) by decide)] at H;exact H
                     clear H
                     have H:=H1
                     clear H1
                     have H':=am H
                     clear H
                     go_wp2
                     repeat(go_quiet (fail);try go_wp2)
                     go_meet
                     case rel=>exact⟨_,(false),fin2,H',⟨by have:=HJ7.out;have:=HJ33.out;first|omega|exact Nat.le_refl _⟩,⟨by(with_reducible repeat(first|apply Kd.N_alloc|apply Kd.N_drewN|apply Kd.N_drew));exact HO436.out⟩,⟨bl⟩⟩
                  ·replace c96:=Bool.eq_false_iff.mpr c96
                   subst c96
                   have H1:(if(t448 != false)=true then(laws_FnDrums.j4 kj33 l1 t434 false t440 t441 t445 true) else(if t448=true then(laws_FnDrums.j4 kj33 l1 t434 false t440 t441 t445 (t449 != t440)) else(laws_FnDrums.j4 kj33 l1 t434 false t440 t441 t445 false)))=some r:=by rw[if_neg (show ¬ (false=true) by decide)] at H;exact H
                   clear H
                   have H:=H1
                   clear H1
                   by_cases c99:(t448 != false)=true
                   ·rw[if_pos c99] at H
                    have c99b0:(t448 != false)=true:=c99
                    (try(have c99b1:decide (t448=false)=false:=by simpa using c99))
                    (try(have c99b2:(t448 == false)=false:=by simpa using c99))
                    (try(have c99b3:¬ (t448=false):=by simpa using c99))
                    clear c99
                    exact absurd hrt.out (laws_FnDrums.j4_dead H)
                   ·rw[if_neg c99] at H
                    have c99b0:(t448 != false)=false:=by simpa using c99
                    (try(have c99b1:decide (t448=false)=true:=by simpa using c99))
                    (try(have c99b2:(t448 == false)=true:=by simpa using c99))
                    clear c99
                    by_cases c100:t448=true
                    ·subst c100
                     have H1:(laws_FnDrums.j4 kj33 l1 t434 false t440 t441 t445 (t449 != t440))=some r:=by rw[if_pos rfl] at H;exact H
                     clear H
                     have H:=H1
                     clear H1
                     have H':=am H
                     clear H
                     go_wp2
                     repeat(go_quiet (fail);try go_wp2)
                     go_meet
                     case rel=>exact⟨_,((t449 != t440)),fin2,H',⟨by have:=HJ7.out;have:=HJ33.out;first|omega|exact Nat.le_refl _⟩,⟨by(with_reducible repeat(first|apply Kd.N_alloc|apply Kd.N_drewN|apply Kd.N_drew));exact HO436.out⟩,⟨bl⟩⟩
                    ·replace c100:=Bool.eq_false_iff.mpr c100
                     subst c100
                     have H1:(laws_FnDrums.j4 kj33 l1 t434 false t440 t441 t445 false)=some r:=by rw[if_neg (show ¬ (false=true) by decide)] at H;exact H
                     clear H
                     have H:=H1
                     clear H1
                     have H':=am H
                     clear H
                     go_wp2
                     repeat(go_quiet (fail);try go_wp2)
                     go_meet
                     case rel=>exact⟨_,(false),fin2,H',⟨by have:=HJ7.out;have:=HJ33.out;first|omega|exact Nat.le_refl _⟩,⟨by(with_reducible repeat(first|apply Kd.N_alloc|apply Kd.N_drewN|apply Kd.N_drew));exact HO436.out⟩,⟨bl⟩⟩
                ·rw[if_neg c94] at H
                 have c94b0:(t447 == t449)=false:=beq_eq_false_iff_ne.mpr c94
                 have c94b1:(t447 != t449)=true:=bne_iff_ne.mpr c94
                 exact absurd hrt.out (laws_FnDrums.j4_dead H)
              ·rw[if_neg c92] at H
               have c92b0:(t443 == t445)=false:=beq_eq_false_iff_ne.mpr c92
               have c92b1:(t443 != t445)=true:=bne_iff_ne.mpr c92
               exact absurd hrt.out (laws_FnDrums.j4_dead H)
            ·rw[if_neg c90] at H
             have c90b0:(t438 == t441)=false:=beq_eq_false_iff_ne.mpr c90
             have c90b1:(t438 != t441)=true:=bne_iff_ne.mpr c90
             exact absurd hrt.out (laws_FnDrums.j4_dead H)
           ·rw[if_neg c89] at H
            have c89b0:(t437 == t440)=false:=beq_eq_false_iff_ne.mpr c89
            have c89b1:(t437 != t440)=true:=bne_iff_ne.mpr c89
            exact absurd hrt.out (laws_FnDrums.j4_dead H)
         case rest =>
          as_aux_lemma =>
           clear HC79
           try clear c1
           try clear c2
           try clear p2
           try clear c3
           try clear c4
           try clear p4
           try clear q4
           try clear hx4
           try clear c5
           try clear c6
           try clear p6
           try clear c8
           try clear c9
           try clear c10
           try clear c15
           try clear c21
           try clear c22
           try clear c25
           try clear c25b0
           try clear c25b1
           try clear c25b2
           try clear c27
           try clear c28
           try clear c30
           try clear c33
           try clear c35
           try clear c39
           try clear c40
           try clear c42
           try clear p43
           try clear q43
           try clear hx43
           try clear c48
           try clear c49
           try clear c50
           try clear c50b0
           try clear c50b1
           try clear c51
           try clear c51b0
           try clear c52
           try clear c53
           try clear c55
           try clear c57
           try clear c58
           try clear c60
           try clear c60b0
           try clear c61
           try clear c61b0
           try clear c62
           try clear c62b0
           try clear c63
           try clear c63b0
           try clear c63b1
           try clear p64
           try clear c65
           try clear c66
           try clear c69
           try clear c88
           try clear c88b0
           try clear c88b1
           try clear c88b2
           try clear c89
           try clear c89b0
           try clear c89b1
           try clear c90
           try clear c90b0
           try clear c90b1
           try clear c91
           try clear c91b0
           try clear c91b1
           try clear c91b2
           try clear c92
           try clear c92b0
           try clear c92b1
           try clear c93
           try clear c93b0
           try clear c93b1
           try clear c93b2
           try clear c94
           try clear c94b0
           try clear c94b1
           try clear c95
           try clear c95b0
           try clear c95b1
           try clear c95b2
           try clear c96
           try clear c97
           try clear c97b0
           try clear c97b1
           try clear c97b2
           try clear c98
           try clear c99
           try clear c99b0
           try clear c99b1
           try clear c99b2
           try clear c100
           try clear hcz11_0
           try clear hcz11_1
           try clear hcz16_0
           try clear hcz16_1
           try clear hcz18_0
           try clear hcz18_1
           try clear hcz23_0
           try clear hcz23_1
           try clear hcz29_0
           try clear hcz29_1
           try clear hcz31_0
           try clear hcz31_1
           try clear hcz41_0
           try clear hcz41_1
           try clear hcz43_0
           try clear hcz43_1
           try clear hcz45_0
           try clear hcz45_1
           try clear hcz46_0
           try clear hcz46_1
           try clear hcz54_0
           try clear hcz54_1
           try clear hcz56_0
           try clear hcz56_1
           try clear hcz59_0
           try clear hcz59_1
           try clear hcz67_0
           try clear hcz67_1
           try clear hcz68_0
           try clear hcz68_1
           try clear hcz70_0
           try clear hcz70_1
           try clear hcz71_0
           try clear hcz71_1
           try clear hfz11_0
           try clear hfz11_1
           try clear hfz16_0
           try clear hfz16_1
           try clear hfz18_0
           try clear hfz18_1
           try clear hfz23_0
           try clear hfz23_1
           try clear hfz29_0
           try clear hfz29_1
           try clear hfz31_0
           try clear hfz31_1
           try clear hfz41_0
           try clear hfz41_1
           try clear hfz43_0
           try clear hfz43_1
           try clear hfz45_0
           try clear hfz45_1
           try clear hfz46_0
           try clear hfz46_1
           try clear hfz54_0
           try clear hfz54_1
           try clear hfz56_0
           try clear hfz56_1
           try clear hfz59_0
           try clear hfz59_1
           try clear hfz67_0
           try clear hfz67_1
           try clear hfz68_0
           try clear hfz68_1
           try clear hfz70_0
           try clear hfz70_1
           try clear hfz71_0
           try clear hfz71_1
           try clear hx432_0
           try clear p2
           try clear p4
           try clear p43
           try clear p432
           try clear p6
           try clear p64
           try clear q4
           try clear q43
           try clear q432
           obtain⟨kq,x221_78,rfl,HA,HJ78,HO_17,HB⟩:=hcut
           cases kq with
           | zero=>exact absurd HA.out (by simp [laws_FnDrums.j4])
           | succ kj78 =>
            have H:=HA.out
            clear HA
            simp only[laws_FnDrums.j4] at H
            by_cases c101:x221_78=true
            ·subst c101
             have H1:(some false)=some r:=by rw[if_pos rfl] at H;exact H
             clear H
             have H:=H1
             clear H1
             obtain rfl:=Option.some.inj H
             exact absurd hrt.out (by simp)
            ·replace c101:=Bool.eq_false_iff.mpr c101
             subst c101
             have H1:(if t439=true then(laws_FnDrums.l1 kj78 l1 t434 t440 t441 t445 t434 (t434.length:Int) 0) else(laws_FnDrums.j9 kj78 l1))=some r:=by rw[if_neg (show ¬ (false=true) by decide)] at H;exact H
             clear H
             have H:=H1
             clear H1
             have HC102:=am H
             clear H
             go_upto_if 222 with(fail)
             repeat(go_quiet (fail);go_upto_if 222 with(fail))
             go_cut [] (fun wc=>∃(kq:Nat),Aside0 (laws_FnDrums.j9 kq l1=some r)∧Aside0 (kq≤kj78)∧Aside0 (Below w.heap.size w wc))
             case first =>
              have H:=HC102.out
              clear HC102
              by_cases c103:t439=true
              ·subst c103
               have H1:(laws_FnDrums.l1 kj78 l1 t434 t440 t441 t445 t434 (t434.length:Int) 0)=some r:=by rw[if_pos rfl] at H;exact H
               clear H
               have H:=H1
               clear H1
               have H':=am H
               clear H
               go_wp2
               repeat(go_quiet (fail);try go_wp2)
               go_loopg [225] kj78 (fun kq v225 w'=>∃(x225_4:Int),v225 = .int .i64 x225_4∧Aside0 (laws_FnDrums.l1 kq l1 t434 t440 t441 t445 t434 (t434.length:Int) x225_4=some r)∧Aside0 (kq≤kj78)∧Aside0 (Kd.N k26 26 w' w.heap.size (fun _=>True) (.slice Ao81 t434.length co81) t434)∧Aside0 (Kd.N k26 26 w' w.heap.size (fun _=>True) (.slice Ao81 t434.length co81) t434)∧Aside0 (Below w.heap.size w w'))
               case atStart=>exact⟨(0),fin2,H',⟨Nat.le_refl _⟩,⟨by(with_reducible repeat(first|apply Kd.N_alloc|apply Kd.N_drewN|apply Kd.N_drew));exact HO_17.out⟩,⟨by(with_reducible repeat(first|apply Kd.N_alloc|apply Kd.N_drewN|apply Kd.N_drew));exact HO_17.out⟩,⟨bl⟩⟩
               case round =>
                as_aux_lemma =>
                 clear H'
                 try clear c1
                 try clear c2
                 try clear p2
                 try clear c3
                 try clear c4
                 try clear p4
                 try clear q4
                 try clear hx4
                 try clear c5
                 try clear c6
                 try clear p6
                 try clear c8
                 try clear c9
                 try clear c10
                 try clear c15
                 try clear c21
                 try clear c22
                 try clear c25
                 try clear c25b0
                 try clear c25b1
                 try clear c25b2
                 try clear c27
                 try clear c28
                 try clear c30
                 try clear c33
                 try clear c35
                 try clear c39
                 try clear c40
                 try clear c42
                 try clear p43
                 try clear q43
                 try clear hx43
                 try clear c48
                 try clear c49
                 try clear c50
                 try clear c50b0
                 try clear c50b1
                 try clear c51
                 try clear c51b0
                 try clear c52
                 try clear c53
                 try clear c55
                 try clear c57
                 try clear c58
                 try clear c60
                 try clear c60b0
                 try clear c61
                 try clear c61b0
                 try clear c62
                 try clear c62b0
                 try clear c63
                 try clear c63b0
                 try clear c63b1
                 try clear p64
                 try clear c65
                 try clear c66
                 try clear c69
                 try clear c88
                 try clear c88b0
                 try clear c88b1
                 try clear c88b2
                 try clear c89
                 try clear c89b0
                 try clear c89b1
                 try clear c90
                 try clear c90b0
                 try clear c90b1
                 try clear c91
                 try clear c91b0
                 try clear c91b1
                 try clear c91b2
                 try clear c92
                 try clear c92b0
                 try clear c92b1
                 try clear c93
                 try clear c93b0
                 try clear c93b1
                 try clear c93b2
                 try clear c94
                 try clear c94b0
                 try clear c94b1
                 try clear c95
                 try clear c95b0
                 try clear c95b1
                 try clear c95b2
                 try clear c96
                 try clear c97
                 try clear c97b0
                 try clear c97b1
                 try clear c97b2
                 try clear c98
                 try clear c99
                 try clear c99b0
                 try clear c99b1
                 try clear c99b2
                 try clear c100
                 try clear c101
                 try clear c103
                 try clear hcz11_0
                 try clear hcz11_1
                 try clear hcz16_0
                 try clear hcz16_1
                 try clear hcz18_0
                 try clear hcz18_1
                 try clear hcz23_0
                 try clear hcz23_1
                 try clear hcz29_0
                 try clear hcz29_1
                 try clear hcz31_0
                 try clear hcz31_1
                 try clear hcz41_0
                 try clear hcz41_1
                 try clear hcz43_0
                 try clear hcz43_1
                 try clear hcz45_0
                 try clear hcz45_1
                 try clear hcz46_0
                 try clear hcz46_1
                 try clear hcz54_0
                 try clear hcz54_1
                 try clear hcz56_0
                 try clear hcz56_1
                 try clear hcz59_0
                 try clear hcz59_1
                 try clear hcz67_0
                 try clear hcz67_1
                 try clear hcz68_0
                 try clear hcz68_1
                 try clear hcz70_0
                 try clear hcz70_1
                 try clear hcz71_0
                 try clear hcz71_1
                 try clear hfz11_0
                 try clear hfz11_1
                 try clear hfz16_0
                 try clear hfz16_1
                 try clear hfz18_0
                 try clear hfz18_1
                 try clear hfz23_0
                 try clear hfz23_1
                 try clear hfz29_0
                 try clear hfz29_1
                 try clear hfz31_0
                 try clear hfz31_1
                 try clear hfz41_0
                 try clear hfz41_1
                 try clear hfz43_0
                 try clear hfz43_1
                 try clear hfz45_0
                 try clear hfz45_1
                 try clear hfz46_0
                 try clear hfz46_1
                 try clear hfz54_0
                 try clear hfz54_1
                 try clear hfz56_0
                 try clear hfz56_1
                 try clear hfz59_0
                 try clear hfz59_1
                 try clear hfz67_0
                 try clear hfz67_1
                 try clear hfz68_0
                 try clear hfz68_1
                 try clear hfz70_0
                 try clear hfz70_1
                 try clear hfz71_0
                 try clear hfz71_1
                 try clear hx432_0
                 try clear p2
                 try clear p4
                 try clear p43
                 try clear p432
                 try clear p6
                 try clear p64
                 try clear q4
                 try clear q43
                 try clear q432
                 obtain⟨x225_4,rfl,HA,HK4,HO_17,HO_223,HB⟩:=hrel
                 cases gk with
                 | zero=>exact absurd HA.out (by simp [laws_FnDrums.l1])
                 | succ k4 =>
                  have H:=HA.out
                  clear HA
                  simp only[laws_FnDrums.l1] at H
                  by_cases c104:x225_4<(t434.length:Int)
                  ·rw[if_pos c104] at H
                   have c104b0:decide (x225_4<(t434.length:Int))=true:=decide_eq_true c104
                   clear c104
                   (first|rw[c104b0]|(simp only[i64_w,i32_w];rw[c104b0])|skip)
                   by_cases c105:0≤x225_4
                   ·rw[if_pos c105] at H
                    have c105b0:decide (0≤x225_4)=true:=decide_eq_true c105
                    clear c105
                    by_cases c106:x225_4<(t434.length:Int)
                    ·rw[if_pos c106] at H
                     have c106b0:decide (x225_4<(t434.length:Int))=true:=decide_eq_true c106
                     clear c106
                     by_cases c107:((rd_T26 t434 x225_4).f0)=0
                     ·rw[if_pos c107] at H
                      exact absurd H (by simp)
                     ·rw[if_neg c107] at H
                      have c107b0:(((rd_T26 t434 x225_4).f0) == 0)=false:=beq_eq_false_iff_ne.mpr c107
                      have c107b1:(((rd_T26 t434 x225_4).f0) != 0)=true:=bne_iff_ne.mpr c107
                      by_cases c108:(Int.tmod t445 ((rd_T26 t434 x225_4).f0))=0
                      ·rw[if_pos c108] at H
                       have c108b0:((Int.tmod t445 ((rd_T26 t434 x225_4).f0)) == 0)=true:=beq_iff_eq.mpr c108
                       have c108b1:((Int.tmod t445 ((rd_T26 t434 x225_4).f0)) != 0)=false:=bne_eq_false_iff_eq.mpr c108
                       clear c108
                       have H':=am H
                       clear H
                       have p451:0≤(x225_4:Int):=od
                       have q451:x225_4<(t434.length:Int):=od
                       obtain⟨ad451,A451_1,c451_1,e451,hx451_0,hx451_1,hl451_1,hi451_1⟩:=at_T26 (Kd.N_reads' HO_223.out).2.2 x225_4 p451 q451
                       cases e451
                       obtain⟨ce451,hce451,hMe451,hcc451⟩:=Kd.N_get HO_223.out z26 x225_4 p451 (by first|exact q451|exact od|(have e_:=(Kd.N_reads' HO_223.out).1;omega))
                       obtain⟨ua451_1,uc451_1,rfl,ul451_1,ge451_1⟩:=k26_openF hMe451
                       have hv451_1:=hcc451 1 _ rfl
                       rw[add_field _ _ 1 (by omega)] at hv451_1
                       replace hv451_1:=Option.some.inj (hv451_1.symm.trans hx451_1)
                       injection hv451_1 with hva_ hvn_ hvc_
                       rw[hva_] at ge451_1
                       rw[hvc_] at ul451_1
                       have HL451_1:=am (show Kd.V (Kd.int .i64) 3 _ w.heap.size _ _ ((rd_T26 t434 x225_4).f1) from Kd.V_mk ul451_1 ge451_1)
                       clear hva_ hvn_ hvc_ ge451_1 ul451_1
                       clear hcc451 hce451
                       have HR451_1:=am hi451_1
                       have HC451_1:=am hl451_1
                       clear hi451_1 hl451_1
                       replace p451:=eq_true p451
                       replace q451:=eq_true q451
                       go_wp2_with (first|((with_reducible refine gate_dst (N:=33) rfl ?_);(try(refine gate_guard (by rfl) ?_;dsimp only));refine box_event ?hg (N:=33) ?hd (cs := #[.int .i64 0,.slice none 0 0]) (t:=26) ?hr ?_;(case hd=>rfl);(case hg=>rfl);(case hr=>first|(go_simp;done)|(go_simp;rfl));intro gb452 hg w109 hbox hb;have n0_:=am (Kd.N_below (Kd.N_elderB (by(with_reducible repeat(first|apply Kd.N_alloc|apply Kd.N_drewN|apply Kd.N_drew));exact HO_17.out) gb452 (Nat.le_of_eq hg.symm)) hb);have n1_:=am (Kd.N_below (Kd.N_elderB (by(with_reducible repeat(first|apply Kd.N_alloc|apply Kd.N_drewN|apply Kd.N_drew));exact HO_223.out) gb452 (Nat.le_of_eq hg.symm)) hb);have n2_:=am (Kd.V_below (Kd.V_elderB (by(with_reducible repeat(first|apply Kd.V_alloc|apply Kd.V_drewN|apply Kd.V_drew));exact HL451_1.out) gb452 (Nat.le_of_eq hg.symm)) hb);have n3_:=am (Kd.C_below (by repeat(first|(with_reducible exact HR451_1.out)|(with_reducible refine Kd.C_alloc ?_ _)|(with_reducible refine Kd.C_drewN ?_ _)|(with_reducible refine Kd.C_drew ?_)|exact HR451_1.out)) hb);have n4_:=am (below_step bl hb);have n5_:=am (hbox);have n6_:=am (ge_ bl hg);have n7_:=am (ge_ bl hg);clear HO_17 HO_223 HL451_1 HR451_1 HB;have HO_17:=n0_;have HO_223:=n1_;have HL451_1:=n2_;have HR451_1:=n3_;have HB:=n4_;have BK452:=n5_;have GW452:=n6_;have GE452:=n7_;clear n0_ n1_ n2_ n3_ n4_ n5_ n6_ n7_ hb hbox hg;have hcz110_0:w109.cell? ⟨gb452,0,none⟩=some (.int .i64 0):=(blk_cell BK452.out 0).trans rfl;have hcz110_1:w109.cell? ⟨gb452,1,none⟩=some (.slice none 0 0):=(blk_cell BK452.out 1).trans rfl;have hfz110_0:=blk_frozen BK452.out 0;have hfz110_1:=blk_frozen BK452.out 1))
                       repeat(go_quiet (first|((with_reducible refine gate_dst (N:=33) rfl ?_);(try(refine gate_guard (by rfl) ?_;dsimp only));refine box_event ?hg (N:=33) ?hd (cs := #[.int .i64 0,.slice none 0 0]) (t:=26) ?hr ?_;(case hd=>rfl);(case hg=>rfl);(case hr=>first|(go_simp;done)|(go_simp;rfl));intro gb452 hg w109 hbox hb;have n0_:=am (Kd.N_below (Kd.N_elderB (by(with_reducible repeat(first|apply Kd.N_alloc|apply Kd.N_drewN|apply Kd.N_drew));exact HO_17.out) gb452 (Nat.le_of_eq hg.symm)) hb);have n1_:=am (Kd.N_below (Kd.N_elderB (by(with_reducible repeat(first|apply Kd.N_alloc|apply Kd.N_drewN|apply Kd.N_drew));exact HO_223.out) gb452 (Nat.le_of_eq hg.symm)) hb);have n2_:=am (Kd.V_below (Kd.V_elderB (by(with_reducible repeat(first|apply Kd.V_alloc|apply Kd.V_drewN|apply Kd.V_drew));exact HL451_1.out) gb452 (Nat.le_of_eq hg.symm)) hb);have n3_:=am (Kd.C_below (by repeat(first|(with_reducible exact HR451_1.out)|(with_reducible refine Kd.C_alloc ?_ _)|(with_reducible refine Kd.C_drewN ?_ _)|(with_reducible refine Kd.C_drew ?_)|exact HR451_1.out)) hb);have n4_:=am (below_step bl hb);have n5_:=am (hbox);have n6_:=am (ge_ bl hg);have n7_:=am (ge_ bl hg);clear HO_17 HO_223 HL451_1 HR451_1 HB;have HO_17:=n0_;have HO_223:=n1_;have HL451_1:=n2_;have HR451_1:=n3_;have HB:=n4_;have BK452:=n5_;have GW452:=n6_;have GE452:=n7_;clear n0_ n1_ n2_ n3_ n4_ n5_ n6_ n7_ hb hbox hg;have hcz110_0:w109.cell? ⟨gb452,0,none⟩=some (.int .i64 0):=(blk_cell BK452.out 0).trans rfl;have hcz110_1:w109.cell? ⟨gb452,1,none⟩=some (.slice none 0 0):=(blk_cell BK452.out 1).trans rfl;have hfz110_0:=blk_frozen BK452.out 0;have hfz110_1:=blk_frozen BK452.out 1));try go_wp2_with (first|((with_reducible refine gate_dst (N:=33) rfl ?_);(try(refine gate_guard (by rfl) ?_;dsimp only));refine box_event ?hg (N:=33) ?hd (cs := #[.int .i64 0,.slice none 0 0]) (t:=26) ?hr ?_;(case hd=>rfl);(case hg=>rfl);(case hr=>first|(go_simp;done)|(go_simp;rfl));intro gb452 hg w109 hbox hb;have n0_:=am (Kd.N_below (Kd.N_elderB (by(with_reducible repeat(first|apply Kd.N_alloc|apply Kd.N_drewN|apply Kd.N_drew));exact HO_17.out) gb452 (Nat.le_of_eq hg.symm)) hb);have n1_:=am (Kd.N_below (Kd.N_elderB (by(with_reducible repeat(first|apply Kd.N_alloc|apply Kd.N_drewN|apply Kd.N_drew));exact HO_223.out) gb452 (Nat.le_of_eq hg.symm)) hb);have n2_:=am (Kd.V_below (Kd.V_elderB (by(with_reducible repeat(first|apply Kd.V_alloc|apply Kd.V_drewN|apply Kd.V_drew));exact HL451_1.out) gb452 (Nat.le_of_eq hg.symm)) hb);have n3_:=am (Kd.C_below (by repeat(first|(with_reducible exact HR451_1.out)|(with_reducible refine Kd.C_alloc ?_ _)|(with_reducible refine Kd.C_drewN ?_ _)|(with_reducible refine Kd.C_drew ?_)|exact HR451_1.out)) hb);have n4_:=am (below_step bl hb);have n5_:=am (hbox);have n6_:=am (ge_ bl hg);have n7_:=am (ge_ bl hg);clear HO_17 HO_223 HL451_1 HR451_1 HB;have HO_17:=n0_;have HO_223:=n1_;have HL451_1:=n2_;have HR451_1:=n3_;have HB:=n4_;have BK452:=n5_;have GW452:=n6_;have GE452:=n7_;clear n0_ n1_ n2_ n3_ n4_ n5_ n6_ n7_ hb hbox hg;have hcz110_0:w109.cell? ⟨gb452,0,none⟩=some (.int .i64 0):=(blk_cell BK452.out 0).trans rfl;have hcz110_1:w109.cell? ⟨gb452,1,none⟩=some (.slice none 0 0):=(blk_cell BK452.out 1).trans rfl;have hfz110_0:=blk_frozen BK452.out 0;have hfz110_1:=blk_frozen BK452.out 1)))
                       go_roundg k4
                       case measure=>have:=HJ7.out;have:=HJ33.out;have:=HJ78.out;have:=HK4.out;omega
                       case rel=>exact⟨(wrap64 (x225_4+1)),fin2,H',⟨by have:=HJ7.out;have:=HJ33.out;have:=HJ78.out;have:=HK4.out;omega⟩,⟨by(with_reducible repeat(first|apply Kd.N_alloc|apply Kd.N_drewN|apply Kd.N_drew));exact Kd.N_mono (Kd.N_far (p:=⟨gb452,1,none⟩) (Kd.N_far (p:=⟨gb452,0,none⟩) (Kd.N_mono HO_17.out (fun k_ hk=>(⟨hk,hk.2⟩:_∧k_≠gb452))) (fun _ hk=>hk.2) (.int .i64 ((rd_T26 t434 x225_4).f0))) (fun _ hk=>hk.2) (.slice A451_1 ((rd_T26 t434 x225_4).f1).length c451_1)) (fun _ hk=>trivial)⟩,⟨by(with_reducible repeat(first|apply Kd.N_alloc|apply Kd.N_drewN|apply Kd.N_drew));exact Kd.N_mono (Kd.N_far (p:=⟨gb452,1,none⟩) (Kd.N_far (p:=⟨gb452,0,none⟩) (Kd.N_mono HO_223.out (fun k_ hk=>(⟨hk,hk.2⟩:_∧k_≠gb452))) (fun _ hk=>hk.2) (.int .i64 ((rd_T26 t434 x225_4).f0))) (fun _ hk=>hk.2) (.slice A451_1 ((rd_T26 t434 x225_4).f1).length c451_1)) (fun _ hk=>trivial)⟩,⟨bl⟩⟩
                      ·rw[if_neg c108] at H
                       have c108b0:((Int.tmod t445 ((rd_T26 t434 x225_4).f0)) == 0)=false:=beq_eq_false_iff_ne.mpr c108
                       have c108b1:((Int.tmod t445 ((rd_T26 t434 x225_4).f0)) != 0)=true:=bne_iff_ne.mpr c108
                       obtain rfl:=Option.some.inj H
                       have p451:0≤(x225_4:Int):=od
                       have q451:x225_4<(t434.length:Int):=od
                       obtain⟨ad451,A451_1,c451_1,e451,hx451_0,hx451_1,hl451_1,hi451_1⟩:=at_T26 (Kd.N_reads' HO_223.out).2.2 x225_4 p451 q451
                       cases e451
                       obtain⟨ce451,hce451,hMe451,hcc451⟩:=Kd.N_get HO_223.out z26 x225_4 p451 (by first|exact q451|exact od|(have e_:=(Kd.N_reads' HO_223.out).1;omega))
                       obtain⟨ua451_1,uc451_1,rfl,ul451_1,ge451_1⟩:=k26_openF hMe451
                       have hv451_1:=hcc451 1 _ rfl
                       rw[add_field _ _ 1 (by omega)] at hv451_1
                       replace hv451_1:=Option.some.inj (hv451_1.symm.trans hx451_1)
                       injection hv451_1 with hva_ hvn_ hvc_
                       rw[hva_] at ge451_1
                       rw[hvc_] at ul451_1
                       have HL451_1:=am (show Kd.V (Kd.int .i64) 3 _ w.heap.size _ _ ((rd_T26 t434 x225_4).f1) from Kd.V_mk ul451_1 ge451_1)
                       clear hva_ hvn_ hvc_ ge451_1 ul451_1
                       clear hcc451 hce451
                       have HR451_1:=am hi451_1
                       have HC451_1:=am hl451_1
                       clear hi451_1 hl451_1
                       replace p451:=eq_true p451
                       replace q451:=eq_true q451
                       go_wp2_with (first|((with_reducible refine gate_dst (N:=33) rfl ?_);(try(refine gate_guard (by rfl) ?_;dsimp only));refine box_event ?hg (N:=33) ?hd (cs := #[.int .i64 0,.slice none 0 0]) (t:=26) ?hr ?_;(case hd=>rfl);(case hg=>rfl);(case hr=>first|(go_simp;done)|(go_simp;rfl));intro gb452 hg w111 hbox hb;have n0_:=am (Kd.N_below (Kd.N_elderB (by(with_reducible repeat(first|apply Kd.N_alloc|apply Kd.N_drewN|apply Kd.N_drew));exact HO_17.out) gb452 (Nat.le_of_eq hg.symm)) hb);have n1_:=am (Kd.N_below (Kd.N_elderB (by(with_reducible repeat(first|apply Kd.N_alloc|apply Kd.N_drewN|apply Kd.N_drew));exact HO_223.out) gb452 (Nat.le_of_eq hg.symm)) hb);have n2_:=am (Kd.V_below (Kd.V_elderB (by(with_reducible repeat(first|apply Kd.V_alloc|apply Kd.V_drewN|apply Kd.V_drew));exact HL451_1.out) gb452 (Nat.le_of_eq hg.symm)) hb);have n3_:=am (Kd.C_below (by repeat(first|(with_reducible exact HR451_1.out)|(with_reducible refine Kd.C_alloc ?_ _)|(with_reducible refine Kd.C_drewN ?_ _)|(with_reducible refine Kd.C_drew ?_)|exact HR451_1.out)) hb);have n4_:=am (below_step bl hb);have n5_:=am (hbox);have n6_:=am (ge_ bl hg);have n7_:=am (ge_ bl hg);clear HO_17 HO_223 HL451_1 HR451_1 HB;have HO_17:=n0_;have HO_223:=n1_;have HL451_1:=n2_;have HR451_1:=n3_;have HB:=n4_;have BK452:=n5_;have GW452:=n6_;have GE452:=n7_;clear n0_ n1_ n2_ n3_ n4_ n5_ n6_ n7_ hb hbox hg;have hcz112_0:w111.cell? ⟨gb452,0,none⟩=some (.int .i64 0):=(blk_cell BK452.out 0).trans rfl;have hcz112_1:w111.cell? ⟨gb452,1,none⟩=some (.slice none 0 0):=(blk_cell BK452.out 1).trans rfl;have hfz112_0:=blk_frozen BK452.out 0;have hfz112_1:=blk_frozen BK452.out 1))
                       repeat(go_quiet (first|((with_reducible refine gate_dst (N:=33) rfl ?_);(try(refine gate_guard (by rfl) ?_;dsimp only));refine box_event ?hg (N:=33) ?hd (cs := #[.int .i64 0,.slice none 0 0]) (t:=26) ?hr ?_;(case hd=>rfl);(case hg=>rfl);(case hr=>first|(go_simp;done)|(go_simp;rfl));intro gb452 hg w111 hbox hb;have n0_:=am (Kd.N_below (Kd.N_elderB (by(with_reducible repeat(first|apply Kd.N_alloc|apply Kd.N_drewN|apply Kd.N_drew));exact HO_17.out) gb452 (Nat.le_of_eq hg.symm)) hb);have n1_:=am (Kd.N_below (Kd.N_elderB (by(with_reducible repeat(first|apply Kd.N_alloc|apply Kd.N_drewN|apply Kd.N_drew));exact HO_223.out) gb452 (Nat.le_of_eq hg.symm)) hb);have n2_:=am (Kd.V_below (Kd.V_elderB (by(with_reducible repeat(first|apply Kd.V_alloc|apply Kd.V_drewN|apply Kd.V_drew));exact HL451_1.out) gb452 (Nat.le_of_eq hg.symm)) hb);have n3_:=am (Kd.C_below (by repeat(first|(with_reducible exact HR451_1.out)|(with_reducible refine Kd.C_alloc ?_ _)|(with_reducible refine Kd.C_drewN ?_ _)|(with_reducible refine Kd.C_drew ?_)|exact HR451_1.out)) hb);have n4_:=am (below_step bl hb);have n5_:=am (hbox);have n6_:=am (ge_ bl hg);have n7_:=am (ge_ bl hg);clear HO_17 HO_223 HL451_1 HR451_1 HB;have HO_17:=n0_;have HO_223:=n1_;have HL451_1:=n2_;have HR451_1:=n3_;have HB:=n4_;have BK452:=n5_;have GW452:=n6_;have GE452:=n7_;clear n0_ n1_ n2_ n3_ n4_ n5_ n6_ n7_ hb hbox hg;have hcz112_0:w111.cell? ⟨gb452,0,none⟩=some (.int .i64 0):=(blk_cell BK452.out 0).trans rfl;have hcz112_1:w111.cell? ⟨gb452,1,none⟩=some (.slice none 0 0):=(blk_cell BK452.out 1).trans rfl;have hfz112_0:=blk_frozen BK452.out 0;have hfz112_1:=blk_frozen BK452.out 1));try go_wp2_with (first|((with_reducible refine gate_dst (N:=33) rfl ?_);(try(refine gate_guard (by rfl) ?_;dsimp only));refine box_event ?hg (N:=33) ?hd (cs := #[.int .i64 0,.slice none 0 0]) (t:=26) ?hr ?_;(case hd=>rfl);(case hg=>rfl);(case hr=>first|(go_simp;done)|(go_simp;rfl));intro gb452 hg w111 hbox hb;have n0_:=am (Kd.N_below (Kd.N_elderB (by(with_reducible repeat(first|apply Kd.N_alloc|apply Kd.N_drewN|apply Kd.N_drew));exact HO_17.out) gb452 (Nat.le_of_eq hg.symm)) hb);have n1_:=am (Kd.N_below (Kd.N_elderB (by(with_reducible repeat(first|apply Kd.N_alloc|apply Kd.N_drewN|apply Kd.N_drew));exact HO_223.out) gb452 (Nat.le_of_eq hg.symm)) hb);have n2_:=am (Kd.V_below (Kd.V_elderB (by(with_reducible repeat(first|apply Kd.V_alloc|apply Kd.V_drewN|apply Kd.V_drew));exact HL451_1.out) gb452 (Nat.le_of_eq hg.symm)) hb);have n3_:=am (Kd.C_below (by repeat(first|(with_reducible exact HR451_1.out)|(with_reducible refine Kd.C_alloc ?_ _)|(with_reducible refine Kd.C_drewN ?_ _)|(with_reducible refine Kd.C_drew ?_)|exact HR451_1.out)) hb);have n4_:=am (below_step bl hb);have n5_:=am (hbox);have n6_:=am (ge_ bl hg);have n7_:=am (ge_ bl hg);clear HO_17 HO_223 HL451_1 HR451_1 HB;have HO_17:=n0_;have HO_223:=n1_;have HL451_1:=n2_;have HR451_1:=n3_;have HB:=n4_;have BK452:=n5_;have GW452:=n6_;have GE452:=n7_;clear n0_ n1_ n2_ n3_ n4_ n5_ n6_ n7_ hb hbox hg;have hcz112_0:w111.cell? ⟨gb452,0,none⟩=some (.int .i64 0):=(blk_cell BK452.out 0).trans rfl;have hcz112_1:w111.cell? ⟨gb452,1,none⟩=some (.slice none 0 0):=(blk_cell BK452.out 1).trans rfl;have hfz112_0:=blk_frozen BK452.out 0;have hfz112_1:=blk_frozen BK452.out 1)))
                       go_ret
                       exact⟨fin1,bl⟩
                    ·rw[if_neg c106] at H
                     exact absurd H (by simp)
                   ·rw[if_neg c105] at H
                    exact absurd H (by simp)
                  ·rw[if_neg c104] at H
                   have c104b0:decide (x225_4<(t434.length:Int))=false:=decide_eq_false c104
                   clear c104
                   (first|rw[c104b0]|(simp only[i64_w,i32_w];rw[c104b0])|skip)
                   have H':=am H
                   clear H
                   go_wp2
                   repeat(go_quiet (fail);try go_wp2)
                   go_loopg [34] k4 (fun kq v34 w'=>∃(x34_5:Int),v34 = .int .i64 x34_5∧Aside0 (laws_FnDrums.l2 kq l1 t434 t440 t441 t445 x34_5=some r)∧Aside0 (kq≤k4)∧Aside0 (Kd.N k26 26 w' w.heap.size (fun _=>True) (.slice Ao81 t434.length co81) t434)∧Aside0 (Below w.heap.size w w'))
                   case atStart=>exact⟨(0),fin2,H',⟨Nat.le_refl _⟩,⟨by(with_reducible repeat(first|apply Kd.N_alloc|apply Kd.N_drewN|apply Kd.N_drew));exact HO_17.out⟩,⟨bl⟩⟩
                   case round =>
                    as_aux_lemma =>
                     clear H'
                     try clear c1
                     try clear c2
                     try clear p2
                     try clear c3
                     try clear c4
                     try clear p4
                     try clear q4
                     try clear hx4
                     try clear c5
                     try clear c6
                     try clear p6
                     try clear c8
                     try clear c9
                     try clear c10
                     try clear c15
                     try clear c21
                     try clear c22
                     try clear c25
                     try clear c25b0
                     try clear c25b1
                     try clear c25b2
                     try clear c27
                     try clear c28
                     try clear c30
                     try clear c33
                     try clear c35
                     try clear c39
                     try clear c40
                     try clear c42
                     try clear p43
                     try clear q43
                     try clear hx43
                     try clear c45
                     try clear p45
                     try clear q45
                     try clear hx45
                     try clear c48
                     try clear c49
                     try clear c50
                     try clear c50b0
                     try clear c50b1
                     try clear c51
                     try clear c51b0
                     try clear c52
                     try clear c53
                     try clear c55
                     try clear c57
                     try clear c58
                     try clear c60
                     try clear c60b0
                     try clear c61
                     try clear c61b0
                     try clear c62
                     try clear c62b0
                     try clear c63
                     try clear c63b0
                     try clear c63b1
                     try clear p64
                     try clear c65
                     try clear c66
                     try clear c69
                     try clear c88
                     try clear c88b0
                     try clear c88b1
                     try clear c88b2
                     try clear c89
                     try clear c89b0
                     try clear c89b1
                     try clear c90
                     try clear c90b0
                     try clear c90b1
                     try clear c91
                     try clear c91b0
                     try clear c91b1
                     try clear c91b2
                     try clear c92
                     try clear c92b0
                     try clear c92b1
                     try clear c93
                     try clear c93b0
                     try clear c93b1
                     try clear c93b2
                     try clear c94
                     try clear c94b0
                     try clear c94b1
                     try clear c95
                     try clear c95b0
                     try clear c95b1
                     try clear c95b2
                     try clear c96
                     try clear c97
                     try clear c97b0
                     try clear c97b1
                     try clear c97b2
                     try clear c98
                     try clear c99
                     try clear c99b0
                     try clear c99b1
                     try clear c99b2
                     try clear c100
                     try clear c101
                     try clear c103
                     try clear c104
                     try clear c104b0
                     try clear c105
                     try clear c105b0
                     try clear c106
                     try clear c106b0
                     try clear c107
                     try clear c107b0
                     try clear c107b1
                     try clear c108
                     try clear c108b0
                     try clear c108b1
                     try clear hcz110_0
                     try clear hcz110_1
                     try clear hcz112_0
                     try clear hcz112_1
                     try clear hcz11_0
                     try clear hcz11_1
                     try clear hcz16_0
                     try clear hcz16_1
                     try clear hcz18_0
                     try clear hcz18_1
                     try clear hcz23_0
                     try clear hcz23_1
                     try clear hcz29_0
                     try clear hcz29_1
                     try clear hcz31_0
                     try clear hcz31_1
                     try clear hcz41_0
                     try clear hcz41_1
                     try clear hcz43_0
                     try clear hcz43_1
                     try clear hcz45_0
                     try clear hcz45_1
                     try clear hcz46_0
                     try clear hcz46_1
                     try clear hcz54_0
                     try clear hcz54_1
                     try clear hcz56_0
                     try clear hcz56_1
                     try clear hcz59_0
                     try clear hcz59_1
                     try clear hcz67_0
                     try clear hcz67_1
                     try clear hcz68_0
                     try clear hcz68_1
                     try clear hcz70_0
                     try clear hcz70_1
                     try clear hcz71_0
                     try clear hcz71_1
                     try clear hfz110_0
                     try clear hfz110_1
                     try clear hfz112_0
                     try clear hfz112_1
                     try clear hfz11_0
                     try clear hfz11_1
                     try clear hfz16_0
                     try clear hfz16_1
                     try clear hfz18_0
                     try clear hfz18_1
                     try clear hfz23_0
                     try clear hfz23_1
                     try clear hfz29_0
                     try clear hfz29_1
                     try clear hfz31_0
                     try clear hfz31_1
                     try clear hfz41_0
                     try clear hfz41_1
                     try clear hfz43_0
                     try clear hfz43_1
                     try clear hfz45_0
                     try clear hfz45_1
                     try clear hfz46_0
                     try clear hfz46_1
                     try clear hfz54_0
                     try clear hfz54_1
                     try clear hfz56_0
                     try clear hfz56_1
                     try clear hfz59_0
                     try clear hfz59_1
                     try clear hfz67_0
                     try clear hfz67_1
                     try clear hfz68_0
                     try clear hfz68_1
                     try clear hfz70_0
                     try clear hfz70_1
                     try clear hfz71_0
                     try clear hfz71_1
                     try clear hx432_0
                     try clear hx451_0
                     try clear hx451_1
                     try clear p2
                     try clear p4
                     try clear p43
                     try clear p432
                     try clear p451
                     try clear p6
                     try clear p64
                     try clear q4
                     try clear q43
                     try clear q432
                     try clear q451
                     obtain⟨x34_5,rfl,HA,HK5,HO_17,HB⟩:=hrel
                     cases gk with
                     | zero=>exact absurd HA.out (by simp [laws_FnDrums.l2])
                     | succ k5 =>
                      have H:=HA.out
                      clear HA
                      simp only[laws_FnDrums.l2] at H
                      have HC113:=am H
                      clear H
                      go_upto_region 36 with(fail)
                      repeat(go_quiet (fail);go_upto_region 36 with(fail))
                      go_cut [241] (fun v241 wc=>∃(kq:Nat) (x241_112:Bool),v241 = .bool x241_112∧Aside0 (laws_FnDrums.j7 kq l1 t434 t440 t441 t445 x34_5 x241_112=some r)∧Aside0 (kq≤k5)∧Aside0 (Kd.N k26 26 wc w.heap.size (fun _=>True) (.slice Ao81 t434.length co81) t434)∧Aside0 (Below w.heap.size w wc))
                      case first =>
                       have H:=HC113.out
                       clear HC113
                       by_cases c114:x34_5<t445
                       ·rw[if_pos c114] at H
                        have c114b0:decide (x34_5<t445)=true:=decide_eq_true c114
                        clear c114
                        (first|rw[c114b0]|(simp only[i64_w,i32_w];rw[c114b0])|skip)
                        have H':=am H
                        clear H
                        go_wp2
                        repeat(go_quiet (fail);try go_wp2)
                        go_meet
                        case rel=>exact⟨_,(decide (x34_5<200)),fin2,H',⟨by have:=HJ7.out;have:=HJ33.out;have:=HJ78.out;have:=HK4.out;have:=HK5.out;first|omega|exact Nat.le_refl _⟩,⟨by(with_reducible repeat(first|apply Kd.N_alloc|apply Kd.N_drewN|apply Kd.N_drew));exact HO_17.out⟩,⟨bl⟩⟩
                       ·rw[if_neg c114] at H
                        have c114b0:decide (x34_5<t445)=false:=decide_eq_false c114
                        clear c114
                        (first|rw[c114b0]|(simp only[i64_w,i32_w];rw[c114b0])|skip)
                        have H':=am H
                        clear H
                        go_wp2
                        repeat(go_quiet (fail);try go_wp2)
                        go_meet
                        case rel=>exact⟨_,(false),fin2,H',⟨by have:=HJ7.out;have:=HJ33.out;have:=HJ78.out;have:=HK4.out;have:=HK5.out;first|omega|exact Nat.le_refl _⟩,⟨by(with_reducible repeat(first|apply Kd.N_alloc|apply Kd.N_drewN|apply Kd.N_drew));exact HO_17.out⟩,⟨bl⟩⟩
                      case rest =>
                       as_aux_lemma =>
                        clear HC113
                        try clear c1
                        try clear c2
                        try clear p2
                        try clear c3
                        try clear c4
                        try clear p4
                        try clear q4
                        try clear hx4
                        try clear c5
                        try clear c6
                        try clear p6
                        try clear c8
                        try clear c9
                        try clear c10
                        try clear c11
                        try clear c15
                        try clear c21
                        try clear c22
                        try clear c25
                        try clear c25b0
                        try clear c25b1
                        try clear c25b2
                        try clear c27
                        try clear c28
                        try clear c30
                        try clear c33
                        try clear c35
                        try clear c39
                        try clear c40
                        try clear c42
                        try clear p43
                        try clear q43
                        try clear hx43
                        try clear c45
                        try clear p45
                        try clear q45
                        try clear hx45
                        try clear c48
                        try clear c49
                        try clear c50
                        try clear c50b0
                        try clear c50b1
                        try clear c51
                        try clear c51b0
                        try clear c52
                        try clear c53
                        try clear c55
                        try clear c57
                        try clear c58
                        try clear c60
                        try clear c60b0
                        try clear c61
                        try clear c61b0
                        try clear c62
                        try clear c62b0
                        try clear c63
                        try clear c63b0
                        try clear c63b1
                        try clear p64
                        try clear c65
                        try clear c66
                        try clear c69
                        try clear c88
                        try clear c88b0
                        try clear c88b1
                        try clear c88b2
                        try clear c89
                        try clear c89b0
                        try clear c89b1
                        try clear c90
                        try clear c90b0
                        try clear c90b1
                        try clear c91
                        try clear c91b0
                        try clear c91b1
                        try clear c91b2
                        try clear c92
                        try clear c92b0
                        try clear c92b1
                        try clear c93
                        try clear c93b0
                        try clear c93b1
                        try clear c93b2
                        try clear c94
                        try clear c94b0
                        try clear c94b1
                        try clear c95
                        try clear c95b0
                        try clear c95b1
                        try clear c95b2
                        try clear c96
                        try clear c97
                        try clear c97b0
                        try clear c97b1
                        try clear c97b2
                        try clear c98
                        try clear c99
                        try clear c99b0
                        try clear c99b1
                        try clear c99b2
                        try clear c100
                        try clear c101
                        try clear c103
                        try clear c104
                        try clear c104b0
                        try clear c105
                        try clear c105b0
                        try clear c106
                        try clear c106b0
                        try clear c107
                        try clear c107b0
                        try clear c107b1
                        try clear c108
                        try clear c108b0
                        try clear c108b1
                        try clear c114
                        try clear c114b0
                        try clear hcz110_0
                        try clear hcz110_1
                        try clear hcz112_0
                        try clear hcz112_1
                        try clear hcz11_0
                        try clear hcz11_1
                        try clear hcz16_0
                        try clear hcz16_1
                        try clear hcz18_0
                        try clear hcz18_1
                        try clear hcz23_0
                        try clear hcz23_1
                        try clear hcz29_0
                        try clear hcz29_1
                        try clear hcz31_0
                        try clear hcz31_1
                        try clear hcz41_0
                        try clear hcz41_1
                        try clear hcz43_0
                        try clear hcz43_1
                        try clear hcz45_0
                        try clear hcz45_1
                        try clear hcz46_0
                        try clear hcz46_1
                        try clear hcz54_0
                        try clear hcz54_1
                        try clear hcz56_0
                        try clear hcz56_1
                        try clear hcz59_0
                        try clear hcz59_1
                        try clear hcz67_0
                        try clear hcz67_1
                        try clear hcz68_0
                        try clear hcz68_1
                        try clear hcz70_0
                        try clear hcz70_1
                        try clear hcz71_0
                        try clear hcz71_1
                        try clear hfz110_0
                        try clear hfz110_1
                        try clear hfz112_0
                        try clear hfz112_1
                        try clear hfz11_0
                        try clear hfz11_1
                        try clear hfz16_0
                        try clear hfz16_1
                        try clear hfz18_0
                        try clear hfz18_1
                        try clear hfz23_0
                        try clear hfz23_1
                        try clear hfz29_0
                        try clear hfz29_1
                        try clear hfz31_0
                        try clear hfz31_1
                        try clear hfz41_0
                        try clear hfz41_1
                        try clear hfz43_0
                        try clear hfz43_1
                        try clear hfz45_0
                        try clear hfz45_1
                        try clear hfz46_0
                        try clear hfz46_1
                        try clear hfz54_0
                        try clear hfz54_1
                        try clear hfz56_0
                        try clear hfz56_1
                        try clear hfz59_0
                        try clear hfz59_1
                        try clear hfz67_0
                        try clear hfz67_1
                        try clear hfz68_0
                        try clear hfz68_1
                        try clear hfz70_0
                        try clear hfz70_1
                        try clear hfz71_0
                        try clear hfz71_1
                        try clear hx432_0
                        try clear hx451_0
                        try clear hx451_1
                        try clear p2
                        try clear p4
                        try clear p43
                        try clear p432
                        try clear p45
                        try clear p451
                        try clear p6
                        try clear p64
                        try clear q4
                        try clear q43
                        try clear q432
                        try clear q45
                        try clear q451
                        obtain⟨kq,x241_112,rfl,HA,HJ112,HO_17,HB⟩:=hcut
                        cases kq with
                        | zero=>exact absurd HA.out (by simp [laws_FnDrums.j7])
                        | succ kj112 =>
                         have H:=HA.out
                         clear HA
                         simp only[laws_FnDrums.j7] at H
                         by_cases c115:x241_112=true
                         ·subst c115
                          have H1:(laws_FnDrums.l3 kj112 l1 t434 t440 t441 t445 x34_5 0 t434 (t434.length:Int) 0)=some r:=by rw[if_pos rfl] at H;exact H
                          clear H
                          have H:=H1
                          clear H1
                          have H':=am H
                          clear H
                          go_wp2
                          repeat(go_quiet (fail);try go_wp2)
                          go_loopg [35,246] kj112 (fun kq v35 v246 w'=>∃(x35_7:Int) (x246_7:Int),v35 = .int .i64 x35_7∧v246 = .int .i64 x246_7∧Aside0 (laws_FnDrums.l3 kq l1 t434 t440 t441 t445 x34_5 x35_7 t434 (t434.length:Int) x246_7=some r)∧Aside0 (kq≤kj112)∧Aside0 (Kd.N k26 26 w' w.heap.size (fun _=>True) (.slice Ao81 t434.length co81) t434)∧Aside0 (Kd.N k26 26 w' w.heap.size (fun _=>True) (.slice Ao81 t434.length co81) t434)∧Aside0 (Below w.heap.size w w'))
                          case atStart=>exact⟨(0),(0),fin2,fin2,H',⟨Nat.le_refl _⟩,⟨by(with_reducible repeat(first|apply Kd.N_alloc|apply Kd.N_drewN|apply Kd.N_drew));exact HO_17.out⟩,⟨by(with_reducible repeat(first|apply Kd.N_alloc|apply Kd.N_drewN|apply Kd.N_drew));exact HO_17.out⟩,⟨bl⟩⟩
                          case round =>
                           as_aux_lemma =>
                            clear H'
                            try clear c1
                            try clear c2
                            try clear p2
                            try clear c3
                            try clear c4
                            try clear p4
                            try clear q4
                            try clear hx4
                            try clear c5
                            try clear c6
                            try clear p6
                            try clear c8
                            try clear c9
                            try clear c10
                            try clear c11
                            try clear c15
                            try clear c21
                            try clear c22
                            try clear c25
                            try clear c25b0
                            try clear c25b1
                            try clear c25b2
                            try clear c27
                            try clear c28
                            try clear c30
                            try clear c33
                            try clear c35
                            try clear c39
                            try clear c40
                            try clear c42
                            try clear p43
                            try clear q43
                            try clear hx43
                            try clear c45
                            try clear p45
                            try clear q45
                            try clear hx45
                            try clear c48
                            try clear c49
                            try clear c50
                            try clear c50b0
                            try clear c50b1
                            try clear c51
                            try clear c51b0
                            try clear c52
                            try clear c53
                            try clear c55
                            try clear c57
                            try clear c58
                            try clear c60
                            try clear c60b0
                            try clear c61
                            try clear c61b0
                            try clear c62
                            try clear c62b0
                            try clear c63
                            try clear c63b0
                            try clear c63b1
                            try clear p64
                            try clear c65
                            try clear c66
                            try clear c69
                            try clear c88
                            try clear c88b0
                            try clear c88b1
                            try clear c88b2
                            try clear c89
                            try clear c89b0
                            try clear c89b1
                            try clear c90
                            try clear c90b0
                            try clear c90b1
                            try clear c91
                            try clear c91b0
                            try clear c91b1
                            try clear c91b2
                            try clear c92
                            try clear c92b0
                            try clear c92b1
                            try clear c93
                            try clear c93b0
                            try clear c93b1
                            try clear c93b2
                            try clear c94
                            try clear c94b0
                            try clear c94b1
                            try clear c95
                            try clear c95b0
                            try clear c95b1
                            try clear c95b2
                            try clear c96
                            try clear c97
                            try clear c97b0
                            try clear c97b1
                            try clear c97b2
                            try clear c98
                            try clear c99
                            try clear c99b0
                            try clear c99b1
                            try clear c99b2
                            try clear c100
                            try clear c101
                            try clear c103
                            try clear c104
                            try clear c104b0
                            try clear c105
                            try clear c105b0
                            try clear c106
                            try clear c106b0
                            try clear c107
                            try clear c107b0
                            try clear c107b1
                            try clear c108
                            try clear c108b0
                            try clear c108b1
                            try clear c114
                            try clear c114b0
                            try clear c115
                            try clear hcz110_0
                            try clear hcz110_1
                            try clear hcz112_0
                            try clear hcz112_1
                            try clear hcz11_0
                            try clear hcz11_1
                            try clear hcz16_0
                            try clear hcz16_1
                            try clear hcz18_0
                            try clear hcz18_1
                            try clear hcz23_0
                            try clear hcz23_1
                            try clear hcz29_0
                            try clear hcz29_1
                            try clear hcz31_0
                            try clear hcz31_1
                            try clear hcz41_0
                            try clear hcz41_1
                            try clear hcz43_0
                            try clear hcz43_1
                            try clear hcz45_0
                            try clear hcz45_1
                            try clear hcz46_0
                            try clear hcz46_1
                            try clear hcz54_0
                            try clear hcz54_1
                            try clear hcz56_0
                            try clear hcz56_1
                            try clear hcz59_0
                            try clear hcz59_1
                            try clear hcz67_0
                            try clear hcz67_1
                            try clear hcz68_0
                            try clear hcz68_1
                            try clear hcz70_0
                            try clear hcz70_1
                            try clear hcz71_0
                            try clear hcz71_1
                            try clear hfz110_0
                            try clear hfz110_1
                            try clear hfz112_0
                            try clear hfz112_1
                            try clear hfz11_0
                            try clear hfz11_1
                            try clear hfz16_0
                            try clear hfz16_1
                            try clear hfz18_0
                            try clear hfz18_1
                            try clear hfz23_0
                            try clear hfz23_1
                            try clear hfz29_0
                            try clear hfz29_1
                            try clear hfz31_0
                            try clear hfz31_1
                            try clear hfz41_0
                            try clear hfz41_1
                            try clear hfz43_0
                            try clear hfz43_1
                            try clear hfz45_0
                            try clear hfz45_1
                            try clear hfz46_0
                            try clear hfz46_1
                            try clear hfz54_0
                            try clear hfz54_1
                            try clear hfz56_0
                            try clear hfz56_1
                            try clear hfz59_0
                            try clear hfz59_1
                            try clear hfz67_0
                            try clear hfz67_1
                            try clear hfz68_0
                            try clear hfz68_1
                            try clear hfz70_0
                            try clear hfz70_1
                            try clear hfz71_0
                            try clear hfz71_1
                            try clear hx432_0
                            try clear hx451_0
                            try clear hx451_1
                            try clear p2
                            try clear p4
                            try clear p43
                            try clear p432
                            try clear p45
                            try clear p451
                            try clear p6
                            try clear p64
                            try clear q4
                            try clear q43
                            try clear q432
                            try clear q45
                            try clear q451
                            obtain⟨x35_7,x246_7,rfl,rfl,HA,HK7,HO_17,HO_244,HB⟩:=hrel
                            cases gk with
                            | zero=>exact absurd HA.out (by simp [laws_FnDrums.l3])
                            | succ k7 =>
                             have H:=HA.out
                             clear HA
                             simp only[laws_FnDrums.l3] at H
                             by_cases c116:x246_7<(t434.length:Int)
                             ·rw[if_pos c116] at H
                              have c116b0:decide (x246_7<(t434.length:Int))=true:=decide_eq_true c116
                              clear c116
                              by_cases c117:0≤x246_7
                              ·rw[if_pos c117] at H
                               have c117b0:decide (0≤x246_7)=true:=decide_eq_true c117
                               clear c117
                               by_cases c118:x246_7<(t434.length:Int)
                               ·rw[if_pos c118] at H
                                have c118b0:decide (x246_7<(t434.length:Int))=true:=decide_eq_true c118
                                clear c118
                                by_cases c119:((rd_T26 t434 x246_7).f0)=0
                                ·rw[if_pos c119] at H
                                 exact absurd H (by simp)
                                ·rw[if_neg c119] at H
                                 have c119b0:(((rd_T26 t434 x246_7).f0) == 0)=false:=beq_eq_false_iff_ne.mpr c119
                                 have c119b1:(((rd_T26 t434 x246_7).f0) != 0)=true:=bne_iff_ne.mpr c119
                                 replace H:=Option.bind_eq_some_iff.mp H
                                 obtain⟨t455,A1200,H⟩:=H
                                 replace H:(if t455=true then(laws_FnDrums.l3 k7 l1 t434 t440 t441 t445 x34_5 (wrap64 (x35_7+1)) t434 (t434.length:Int) (wrap64 (x246_7+1))) else(laws_FnDrums.l3 k7 l1 t434 t440 t441 t445 x34_5 x35_7 t434 (t434.length:Int) (wrap64 (x246_7+1))))=some r:=H
                                 have A120:=am A1200
                                 clear A1200
                                 by_cases c121:t455=true
                                 ·subst c121
                                  have H1:(laws_FnDrums.l3 k7 l1 t434 t440 t441 t445 x34_5 (wrap64 (x35_7+1)) t434 (t434.length:Int) (wrap64 (x246_7+1)))=some r:=by rw[if_pos rfl] at H;exact H
                                  clear H
                                  have H:=H1
                                  clear H1
                                  have H':=am H
                                  clear H
                                  have p453:0≤(x246_7:Int):=od
                                  have q453:x246_7<(t434.length:Int):=od
                                  obtain⟨ad453,A453_1,c453_1,e453,hx453_0,hx453_1,hl453_1,hi453_1⟩:=at_T26 (Kd.N_reads' HO_244.out).2.2 x246_7 p453 q453
                                  cases e453
                                  obtain⟨ce453,hce453,hMe453,hcc453⟩:=Kd.N_get HO_244.out z26 x246_7 p453 (by first|exact q453|exact od|(have e_:=(Kd.N_reads' HO_244.out).1;omega))
                                  obtain⟨ua453_1,uc453_1,rfl,ul453_1,ge453_1⟩:=k26_openF hMe453
                                  have hv453_1:=hcc453 1 _ rfl
                                  rw[add_field _ _ 1 (by omega)] at hv453_1
                                  replace hv453_1:=Option.some.inj (hv453_1.symm.trans hx453_1)
                                  injection hv453_1 with hva_ hvn_ hvc_
                                  rw[hva_] at ge453_1
                                  rw[hvc_] at ul453_1
                                  have HL453_1:=am (show Kd.V (Kd.int .i64) 3 _ w.heap.size _ _ ((rd_T26 t434 x246_7).f1) from Kd.V_mk ul453_1 ge453_1)
                                  clear hva_ hvn_ hvc_ ge453_1 ul453_1
                                  clear hcc453 hce453
                                  have HR453_1:=am hi453_1
                                  have HC453_1:=am hl453_1
                                  clear hi453_1 hl453_1
                                  replace p453:=eq_true p453
                                  replace q453:=eq_true q453
                                  go_wp2_with (first|((with_reducible refine gate_dst (N:=37) rfl ?_);(try(refine gate_guard (by rfl) ?_;dsimp only));refine box_event ?hg (N:=37) ?hd (cs := #[.int .i64 0,.slice none 0 0]) (t:=26) ?hr ?_;(case hd=>rfl);(case hg=>rfl);(case hr=>first|(go_simp;done)|(go_simp;rfl));intro gb454 hg w122 hbox hb;have n0_:=am (Kd.N_below (Kd.N_elderB (by(with_reducible repeat(first|apply Kd.N_alloc|apply Kd.N_drewN|apply Kd.N_drew));exact HO_17.out) gb454 (Nat.le_of_eq hg.symm)) hb);have n1_:=am (Kd.N_below (Kd.N_elderB (by(with_reducible repeat(first|apply Kd.N_alloc|apply Kd.N_drewN|apply Kd.N_drew));exact HO_244.out) gb454 (Nat.le_of_eq hg.symm)) hb);have n2_:=am (Kd.V_below (Kd.V_elderB (by(with_reducible repeat(first|apply Kd.V_alloc|apply Kd.V_drewN|apply Kd.V_drew));exact HL453_1.out) gb454 (Nat.le_of_eq hg.symm)) hb);have n3_:=am (Kd.C_below (by repeat(first|(with_reducible exact HR453_1.out)|(with_reducible refine Kd.C_alloc ?_ _)|(with_reducible refine Kd.C_drewN ?_ _)|(with_reducible refine Kd.C_drew ?_)|exact HR453_1.out)) hb);have n4_:=am (below_step bl hb);have n5_:=am (hbox);have n6_:=am (ge_ bl hg);have n7_:=am (ge_ bl hg);clear HO_17 HO_244 HL453_1 HR453_1 HB;have HO_17:=n0_;have HO_244:=n1_;have HL453_1:=n2_;have HR453_1:=n3_;have HB:=n4_;have BK454:=n5_;have GW454:=n6_;have GE454:=n7_;clear n0_ n1_ n2_ n3_ n4_ n5_ n6_ n7_ hb hbox hg;have hcz123_0:w122.cell? ⟨gb454,0,none⟩=some (.int .i64 0):=(blk_cell BK454.out 0).trans rfl;have hcz123_1:w122.cell? ⟨gb454,1,none⟩=some (.slice none 0 0):=(blk_cell BK454.out 1).trans rfl;have hfz123_0:=blk_frozen BK454.out 0;have hfz123_1:=blk_frozen BK454.out 1)|(go_at_call 11;(with_reducible refine(laws_pIn.calls k7 _ _ ((rd_T26 t434 x246_7).f1) (Int.tmod x34_5 ((rd_T26 t434 x246_7).f0)) true _ ?side1 ?side2 A120.out).mono ?_);(case side1=>repeat(first|exact((Kd.V_reads' (by(with_reducible repeat(first|apply Kd.V_alloc|apply Kd.V_drewN|apply Kd.V_drew));exact(Kd.V_mono (Kd.V_far (p:=⟨gb454,1,none⟩) (Kd.V_far (p:=⟨gb454,0,none⟩) (Kd.V_mono HL453_1.out (fun k_ hk=>(⟨hk,hk.2⟩:_∧k_≠gb454))) (fun _ hk=>hk.2) (.int .i64 ((rd_T26 t434 x246_7).f0))) (fun _ hk=>hk.2) (.slice A453_1 ((rd_T26 t434 x246_7).f1).length c453_1)) (fun _ h_=>h_.1)))).2.2)|(with_reducible refine Kd.C_alloc ?_ _)|(with_reducible refine Kd.C_drewN ?_ _)|(with_reducible refine Kd.C_drew ?_)));(case side2=>exact HC453_1.out);rintro e w' ⟨rfl,⟨nd,rfl⟩⟩;(try first|exact⟨rfl,_,World.drewN_drewN _ _ _⟩|exact⟨rfl,_,Eq.trans (World.drewN_drewN _ _ _) (congrArg (World.drewN _) (Nat.add_assoc _ _ _))⟩)))
                                  repeat(go_quiet (first|((with_reducible refine gate_dst (N:=37) rfl ?_);(try(refine gate_guard (by rfl) ?_;dsimp only));refine box_event ?hg (N:=37) ?hd (cs := #[.int .i64 0,.slice none 0 0]) (t:=26) ?hr ?_;(case hd=>rfl);(case hg=>rfl);(case hr=>first|(go_simp;done)|(go_simp;rfl));intro gb454 hg w122 hbox hb;have n0_:=am (Kd.N_below (Kd.N_elderB (by(with_reducible repeat(first|apply Kd.N_alloc|apply Kd.N_drewN|apply Kd.N_drew));exact HO_17.out) gb454 (Nat.le_of_eq hg.symm)) hb);have n1_:=am (Kd.N_below (Kd.N_elderB (by(with_reducible repeat(first|apply Kd.N_alloc|apply Kd.N_drewN|apply Kd.N_drew));exact HO_244.out) gb454 (Nat.le_of_eq hg.symm)) hb);have n2_:=am (Kd.V_below (Kd.V_elderB (by(with_reducible repeat(first|apply Kd.V_alloc|apply Kd.V_drewN|apply Kd.V_drew));exact HL453_1.out) gb454 (Nat.le_of_eq hg.symm)) hb);have n3_:=am (Kd.C_below (by repeat(first|(with_reducible exact HR453_1.out)|(with_reducible refine Kd.C_alloc ?_ _)|(with_reducible refine Kd.C_drewN ?_ _)|(with_reducible refine Kd.C_drew ?_)|exact HR453_1.out)) hb);have n4_:=am (below_step bl hb);have n5_:=am (hbox);have n6_:=am (ge_ bl hg);have n7_:=am (ge_ bl hg);clear HO_17 HO_244 HL453_1 HR453_1 HB;have HO_17:=n0_;have HO_244:=n1_;have HL453_1:=n2_;have HR453_1:=n3_;have HB:=n4_;have BK454:=n5_;have GW454:=n6_;have GE454:=n7_;clear n0_ n1_ n2_ n3_ n4_ n5_ n6_ n7_ hb hbox hg;have hcz123_0:w122.cell? ⟨gb454,0,none⟩=some (.int .i64 0):=(blk_cell BK454.out 0).trans rfl;have hcz123_1:w122.cell? ⟨gb454,1,none⟩=some (.slice none 0 0):=(blk_cell BK454.out 1).trans rfl;have hfz123_0:=blk_frozen BK454.out 0;have hfz123_1:=blk_frozen BK454.out 1)|(go_at_call 11;(with_reducible refine(laws_pIn.calls k7 _ _ ((rd_T26 t434 x246_7).f1) (Int.tmod x34_5 ((rd_T26 t434 x246_7).f0)) true _ ?side1 ?side2 A120.out).mono ?_);(case side1=>repeat(first|exact((Kd.V_reads' (by(with_reducible repeat(first|apply Kd.V_alloc|apply Kd.V_drewN|apply Kd.V_drew));exact(Kd.V_mono (Kd.V_far (p:=⟨gb454,1,none⟩) (Kd.V_far (p:=⟨gb454,0,none⟩) (Kd.V_mono HL453_1.out (fun k_ hk=>(⟨hk,hk.2⟩:_∧k_≠gb454))) (fun _ hk=>hk.2) (.int .i64 ((rd_T26 t434 x246_7).f0))) (fun _ hk=>hk.2) (.slice A453_1 ((rd_T26 t434 x246_7).f1).length c453_1)) (fun _ h_=>h_.1)))).2.2)|(with_reducible refine Kd.C_alloc ?_ _)|(with_reducible refine Kd.C_drewN ?_ _)|(with_reducible refine Kd.C_drew ?_)));(case side2=>exact HC453_1.out);rintro e w' ⟨rfl,⟨nd,rfl⟩⟩;(try first|exact⟨rfl,_,World.drewN_drewN _ _ _⟩|exact⟨rfl,_,Eq.trans (World.drewN_drewN _ _ _) (congrArg (World.drewN _) (Nat.add_assoc _ _ _))⟩)));try go_wp2_with (first|((with_reducible refine gate_dst (N:=37) rfl ?_);(try(refine gate_guard (by rfl) ?_;dsimp only));refine box_event ?hg (N:=37) ?hd (cs := #[.int .i64 0,.slice none 0 0]) (t:=26) ?hr ?_;(case hd=>rfl);(case hg=>rfl);(case hr=>first|(go_simp;done)|(go_simp;rfl));intro gb454 hg w122 hbox hb;have n0_:=am (Kd.N_below (Kd.N_elderB (by(with_reducible repeat(first|apply Kd.N_alloc|apply Kd.N_drewN|apply Kd.N_drew));exact HO_17.out) gb454 (Nat.le_of_eq hg.symm)) hb);have n1_:=am (Kd.N_below (Kd.N_elderB (by(with_reducible repeat(first|apply Kd.N_alloc|apply Kd.N_drewN|apply Kd.N_drew));exact HO_244.out) gb454 (Nat.le_of_eq hg.symm)) hb);have n2_:=am (Kd.V_below (Kd.V_elderB (by(with_reducible repeat(first|apply Kd.V_alloc|apply Kd.V_drewN|apply Kd.V_drew));exact HL453_1.out) gb454 (Nat.le_of_eq hg.symm)) hb);have n3_:=am (Kd.C_below (by repeat(first|(with_reducible exact HR453_1.out)|(with_reducible refine Kd.C_alloc ?_ _)|(with_reducible refine Kd.C_drewN ?_ _)|(with_reducible refine Kd.C_drew ?_)|exact HR453_1.out)) hb);have n4_:=am (below_step bl hb);have n5_:=am (hbox);have n6_:=am (ge_ bl hg);have n7_:=am (ge_ bl hg);clear HO_17 HO_244 HL453_1 HR453_1 HB;have HO_17:=n0_;have HO_244:=n1_;have HL453_1:=n2_;have HR453_1:=n3_;have HB:=n4_;have BK454:=n5_;have GW454:=n6_;have GE454:=n7_;clear n0_ n1_ n2_ n3_ n4_ n5_ n6_ n7_ hb hbox hg;have hcz123_0:w122.cell? ⟨gb454,0,none⟩=some (.int .i64 0):=(blk_cell BK454.out 0).trans rfl;have hcz123_1:w122.cell? ⟨gb454,1,none⟩=some (.slice none 0 0):=(blk_cell BK454.out 1).trans rfl;have hfz123_0:=blk_frozen BK454.out 0;have hfz123_1:=blk_frozen BK454.out 1)|(go_at_call 11;(with_reducible refine(laws_pIn.calls k7 _ _ ((rd_T26 t434 x246_7).f1) (Int.tmod x34_5 ((rd_T26 t434 x246_7).f0)) true _ ?side1 ?side2 A120.out).mono ?_);(case side1=>repeat(first|exact((Kd.V_reads' (by(with_reducible repeat(first|apply Kd.V_alloc|apply Kd.V_drewN|apply Kd.V_drew));exact(Kd.V_mono (Kd.V_far (p:=⟨gb454,1,none⟩) (Kd.V_far (p:=⟨gb454,0,none⟩) (Kd.V_mono HL453_1.out (fun k_ hk=>(⟨hk,hk.2⟩:_∧k_≠gb454))) (fun _ hk=>hk.2) (.int .i64 ((rd_T26 t434 x246_7).f0))) (fun _ hk=>hk.2) (.slice A453_1 ((rd_T26 t434 x246_7).f1).length c453_1)) (fun _ h_=>h_.1)))).2.2)|(with_reducible refine Kd.C_alloc ?_ _)|(with_reducible refine Kd.C_drewN ?_ _)|(with_reducible refine Kd.C_drew ?_)));(case side2=>exact HC453_1.out);rintro e w' ⟨rfl,⟨nd,rfl⟩⟩;(try first|exact⟨rfl,_,World.drewN_drewN _ _ _⟩|exact⟨rfl,_,Eq.trans (World.drewN_drewN _ _ _) (congrArg (World.drewN _) (Nat.add_assoc _ _ _))⟩))))
                                  go_roundg k7
                                  case measure=>have:=HJ7.out;have:=HJ33.out;have:=HJ78.out;have:=HK4.out;have:=HK5.out;have:=HJ112.out;have:=HK7.out;omega
                                  case rel=>exact⟨(wrap64 (x35_7+1)),(wrap64 (x246_7+1)),fin2,fin2,H',⟨by have:=HJ7.out;have:=HJ33.out;have:=HJ78.out;have:=HK4.out;have:=HK5.out;have:=HJ112.out;have:=HK7.out;omega⟩,⟨by(with_reducible repeat(first|apply Kd.N_alloc|apply Kd.N_drewN|apply Kd.N_drew));exact Kd.N_mono (Kd.N_far (p:=⟨gb454,1,none⟩) (Kd.N_far (p:=⟨gb454,0,none⟩) (Kd.N_mono HO_17.out (fun k_ hk=>(⟨hk,hk.2⟩:_∧k_≠gb454))) (fun _ hk=>hk.2) (.int .i64 ((rd_T26 t434 x246_7).f0))) (fun _ hk=>hk.2) (.slice A453_1 ((rd_T26 t434 x246_7).f1).length c453_1)) (fun _ hk=>trivial)⟩,⟨by(with_reducible repeat(first|apply Kd.N_alloc|apply Kd.N_drewN|apply Kd.N_drew));exact Kd.N_mono (Kd.N_far (p:=⟨gb454,1,none⟩) (Kd.N_far (p:=⟨gb454,0,none⟩) (Kd.N_mono HO_244.out (fun k_ hk=>(⟨hk,hk.2⟩:_∧k_≠gb454))) (fun _ hk=>hk.2) (.int .i64 ((rd_T26 t434 x246_7).f0))) (fun _ hk=>hk.2) (.slice A453_1 ((rd_T26 t434 x246_7).f1).length c453_1)) (fun _ hk=>trivial)⟩,⟨bl⟩⟩
                                 ·replace c121:=Bool.eq_false_iff.mpr c121
                                  subst c121
                                  have H1:(laws_FnDrums.l3 k7 l1 t434 t440 t441 t445 x34_5 x35_7 t434 (t434.length:Int) (wrap64 (x246_7+1)))=some r:=by rw[if_neg (show ¬ (false=true) by decide)] at H;exact H
                                  clear H
                                  have H:=H1
                                  clear H1
                                  have H':=am H
                                  clear H
                                  have p453:0≤(x246_7:Int):=od
                                  have q453:x246_7<(t434.length:Int):=od
                                  obtain⟨ad453,A453_1,c453_1,e453,hx453_0,hx453_1,hl453_1,hi453_1⟩:=at_T26 (Kd.N_reads' HO_244.out).2.2 x246_7 p453 q453
                                  cases e453
                                  obtain⟨ce453,hce453,hMe453,hcc453⟩:=Kd.N_get HO_244.out z26 x246_7 p453 (by first|exact q453|exact od|(have e_:=(Kd.N_reads' HO_244.out).1;omega))
                                  obtain⟨ua453_1,uc453_1,rfl,ul453_1,ge453_1⟩:=k26_openF hMe453
                                  have hv453_1:=hcc453 1 _ rfl
                                  rw[add_field _ _ 1 (by omega)] at hv453_1
                                  replace hv453_1:=Option.some.inj (hv453_1.symm.trans hx453_1)
                                  injection hv453_1 with hva_ hvn_ hvc_
                                  rw[hva_] at ge453_1
                                  rw[hvc_] at ul453_1
                                  have HL453_1:=am (show Kd.V (Kd.int .i64) 3 _ w.heap.size _ _ ((rd_T26 t434 x246_7).f1) from Kd.V_mk ul453_1 ge453_1)
                                  clear hva_ hvn_ hvc_ ge453_1 ul453_1
                                  clear hcc453 hce453
                                  have HR453_1:=am hi453_1
                                  have HC453_1:=am hl453_1
                                  clear hi453_1 hl453_1
                                  replace p453:=eq_true p453
                                  replace q453:=eq_true q453
                                  go_wp2_with (first|((with_reducible refine gate_dst (N:=37) rfl ?_);(try(refine gate_guard (by rfl) ?_;dsimp only));refine box_event ?hg (N:=37) ?hd (cs := #[.int .i64 0,.slice none 0 0]) (t:=26) ?hr ?_;(case hd=>rfl);(case hg=>rfl);(case hr=>first|(go_simp;done)|(go_simp;rfl));intro gb454 hg w124 hbox hb;have n0_:=am (Kd.N_below (Kd.N_elderB (by(with_reducible repeat(first|apply Kd.N_alloc|apply Kd.N_drewN|apply Kd.N_drew));exact HO_17.out) gb454 (Nat.le_of_eq hg.symm)) hb);have n1_:=am (Kd.N_below (Kd.N_elderB (by(with_reducible repeat(first|apply Kd.N_alloc|apply Kd.N_drewN|apply Kd.N_drew));exact HO_244.out) gb454 (Nat.le_of_eq hg.symm)) hb);have n2_:=am (Kd.V_below (Kd.V_elderB (by(with_reducible repeat(first|apply Kd.V_alloc|apply Kd.V_drewN|apply Kd.V_drew));exact HL453_1.out) gb454 (Nat.le_of_eq hg.symm)) hb);have n3_:=am (Kd.C_below (by repeat(first|(with_reducible exact HR453_1.out)|(with_reducible refine Kd.C_alloc ?_ _)|(with_reducible refine Kd.C_drewN ?_ _)|(with_reducible refine Kd.C_drew ?_)|exact HR453_1.out)) hb);have n4_:=am (below_step bl hb);have n5_:=am (hbox);have n6_:=am (ge_ bl hg);have n7_:=am (ge_ bl hg);clear HO_17 HO_244 HL453_1 HR453_1 HB;have HO_17:=n0_;have HO_244:=n1_;have HL453_1:=n2_;have HR453_1:=n3_;have HB:=n4_;have BK454:=n5_;have GW454:=n6_;have GE454:=n7_;clear n0_ n1_ n2_ n3_ n4_ n5_ n6_ n7_ hb hbox hg;have hcz125_0:w124.cell? ⟨gb454,0,none⟩=some (.int .i64 0):=(blk_cell BK454.out 0).trans rfl;have hcz125_1:w124.cell? ⟨gb454,1,none⟩=some (.slice none 0 0):=(blk_cell BK454.out 1).trans rfl;have hfz125_0:=blk_frozen BK454.out 0;have hfz125_1:=blk_frozen BK454.out 1)|(go_at_call 11;(with_reducible refine(laws_pIn.calls k7 _ _ ((rd_T26 t434 x246_7).f1) (Int.tmod x34_5 ((rd_T26 t434 x246_7).f0)) false _ ?side1 ?side2 A120.out).mono ?_);(case side1=>repeat(first|exact((Kd.V_reads' (by(with_reducible repeat(first|apply Kd.V_alloc|apply Kd.V_drewN|apply Kd.V_drew));exact(Kd.V_mono (Kd.V_far (p:=⟨gb454,1,none⟩) (Kd.V_far (p:=⟨gb454,0,none⟩) (Kd.V_mono HL453_1.out (fun k_ hk=>(⟨hk,hk.2⟩:_∧k_≠gb454))) (fun _ hk=>hk.2) (.int .i64 ((rd_T26 t434 x246_7).f0))) (fun _ hk=>hk.2) (.slice A453_1 ((rd_T26 t434 x246_7).f1).length c453_1)) (fun _ h_=>h_.1)))).2.2)|(with_reducible refine Kd.C_alloc ?_ _)|(with_reducible refine Kd.C_drewN ?_ _)|(with_reducible refine Kd.C_drew ?_)));(case side2=>exact HC453_1.out);rintro e w' ⟨rfl,⟨nd,rfl⟩⟩;(try first|exact⟨rfl,_,World.drewN_drewN _ _ _⟩|exact⟨rfl,_,Eq.trans (World.drewN_drewN _ _ _) (congrArg (World.drewN _) (Nat.add_assoc _ _ _))⟩)))
                                  repeat(go_quiet (first|((with_reducible refine gate_dst (N:=37) rfl ?_);(try(refine gate_guard (by rfl) ?_;dsimp only));refine box_event ?hg (N:=37) ?hd (cs := #[.int .i64 0,.slice none 0 0]) (t:=26) ?hr ?_;(case hd=>rfl);(case hg=>rfl);(case hr=>first|(go_simp;done)|(go_simp;rfl));intro gb454 hg w124 hbox hb;have n0_:=am (Kd.N_below (Kd.N_elderB (by(with_reducible repeat(first|apply Kd.N_alloc|apply Kd.N_drewN|apply Kd.N_drew));exact HO_17.out) gb454 (Nat.le_of_eq hg.symm)) hb);have n1_:=am (Kd.N_below (Kd.N_elderB (by(with_reducible repeat(first|apply Kd.N_alloc|apply Kd.N_drewN|apply Kd.N_drew));exact HO_244.out) gb454 (Nat.le_of_eq hg.symm)) hb);have n2_:=am (Kd.V_below (Kd.V_elderB (by(with_reducible repeat(first|apply Kd.V_alloc|apply Kd.V_drewN|apply Kd.V_drew));exact HL453_1.out) gb454 (Nat.le_of_eq hg.symm)) hb);have n3_:=am (Kd.C_below (by repeat(first|(with_reducible exact HR453_1.out)|(with_reducible refine Kd.C_alloc ?_ _)|(with_reducible refine Kd.C_drewN ?_ _)|(with_reducible refine Kd.C_drew ?_)|exact HR453_1.out)) hb);have n4_:=am (below_step bl hb);have n5_:=am (hbox);have n6_:=am (ge_ bl hg);have n7_:=am (ge_ bl hg);clear HO_17 HO_244 HL453_1 HR453_1 HB;have HO_17:=n0_;have HO_244:=n1_;have HL453_1:=n2_;have HR453_1:=n3_;have HB:=n4_;have BK454:=n5_;have GW454:=n6_;have GE454:=n7_;clear n0_ n1_ n2_ n3_ n4_ n5_ n6_ n7_ hb hbox hg;have hcz125_0:w124.cell? ⟨gb454,0,none⟩=some (.int .i64 0):=(blk_cell BK454.out 0).trans rfl;have hcz125_1:w124.cell? ⟨gb454,1,none⟩=some (.slice none 0 0):=(blk_cell BK454.out 1).trans rfl;have hfz125_0:=blk_frozen BK454.out 0;have hfz125_1:=blk_frozen BK454.out 1)|(go_at_call 11;(with_reducible refine(laws_pIn.calls k7 _ _ ((rd_T26 t434 x246_7).f1) (Int.tmod x34_5 ((rd_T26 t434 x246_7).f0)) false _ ?side1 ?side2 A120.out).mono ?_);(case side1=>repeat(first|exact((Kd.V_reads' (by(with_reducible repeat(first|apply Kd.V_alloc|apply Kd.V_drewN|apply Kd.V_drew));exact(Kd.V_mono (Kd.V_far (p:=⟨gb454,1,none⟩) (Kd.V_far (p:=⟨gb454,0,none⟩) (Kd.V_mono HL453_1.out (fun k_ hk=>(⟨hk,hk.2⟩:_∧k_≠gb454))) (fun _ hk=>hk.2) (.int .i64 ((rd_T26 t434 x246_7).f0))) (fun _ hk=>hk.2) (.slice A453_1 ((rd_T26 t434 x246_7).f1).length c453_1)) (fun _ h_=>h_.1)))).2.2)|(with_reducible refine Kd.C_alloc ?_ _)|(with_reducible refine Kd.C_drewN ?_ _)|(with_reducible refine Kd.C_drew ?_)));(case side2=>exact HC453_1.out);rintro e w' ⟨rfl,⟨nd,rfl⟩⟩;(try first|exact⟨rfl,_,World.drewN_drewN _ _ _⟩|exact⟨rfl,_,Eq.trans (World.drewN_drewN _ _ _) (congrArg (World.drewN _) (Nat.add_assoc _ _ _))⟩)));try go_wp2_with (first|((with_reducible refine gate_dst (N:=37) rfl ?_);(try(refine gate_guard (by rfl) ?_;dsimp only));refine box_event ?hg (N:=37) ?hd (cs := #[.int .i64 0,.slice none 0 0]) (t:=26) ?hr ?_;(case hd=>rfl);(case hg=>rfl);(case hr=>first|(go_simp;done)|(go_simp;rfl));intro gb454 hg w124 hbox hb;have n0_:=am (Kd.N_below (Kd.N_elderB (by(with_reducible repeat(first|apply Kd.N_alloc|apply Kd.N_drewN|apply Kd.N_drew));exact HO_17.out) gb454 (Nat.le_of_eq hg.symm)) hb);have n1_:=am (Kd.N_below (Kd.N_elderB (by(with_reducible repeat(first|apply Kd.N_alloc|apply Kd.N_drewN|apply Kd.N_drew));exact HO_244.out) gb454 (Nat.le_of_eq hg.symm)) hb);have n2_:=am (Kd.V_below (Kd.V_elderB (by(with_reducible repeat(first|apply Kd.V_alloc|apply Kd.V_drewN|apply Kd.V_drew));exact HL453_1.out) gb454 (Nat.le_of_eq hg.symm)) hb);have n3_:=am (Kd.C_below (by repeat(first|(with_reducible exact HR453_1.out)|(with_reducible refine Kd.C_alloc ?_ _)|(with_reducible refine Kd.C_drewN ?_ _)|(with_reducible refine Kd.C_drew ?_)|exact HR453_1.out)) hb);have n4_:=am (below_step bl hb);have n5_:=am (hbox);have n6_:=am (ge_ bl hg);have n7_:=am (ge_ bl hg);clear HO_17 HO_244 HL453_1 HR453_1 HB;have HO_17:=n0_;have HO_244:=n1_;have HL453_1:=n2_;have HR453_1:=n3_;have HB:=n4_;have BK454:=n5_;have GW454:=n6_;have GE454:=n7_;clear n0_ n1_ n2_ n3_ n4_ n5_ n6_ n7_ hb hbox hg;have hcz125_0:w124.cell? ⟨gb454,0,none⟩=some (.int .i64 0):=(blk_cell BK454.out 0).trans rfl;have hcz125_1:w124.cell? ⟨gb454,1,none⟩=some (.slice none 0 0):=(blk_cell BK454.out 1).trans rfl;have hfz125_0:=blk_frozen BK454.out 0;have hfz125_1:=blk_frozen BK454.out 1)|(go_at_call 11;(with_reducible refine(laws_pIn.calls k7 _ _ ((rd_T26 t434 x246_7).f1) (Int.tmod x34_5 ((rd_T26 t434 x246_7).f0)) false _ ?side1 ?side2 A120.out).mono ?_);(case side1=>repeat(first|exact((Kd.V_reads' (by(with_reducible repeat(first|apply Kd.V_alloc|apply Kd.V_drewN|apply Kd.V_drew));exact(Kd.V_mono (Kd.V_far (p:=⟨gb454,1,none⟩) (Kd.V_far (p:=⟨gb454,0,none⟩) (Kd.V_mono HL453_1.out (fun k_ hk=>(⟨hk,hk.2⟩:_∧k_≠gb454))) (fun _ hk=>hk.2) (.int .i64 ((rd_T26 t434 x246_7).f0))) (fun _ hk=>hk.2) (.slice A453_1 ((rd_T26 t434 x246_7).f1).length c453_1)) (fun _ h_=>h_.1)))).2.2)|(with_reducible refine Kd.C_alloc ?_ _)|(with_reducible refine Kd.C_drewN ?_ _)|(with_reducible refine Kd.C_drew ?_)));(case side2=>exact HC453_1.out);rintro e w' ⟨rfl,⟨nd,rfl⟩⟩;(try first|exact⟨rfl,_,World.drewN_drewN _ _ _⟩|exact⟨rfl,_,Eq.trans (World.drewN_drewN _ _ _) (congrArg (World.drewN _) (Nat.add_assoc _ _ _))⟩))))
                                  go_roundg k7
                                  case measure=>have:=HJ7.out;have:=HJ33.out;have:=HJ78.out;have:=HK4.out;have:=HK5.out;have:=HJ112.out;have:=HK7.out;omega
                                  case rel=>exact⟨(x35_7),(wrap64 (x246_7+1)),fin2,fin2,H',⟨by have:=HJ7.out;have:=HJ33.out;have:=HJ78.out;have:=HK4.out;have:=HK5.out;have:=HJ112.out;have:=HK7.out;omega⟩,⟨by(with_reducible repeat(first|apply Kd.N_alloc|apply Kd.N_drewN|apply Kd.N_drew));exact Kd.N_mono (Kd.N_far (p:=⟨gb454,1,none⟩) (Kd.N_far (p:=⟨gb454,0,none⟩) (Kd.N_mono HO_17.out (fun k_ hk=>(⟨hk,hk.2⟩:_∧k_≠gb454))) (fun _ hk=>hk.2) (.int .i64 ((rd_T26 t434 x246_7).f0))) (fun _ hk=>hk.2) (.slice A453_1 ((rd_T26 t434 x246_7).f1).length c453_1)) (fun _ hk=>trivial)⟩,⟨by(with_reducible repeat(first|apply Kd.N_alloc|apply Kd.N_drewN|apply Kd.N_drew));exact Kd.N_mono (Kd.N_far (p:=⟨gb454,1,none⟩) (Kd.N_far (p:=⟨gb454,0,none⟩) (Kd.N_mono HO_244.out (fun k_ hk=>(⟨hk,hk.2⟩:_∧k_≠gb454))) (fun _ hk=>hk.2) (.int .i64 ((rd_T26 t434 x246_7).f0))) (fun _ hk=>hk.2) (.slice A453_1 ((rd_T26 t434 x246_7).f1).length c453_1)) (fun _ hk=>trivial)⟩,⟨bl⟩⟩
                               ·rw[if_neg c118] at H
                                exact absurd H (by simp)
                              ·rw[if_neg c117] at H
                               exact absurd H (by simp)
                             ·rw[if_neg c116] at H
                              have c116b0:decide (x246_7<(t434.length:Int))=false:=decide_eq_false c116
                              clear c116
                              by_cases c126:x35_7>t441
                              ·rw[if_pos c126] at H
                               have c126b0:decide (t441<x35_7)=true:=decide_eq_true c126
                               clear c126
                               obtain rfl:=Option.some.inj H
                               go_wp2
                               repeat(go_quiet (fail);try go_wp2)
                               go_ret
                               exact⟨fin1,bl⟩
                              ·rw[if_neg c126] at H
                               have c126b0:decide (t441<x35_7)=false:=decide_eq_false c126
                               clear c126
                               by_cases c127:x35_7=t441
                               ·rw[if_pos c127] at H
                                have c127b0:(x35_7 == t441)=true:=beq_iff_eq.mpr c127
                                have c127b1:(x35_7 != t441)=false:=bne_eq_false_iff_eq.mpr c127
                                clear c127
                                by_cases c128:x34_5<t440
                                ·rw[if_pos c128] at H
                                 have c128b0:decide (x34_5<t440)=true:=decide_eq_true c128
                                 clear c128
                                 obtain rfl:=Option.some.inj H
                                 go_wp2
                                 repeat(go_quiet (fail);try go_wp2)
                                 go_ret
                                 exact⟨fin1,bl⟩
                                ·rw[if_neg c128] at H
                                 have c128b0:decide (x34_5<t440)=false:=decide_eq_false c128
                                 clear c128
                                 by_cases c129:x34_5=t440
                                 ·rw[if_pos c129] at H
                                  have c129b0:(x34_5 == t440)=true:=beq_iff_eq.mpr c129
                                  have c129b1:(x34_5 != t440)=false:=bne_eq_false_iff_eq.mpr c129
                                  clear c129
                                  have H':=am H
                                  clear H
                                  go_wp2
                                  repeat(go_quiet (fail);try go_wp2)
                                  go_roundg k7
                                  case measure=>have:=HJ7.out;have:=HJ33.out;have:=HJ78.out;have:=HK4.out;have:=HK5.out;have:=HJ112.out;have:=HK7.out;omega
                                  case rel=>exact⟨(wrap64 (x34_5+1)),fin2,H',⟨by have:=HJ7.out;have:=HJ33.out;have:=HJ78.out;have:=HK4.out;have:=HK5.out;have:=HJ112.out;have:=HK7.out;omega⟩,⟨by(with_reducible repeat(first|apply Kd.N_alloc|apply Kd.N_drewN|apply Kd.N_drew));exact HO_17.out⟩,⟨bl⟩⟩
                                 ·rw[if_neg c129] at H
                                  have c129b0:(x34_5 == t440)=false:=beq_eq_false_iff_ne.mpr c129
                                  have c129b1:(x34_5 != t440)=true:=bne_iff_ne.mpr c129
                                  have H':=am H
                                  clear H
                                  go_wp2
                                  repeat(go_quiet (fail);try go_wp2)
                                  go_roundg k7
                                  case measure=>have:=HJ7.out;have:=HJ33.out;have:=HJ78.out;have:=HK4.out;have:=HK5.out;have:=HJ112.out;have:=HK7.out;omega
                                  case rel=>exact⟨(wrap64 (x34_5+1)),fin2,H',⟨by have:=HJ7.out;have:=HJ33.out;have:=HJ78.out;have:=HK4.out;have:=HK5.out;have:=HJ112.out;have:=HK7.out;omega⟩,⟨by(with_reducible repeat(first|apply Kd.N_alloc|apply Kd.N_drewN|apply Kd.N_drew));exact HO_17.out⟩,⟨bl⟩⟩
                               ·rw[if_neg c127] at H
                                have c127b0:(x35_7 == t441)=false:=beq_eq_false_iff_ne.mpr c127
                                have c127b1:(x35_7 != t441)=true:=bne_iff_ne.mpr c127
                                by_cases c130:x34_5=t440
                                ·rw[if_pos c130] at H
                                 have c130b0:(x34_5 == t440)=true:=beq_iff_eq.mpr c130
                                 have c130b1:(x34_5 != t440)=false:=bne_eq_false_iff_eq.mpr c130
                                 clear c130
                                 obtain rfl:=Option.some.inj H
                                 go_wp2
                                 repeat(go_quiet (fail);try go_wp2)
                                 go_ret
                                 exact⟨fin1,bl⟩
                                ·rw[if_neg c130] at H
                                 have c130b0:(x34_5 == t440)=false:=beq_eq_false_iff_ne.mpr c130
                                 have c130b1:(x34_5 != t440)=true:=bne_iff_ne.mpr c130
                                 have H':=am H
                                 clear H
                                 go_wp2
                                 repeat(go_quiet (fail);try go_wp2)
                                 go_roundg k7
                                 case measure=>have:=HJ7.out;have:=HJ33.out;have:=HJ78.out;have:=HK4.out;have:=HK5.out;have:=HJ112.out;have:=HK7.out;omega
                                 case rel=>exact⟨(wrap64 (x34_5+1)),fin2,H',⟨by have:=HJ7.out;have:=HJ33.out;have:=HJ78.out;have:=HK4.out;have:=HK5.out;have:=HJ112.out;have:=HK7.out;omega⟩,⟨by(with_reducible repeat(first|apply Kd.N_alloc|apply Kd.N_drewN|apply Kd.N_drew));exact HO_17.out⟩,⟨bl⟩⟩
                         ·replace c115:=Bool.eq_false_iff.mpr c115
                          subst c115
                          have H1:(laws_FnDrums.j9 kj112 l1)=some r:=by rw[if_neg (show ¬ (false=true) by decide)] at H;exact H
                          clear H
                          have H:=H1
                          clear H1
                          have H':=am H
                          clear H
                          go_wp2
                          repeat(go_quiet (fail);try go_wp2)
                          go_meet
                          case rel=>exact⟨_,H',⟨by have:=HJ7.out;have:=HJ33.out;have:=HJ78.out;have:=HK4.out;have:=HK5.out;have:=HJ112.out;first|omega|exact Nat.le_refl _⟩,⟨bl⟩⟩
              ·replace c103:=Bool.eq_false_iff.mpr c103
               subst c103
               have H1:(laws_FnDrums.j9 kj78 l1)=some r:=by rw[if_neg (show ¬ (false=true) by decide)] at H;exact H
               clear H
               have H:=H1
               clear H1
               have H':=am H
               clear H
               go_wp2
               repeat(go_quiet (fail);try go_wp2)
               go_meet
               case rel=>exact⟨_,H',⟨by have:=HJ7.out;have:=HJ33.out;have:=HJ78.out;first|omega|exact Nat.le_refl _⟩,⟨bl⟩⟩
             case rest =>
              as_aux_lemma =>
               clear HC102
               try clear c1
               try clear c2
               try clear p2
               try clear c3
               try clear c4
               try clear p4
               try clear q4
               try clear hx4
               try clear c5
               try clear c6
               try clear p6
               try clear c8
               try clear c9
               try clear c10
               try clear c11
               try clear c12
               try clear c13
               try clear c15
               try clear c21
               try clear c22
               try clear c25
               try clear c25b0
               try clear c25b1
               try clear c25b2
               try clear c27
               try clear c28
               try clear c30
               try clear c33
               try clear c35
               try clear c39
               try clear c40
               try clear c42
               try clear p43
               try clear q43
               try clear hx43
               try clear c45
               try clear p45
               try clear q45
               try clear hx45
               try clear c48
               try clear c49
               try clear c50
               try clear c50b0
               try clear c50b1
               try clear c51
               try clear c51b0
               try clear c52
               try clear c53
               try clear c55
               try clear c57
               try clear c58
               try clear c60
               try clear c60b0
               try clear c61
               try clear c61b0
               try clear c62
               try clear c62b0
               try clear c63
               try clear c63b0
               try clear c63b1
               try clear p64
               try clear c65
               try clear c66
               try clear c69
               try clear c88
               try clear c88b0
               try clear c88b1
               try clear c88b2
               try clear c89
               try clear c89b0
               try clear c89b1
               try clear c90
               try clear c90b0
               try clear c90b1
               try clear c91
               try clear c91b0
               try clear c91b1
               try clear c91b2
               try clear c92
               try clear c92b0
               try clear c92b1
               try clear c93
               try clear c93b0
               try clear c93b1
               try clear c93b2
               try clear c94
               try clear c94b0
               try clear c94b1
               try clear c95
               try clear c95b0
               try clear c95b1
               try clear c95b2
               try clear c96
               try clear c97
               try clear c97b0
               try clear c97b1
               try clear c97b2
               try clear c98
               try clear c99
               try clear c99b0
               try clear c99b1
               try clear c99b2
               try clear c100
               try clear c101
               try clear c103
               try clear c104
               try clear c104b0
               try clear c105
               try clear c105b0
               try clear c106
               try clear c106b0
               try clear c107
               try clear c107b0
               try clear c107b1
               try clear c108
               try clear c108b0
               try clear c108b1
               try clear c114
               try clear c114b0
               try clear c115
               try clear c116
               try clear c116b0
               try clear c117
               try clear c117b0
               try clear c118
               try clear c118b0
               try clear c119
               try clear c119b0
               try clear c119b1
               try clear c121
               try clear c126
               try clear c126b0
               try clear c127
               try clear c127b0
               try clear c127b1
               try clear c128
               try clear c128b0
               try clear c129
               try clear c129b0
               try clear c129b1
               try clear c130
               try clear c130b0
               try clear c130b1
               try clear hcz110_0
               try clear hcz110_1
               try clear hcz112_0
               try clear hcz112_1
               try clear hcz11_0
               try clear hcz11_1
               try clear hcz123_0
               try clear hcz123_1
               try clear hcz125_0
               try clear hcz125_1
               try clear hcz16_0
               try clear hcz16_1
               try clear hcz18_0
               try clear hcz18_1
               try clear hcz23_0
               try clear hcz23_1
               try clear hcz29_0
               try clear hcz29_1
               try clear hcz31_0
               try clear hcz31_1
               try clear hcz41_0
               try clear hcz41_1
               try clear hcz43_0
               try clear hcz43_1
               try clear hcz45_0
               try clear hcz45_1
               try clear hcz46_0
               try clear hcz46_1
               try clear hcz54_0
               try clear hcz54_1
               try clear hcz56_0
               try clear hcz56_1
               try clear hcz59_0
               try clear hcz59_1
               try clear hcz67_0
               try clear hcz67_1
               try clear hcz68_0
               try clear hcz68_1
               try clear hcz70_0
               try clear hcz70_1
               try clear hcz71_0
               try clear hcz71_1
               try clear hfz110_0
               try clear hfz110_1
               try clear hfz112_0
               try clear hfz112_1
               try clear hfz11_0
               try clear hfz11_1
               try clear hfz123_0
               try clear hfz123_1
               try clear hfz125_0
               try clear hfz125_1
               try clear hfz16_0
               try clear hfz16_1
               try clear hfz18_0
               try clear hfz18_1
               try clear hfz23_0
               try clear hfz23_1
               try clear hfz29_0
               try clear hfz29_1
               try clear hfz31_0
               try clear hfz31_1
               try clear hfz41_0
               try clear hfz41_1
               try clear hfz43_0
               try clear hfz43_1
               try clear hfz45_0
               try clear hfz45_1
               try clear hfz46_0
               try clear hfz46_1
               try clear hfz54_0
               try clear hfz54_1
               try clear hfz56_0
               try clear hfz56_1
               try clear hfz59_0
               try clear hfz59_1
               try clear hfz67_0
               try clear hfz67_1
               try clear hfz68_0
               try clear hfz68_1
               try clear hfz70_0
               try clear hfz70_1
               try clear hfz71_0
               try clear hfz71_1
               try clear hx432_0
               try clear hx451_0
               try clear hx451_1
               try clear hx453_0
               try clear hx453_1
               try clear p2
               try clear p4
               try clear p43
               try clear p432
               try clear p45
               try clear p451
               try clear p453
               try clear p6
               try clear p64
               try clear q4
               try clear q43
               try clear q432
               try clear q45
               try clear q451
               try clear q453
               obtain⟨kq,HA,HJ101,HB⟩:=hcut
               cases kq with
               | zero=>exact absurd HA.out (by simp [laws_FnDrums.j9])
               | succ kj101 =>
                have H:=HA.out
                clear HA
                simp only[laws_FnDrums.j9] at H
                replace H:=Option.bind_eq_some_iff.mp H
                obtain⟨⟨t456,t457,t460,t461⟩,A1310,H⟩:=H
                replace H:((impl_LeastTurn.f kj101 t456 t457 t460 t461).bind fun bt466=>((spec_LeastTurn.f kj101 t456 t457 t460 t461).bind fun bt468=>(if(bt466.2 != bt468.2)=true then(laws_FnDrums.j10 kj101 bt466.2 bt468.1 true t456 t457 t460 t461) else(laws_FnDrums.j10 kj101 bt466.2 bt468.1 (bt466.1 != bt468.1) t456 t457 t460 t461))))=some r:=H
                have A131:=am A1310
                clear A1310
                replace H:=Option.bind_eq_some_iff.mp H
                obtain⟨⟨t466,t467⟩,A1320,H⟩:=H
                replace H:((spec_LeastTurn.f kj101 t456 t457 t460 t461).bind fun bt468=>(if(t467 != bt468.2)=true then(laws_FnDrums.j10 kj101 t467 bt468.1 true t456 t457 t460 t461) else(laws_FnDrums.j10 kj101 t467 bt468.1 (t466 != bt468.1) t456 t457 t460 t461)))=some r:=H
                have A132:=am A1320
                clear A1320
                replace H:=Option.bind_eq_some_iff.mp H
                obtain⟨⟨t468,t469⟩,A1330,H⟩:=H
                replace H:(if(t467 != t469)=true then(laws_FnDrums.j10 kj101 t467 t468 true t456 t457 t460 t461) else(laws_FnDrums.j10 kj101 t467 t468 (t466 != t468) t456 t457 t460 t461))=some r:=H
                have A133:=am A1330
                clear A1330
                have HC134:=am H
                clear H
                go_upto_region 50 with(first|(go_at_call 19;(with_reducible refine(spec_DrawLeastTurn.calls kj101 _ _ l1 t456 t457 t460 t461 _ ?side1 ?side2 A131.out).mono ?_);(case side1=>exact cup (Kd.C_below HR1.out HB.out));(case side2=>exact HC1.out);rintro e w135 ⟨v458,v462,rfl,ho0,ho1,hb⟩;have n0_:=am (Kd.R_lower ho0 (below_size bl));have n1_:=am (Kd.R_lower ho1 (below_size bl));have n2_:=am (below_step bl hb);clear HB;have HO459:=n0_;have HO463:=n1_;have HB:=n2_;clear n0_ n1_ n2_;(try clear hb);(try clear hb2);(try clear hk);(try clear hi);(try clear ho0);(try clear ho1))|((with_reducible refine gate_dst (N:=38) rfl ?_);(try(refine gate_guard (by rfl) ?_;dsimp only));refine box_event ?hg (N:=38) ?hd (cs := #[.int .i64 0,.slice none 0 0]) (t:=26) ?hr ?_;(case hd=>rfl);(case hg=>rfl);(case hr=>first|(go_simp;done)|(go_simp;rfl));intro gb464 hg w136 hbox hb;have n0_:=am (Kd.R_below (rup HO459.out) hb);have n1_:=am (Kd.R_below (rup HO463.out) hb);have n2_:=am (below_step bl hb);have n3_:=am (hbox);have n4_:=am (ge_ bl hg);have n5_:=am (ge_ bl hg);clear HO459 HO463 HB;have HO459:=n0_;have HO463:=n1_;have HB:=n2_;have BK464:=n3_;have GW464:=n4_;have GE464:=n5_;clear n0_ n1_ n2_ n3_ n4_ n5_ hb hbox hg)|((with_reducible refine gate_dst (N:=39) rfl ?_);(try(refine gate_guard (by rfl) ?_;dsimp only));refine box_event ?hg (N:=39) ?hd (cs := #[.int .i64 0,.slice none 0 0]) (t:=26) ?hr ?_;(case hd=>rfl);(case hg=>rfl);(case hr=>first|(go_simp;done)|(go_simp;rfl));intro gb465 hg w137 hbox hb;have n0_:=am (Kd.R_below (rup HO459.out) hb);have n1_:=am (Kd.R_below (rup HO463.out) hb);have n2_:=am (blk_below (bup BK464.out) hb);have n3_:=am (below_step bl hb);have n4_:=am (hbox);have n5_:=am (ge_ bl hg);have n6_:=am (ge_ bl hg);have n7_:=am (nl (bup BK464.out) hg);have n8_:=am (ng (bup BK464.out) hg);clear HO459 HO463 BK464 HB;have HO459:=n0_;have HO463:=n1_;have BK464:=n2_;have HB:=n3_;have BK465:=n4_;have GW465:=n5_;have GE465:=n6_;have NB464_465:=n7_;have NB465_464:=n8_;clear n0_ n1_ n2_ n3_ n4_ n5_ n6_ n7_ n8_ hb hbox hg;have hnb138:=NB464_465.out;have hnc138:=NB465_464.out;have hcz139_0:w137.cell? ⟨gb464,0,none⟩=some (.int .i64 0):=(blk_cell BK464.out 0).trans rfl;have hcz139_1:w137.cell? ⟨gb464,1,none⟩=some (.slice none 0 0):=(blk_cell BK464.out 1).trans rfl;have hfz139_0:=blk_frozen BK464.out 0;have hfz139_1:=blk_frozen BK464.out 1;obtain⟨Ao140,co140,eo140⟩:=Kd.R_slice HO459.out;subst eo140;have hcz141_0:w137.cell? ⟨gb465,0,none⟩=some (.int .i64 0):=(blk_cell BK465.out 0).trans rfl;have hcz141_1:w137.cell? ⟨gb465,1,none⟩=some (.slice none 0 0):=(blk_cell BK465.out 1).trans rfl;have hfz141_0:=blk_frozen BK465.out 0;have hfz141_1:=blk_frozen BK465.out 1;obtain⟨Ao142,co142,eo142⟩:=Kd.R_slice HO463.out;subst eo142)|(go_at_call 9;(with_reducible refine(impl_LeastTurn.calls kj101 t456 _ _ t457 t460 _ _ t461 t466 t467 _ ?side1 ?side2 ?side3 ?side4 A132.out).mono ?_);(case side1=>refine(Kd.R_reads' (e:=3) (base:=w.heap.size) (ok:=fun k_=>some k_≠(.slice Ao142 t461.length co142:Value).ownBlock) (n:=t457.length) (c:=co140) ?_).2.2;exact(by(with_reducible repeat(first|apply Kd.R_alloc|apply Kd.R_drewN|apply Kd.R_drew));exact(Kd.R_mono (Kd.R_mono (Kd.R_far (p:=⟨gb465,1,none⟩) (Kd.R_far (p:=⟨gb465,0,none⟩) (Kd.R_far (p:=⟨gb464,1,none⟩) (Kd.R_far (p:=⟨gb464,0,none⟩) (Kd.R_types (Kd.R_types HO459.out BK464.out (by decide)) BK465.out (by decide)) (fun _ hk=>hk.1.2) (.int .i64 t456)) (fun _ hk=>hk.1.2) (.slice Ao140 t457.length co140)) (fun _ hk=>hk.2) (.int .i64 t460)) (fun _ hk=>hk.2) (.slice Ao142 t461.length co142)) (fun _ h_=>h_.1)) (fun _ h_=>h_.1))));(case side2=>exact(Kd.R_reads' HO459.out).2.1);(case side3=>refine(Kd.R_reads' (e:=3) (base:=w.heap.size) (ok:=fun k_=>some k_≠(.slice Ao140 t457.length co140:Value).ownBlock) (n:=t461.length) (c:=co142) ?_).2.2;exact(by(with_reducible repeat(first|apply Kd.R_alloc|apply Kd.R_drewN|apply Kd.R_drew));exact(Kd.R_mono (Kd.R_mono (Kd.R_far (p:=⟨gb465,1,none⟩) (Kd.R_far (p:=⟨gb465,0,none⟩) (Kd.R_far (p:=⟨gb464,1,none⟩) (Kd.R_far (p:=⟨gb464,0,none⟩) (Kd.R_types (Kd.R_types HO463.out BK464.out (by decide)) BK465.out (by decide)) (fun _ hk=>hk.1.2) (.int .i64 t456)) (fun _ hk=>hk.1.2) (.slice Ao140 t457.length co140)) (fun _ hk=>hk.2) (.int .i64 t460)) (fun _ hk=>hk.2) (.slice Ao142 t461.length co142)) (fun _ h_=>h_.1)) (fun _ h_=>h_.1))));(case side4=>exact(Kd.R_reads' HO463.out).2.1);rintro e w143 ⟨rfl,hb⟩;have n0_:=am (Kd.R_below (by(with_reducible repeat(first|apply Kd.R_alloc|apply Kd.R_drewN|apply Kd.R_drew));exact(Kd.R_mono (Kd.R_mono (Kd.R_far (p:=⟨gb465,1,none⟩) (Kd.R_far (p:=⟨gb465,0,none⟩) (Kd.R_far (p:=⟨gb464,1,none⟩) (Kd.R_far (p:=⟨gb464,0,none⟩) (Kd.R_types (Kd.R_types HO459.out BK464.out (by decide)) BK465.out (by decide)) (fun _ hk=>hk.1.2) (.int .i64 t456)) (fun _ hk=>hk.1.2) (.slice Ao140 t457.length co140)) (fun _ hk=>hk.2) (.int .i64 t460)) (fun _ hk=>hk.2) (.slice Ao142 t461.length co142)) (fun _ h_=>h_.1)) (fun _ h_=>h_.1))) hb);have n1_:=am (Kd.R_below (by(with_reducible repeat(first|apply Kd.R_alloc|apply Kd.R_drewN|apply Kd.R_drew));exact(Kd.R_mono (Kd.R_mono (Kd.R_far (p:=⟨gb465,1,none⟩) (Kd.R_far (p:=⟨gb465,0,none⟩) (Kd.R_far (p:=⟨gb464,1,none⟩) (Kd.R_far (p:=⟨gb464,0,none⟩) (Kd.R_types (Kd.R_types HO463.out BK464.out (by decide)) BK465.out (by decide)) (fun _ hk=>hk.1.2) (.int .i64 t456)) (fun _ hk=>hk.1.2) (.slice Ao140 t457.length co140)) (fun _ hk=>hk.2) (.int .i64 t460)) (fun _ hk=>hk.2) (.slice Ao142 t461.length co142)) (fun _ h_=>h_.1)) (fun _ h_=>h_.1))) hb);have n2_:=am (blk_below (g:=gb464) (o := .cells #[.int .i64 t456,.slice Ao140 t457.length co140] 26 (0,0)) (by(with_reducible repeat(first|refine bN_ ?_ _|refine bD_ ?_|refine bA_ ?_ _));refine blk_far ?_ NB464_465.out _;(with_reducible repeat(first|refine bN_ ?_ _|refine bD_ ?_|refine bA_ ?_ _));refine blk_far ?_ NB464_465.out _;(with_reducible repeat(first|refine bN_ ?_ _|refine bD_ ?_|refine bA_ ?_ _));refine blk_put (cs := #[.int .i64 t456,.slice none 0 0]) ?_ 1 _ rfl;(with_reducible repeat(first|refine bN_ ?_ _|refine bD_ ?_|refine bA_ ?_ _));refine blk_put (cs := #[.int .i64 0,.slice none 0 0]) ?_ 0 _ rfl;exact bup BK464.out) hb);have n3_:=am (blk_below (g:=gb465) (o := .cells #[.int .i64 t460,.slice Ao142 t461.length co142] 26 (0,0)) (by(with_reducible repeat(first|refine bN_ ?_ _|refine bD_ ?_|refine bA_ ?_ _));refine blk_put (cs := #[.int .i64 t460,.slice none 0 0]) ?_ 1 _ rfl;(with_reducible repeat(first|refine bN_ ?_ _|refine bD_ ?_|refine bA_ ?_ _));refine blk_put (cs := #[.int .i64 0,.slice none 0 0]) ?_ 0 _ rfl;(with_reducible repeat(first|refine bN_ ?_ _|refine bD_ ?_|refine bA_ ?_ _));refine blk_far ?_ NB465_464.out _;(with_reducible repeat(first|refine bN_ ?_ _|refine bD_ ?_|refine bA_ ?_ _));refine blk_far ?_ NB465_464.out _;exact bup BK465.out) hb);have n4_:=am (below_step bl hb);clear HO459 HO463 BK464 BK465 HB;have HO459:=n0_;have HO463:=n1_;have BK464:=n2_;have BK465:=n3_;have HB:=n4_;clear n0_ n1_ n2_ n3_ n4_;(try clear hb);(try clear hb2);(try clear hk);(try clear hi);have hcz144_0:w143.cell? ⟨gb464,0,none⟩=some (.int .i64 t456):=(blk_cell BK464.out 0).trans rfl;have hcz144_1:w143.cell? ⟨gb464,1,none⟩=some (.slice Ao140 t457.length co140):=(blk_cell BK464.out 1).trans rfl;have hfz144_0:=blk_frozen BK464.out 0;have hfz144_1:=blk_frozen BK464.out 1;have hcz145_0:w143.cell? ⟨gb465,0,none⟩=some (.int .i64 t460):=(blk_cell BK465.out 0).trans rfl;have hcz145_1:w143.cell? ⟨gb465,1,none⟩=some (.slice Ao142 t461.length co142):=(blk_cell BK465.out 1).trans rfl;have hfz145_0:=blk_frozen BK465.out 0;have hfz145_1:=blk_frozen BK465.out 1)|(go_at_call 10;(with_reducible refine(spec_LeastTurn.calls kj101 t456 _ _ t457 t460 _ _ t461 t468 t469 _ ?side1 ?side2 ?side3 ?side4 A133.out).mono ?_);(case side1=>repeat(first|exact(Kd.R_reads' HO459.out).2.2|(with_reducible refine Kd.C_alloc ?_ _)|(with_reducible refine Kd.C_drewN ?_ _)|(with_reducible refine Kd.C_drew ?_)));(case side2=>exact(Kd.R_reads' HO459.out).2.1);(case side3=>repeat(first|exact(Kd.R_reads' HO463.out).2.2|(with_reducible refine Kd.C_alloc ?_ _)|(with_reducible refine Kd.C_drewN ?_ _)|(with_reducible refine Kd.C_drew ?_)));(case side4=>exact(Kd.R_reads' HO463.out).2.1);rintro e w146 ⟨rfl,hb⟩;have n0_:=am (Kd.R_below (rup HO459.out) hb);have n1_:=am (Kd.R_below (rup HO463.out) hb);have n2_:=am (blk_below (bup BK464.out) hb);have n3_:=am (blk_below (bup BK465.out) hb);have n4_:=am (below_step bl hb);clear HO459 HO463 BK464 BK465 HB;have HO459:=n0_;have HO463:=n1_;have BK464:=n2_;have BK465:=n3_;have HB:=n4_;clear n0_ n1_ n2_ n3_ n4_;(try clear hb);(try clear hb2);(try clear hk);(try clear hi)))
                repeat(go_quiet (first|(go_at_call 19;(with_reducible refine(spec_DrawLeastTurn.calls kj101 _ _ l1 t456 t457 t460 t461 _ ?side1 ?side2 A131.out).mono ?_);(case side1=>exact cup (Kd.C_below HR1.out HB.out));(case side2=>exact HC1.out);rintro e w135 ⟨v458,v462,rfl,ho0,ho1,hb⟩;have n0_:=am (Kd.R_lower ho0 (below_size bl));have n1_:=am (Kd.R_lower ho1 (below_size bl));have n2_:=am (below_step bl hb);clear HB;have HO459:=n0_;have HO463:=n1_;have HB:=n2_;clear n0_ n1_ n2_;(try clear hb);(try clear hb2);(try clear hk);(try clear hi);(try clear ho0);(try clear ho1))|((with_reducible refine gate_dst (N:=38) rfl ?_);(try(refine gate_guard (by rfl) ?_;dsimp only));refine box_event ?hg (N:=38) ?hd (cs := #[.int .i64 0,.slice none 0 0]) (t:=26) ?hr ?_;(case hd=>rfl);(case hg=>rfl);(case hr=>first|(go_simp;done)|(go_simp;rfl));intro gb464 hg w136 hbox hb;have n0_:=am (Kd.R_below (rup HO459.out) hb);have n1_:=am (Kd.R_below (rup HO463.out) hb);have n2_:=am (below_step bl hb);have n3_:=am (hbox);have n4_:=am (ge_ bl hg);have n5_:=am (ge_ bl hg);clear HO459 HO463 HB;have HO459:=n0_;have HO463:=n1_;have HB:=n2_;have BK464:=n3_;have GW464:=n4_;have GE464:=n5_;clear n0_ n1_ n2_ n3_ n4_ n5_ hb hbox hg)|((with_reducible refine gate_dst (N:=39) rfl ?_);(try(refine gate_guard (by rfl) ?_;dsimp only));refine box_event ?hg (N:=39) ?hd (cs := #[.int .i64 0,.slice none 0 0]) (t:=26) ?hr ?_;(case hd=>rfl);(case hg=>rfl);(case hr=>first|(go_simp;done)|(go_simp;rfl));intro gb465 hg w137 hbox hb;have n0_:=am (Kd.R_below (rup HO459.out) hb);have n1_:=am (Kd.R_below (rup HO463.out) hb);have n2_:=am (blk_below (bup BK464.out) hb);have n3_:=am (below_step bl hb);have n4_:=am (hbox);have n5_:=am (ge_ bl hg);have n6_:=am (ge_ bl hg);have n7_:=am (nl (bup BK464.out) hg);have n8_:=am (ng (bup BK464.out) hg);clear HO459 HO463 BK464 HB;have HO459:=n0_;have HO463:=n1_;have BK464:=n2_;have HB:=n3_;have BK465:=n4_;have GW465:=n5_;have GE465:=n6_;have NB464_465:=n7_;have NB465_464:=n8_;clear n0_ n1_ n2_ n3_ n4_ n5_ n6_ n7_ n8_ hb hbox hg;have hnb138:=NB464_465.out;have hnc138:=NB465_464.out;have hcz139_0:w137.cell? ⟨gb464,0,none⟩=some (.int .i64 0):=(blk_cell BK464.out 0).trans rfl;have hcz139_1:w137.cell? ⟨gb464,1,none⟩=some (.slice none 0 0):=(blk_cell BK464.out 1).trans rfl;have hfz139_0:=blk_frozen BK464.out 0;have hfz139_1:=blk_frozen BK464.out 1;obtain⟨Ao140,co140,eo140⟩:=Kd.R_slice HO459.out;subst eo140;have hcz141_0:w137.cell? ⟨gb465,0,none⟩=some (.int .i64 0):=(blk_cell BK465.out 0).trans rfl;have hcz141_1:w137.cell? ⟨gb465,1,none⟩=some (.slice none 0 0):=(blk_cell BK465.out 1).trans rfl;have hfz141_0:=blk_frozen BK465.out 0;have hfz141_1:=blk_frozen BK465.out 1;obtain⟨Ao142,co142,eo142⟩:=Kd.R_slice HO463.out;subst eo142)|(go_at_call 9;(with_reducible refine(impl_LeastTurn.calls kj101 t456 _ _ t457 t460 _ _ t461 t466 t467 _ ?side1 ?side2 ?side3 ?side4 A132.out).mono ?_);(case side1=>refine(Kd.R_reads' (e:=3) (base:=w.heap.size) (ok:=fun k_=>some k_≠(.slice Ao142 t461.length co142:Value).ownBlock) (n:=t457.length) (c:=co140) ?_).2.2;exact(by(with_reducible repeat(first|apply Kd.R_alloc|apply Kd.R_drewN|apply Kd.R_drew));exact(Kd.R_mono (Kd.R_mono (Kd.R_far (p:=⟨gb465,1,none⟩) (Kd.R_far (p:=⟨gb465,0,none⟩) (Kd.R_far (p:=⟨gb464,1,none⟩) (Kd.R_far (p:=⟨gb464,0,none⟩) (Kd.R_types (Kd.R_types HO459.out BK464.out (by decide)) BK465.out (by decide)) (fun _ hk=>hk.1.2) (.int .i64 t456)) (fun _ hk=>hk.1.2) (.slice Ao140 t457.length co140)) (fun _ hk=>hk.2) (.int .i64 t460)) (fun _ hk=>hk.2) (.slice Ao142 t461.length co142)) (fun _ h_=>h_.1)) (fun _ h_=>h_.1))));(case side2=>exact(Kd.R_reads' HO459.out).2.1);(case side3=>refine(Kd.R_reads' (e:=3) (base:=w.heap.size) (ok:=fun k_=>some k_≠(.slice Ao140 t457.length co140:Value).ownBlock) (n:=t461.length) (c:=co142) ?_).2.2;exact(by(with_reducible repeat(first|apply Kd.R_alloc|apply Kd.R_drewN|apply Kd.R_drew));exact(Kd.R_mono (Kd.R_mono (Kd.R_far (p:=⟨gb465,1,none⟩) (Kd.R_far (p:=⟨gb465,0,none⟩) (Kd.R_far (p:=⟨gb464,1,none⟩) (Kd.R_far (p:=⟨gb464,0,none⟩) (Kd.R_types (Kd.R_types HO463.out BK464.out (by decide)) BK465.out (by decide)) (fun _ hk=>hk.1.2) (.int .i64 t456)) (fun _ hk=>hk.1.2) (.slice Ao140 t457.length co140)) (fun _ hk=>hk.2) (.int .i64 t460)) (fun _ hk=>hk.2) (.slice Ao142 t461.length co142)) (fun _ h_=>h_.1)) (fun _ h_=>h_.1))));(case side4=>exact(Kd.R_reads' HO463.out).2.1);rintro e w143 ⟨rfl,hb⟩;have n0_:=am (Kd.R_below (by(with_reducible repeat(first|apply Kd.R_alloc|apply Kd.R_drewN|apply Kd.R_drew));exact(Kd.R_mono (Kd.R_mono (Kd.R_far (p:=⟨gb465,1,none⟩) (Kd.R_far (p:=⟨gb465,0,none⟩) (Kd.R_far (p:=⟨gb464,1,none⟩) (Kd.R_far (p:=⟨gb464,0,none⟩) (Kd.R_types (Kd.R_types HO459.out BK464.out (by decide)) BK465.out (by decide)) (fun _ hk=>hk.1.2) (.int .i64 t456)) (fun _ hk=>hk.1.2) (.slice Ao140 t457.length co140)) (fun _ hk=>hk.2) (.int .i64 t460)) (fun _ hk=>hk.2) (.slice Ao142 t461.length co142)) (fun _ h_=>h_.1)) (fun _ h_=>h_.1))) hb);have n1_:=am (Kd.R_below (by(with_reducible repeat(first|apply Kd.R_alloc|apply Kd.R_drewN|apply Kd.R_drew));exact(Kd.R_mono (Kd.R_mono (Kd.R_far (p:=⟨gb465,1,none⟩) (Kd.R_far (p:=⟨gb465,0,none⟩) (Kd.R_far (p:=⟨gb464,1,none⟩) (Kd.R_far (p:=⟨gb464,0,none⟩) (Kd.R_types (Kd.R_types HO463.out BK464.out (by decide)) BK465.out (by decide)) (fun _ hk=>hk.1.2) (.int .i64 t456)) (fun _ hk=>hk.1.2) (.slice Ao140 t457.length co140)) (fun _ hk=>hk.2) (.int .i64 t460)) (fun _ hk=>hk.2) (.slice Ao142 t461.length co142)) (fun _ h_=>h_.1)) (fun _ h_=>h_.1))) hb);have n2_:=am (blk_below (g:=gb464) (o := .cells #[.int .i64 t456,.slice Ao140 t457.length co140] 26 (0,0)) (by(with_reducible repeat(first|refine bN_ ?_ _|refine bD_ ?_|refine bA_ ?_ _));refine blk_far ?_ NB464_465.out _;(with_reducible repeat(first|refine bN_ ?_ _|refine bD_ ?_|refine bA_ ?_ _));refine blk_far ?_ NB464_465.out _;(with_reducible repeat(first|refine bN_ ?_ _|refine bD_ ?_|refine bA_ ?_ _));refine blk_put (cs := #[.int .i64 t456,.slice none 0 0]) ?_ 1 _ rfl;(with_reducible repeat(first|refine bN_ ?_ _|refine bD_ ?_|refine bA_ ?_ _));refine blk_put (cs := #[.int .i64 0,.slice none 0 0]) ?_ 0 _ rfl;exact bup BK464.out) hb);have n3_:=am (blk_below (g:=gb465) (o := .cells #[.int .i64 t460,.slice Ao142 t461.length co142] 26 (0,0)) (by(with_reducible repeat(first|refine bN_ ?_ _|refine bD_ ?_|refine bA_ ?_ _));refine blk_put (cs := #[.int .i64 t460,.slice none 0 0]) ?_ 1 _ rfl;(with_reducible repeat(first|refine bN_ ?_ _|refine bD_ ?_|refine bA_ ?_ _));refine blk_put (cs := #[.int .i64 0,.slice none 0 0]) ?_ 0 _ rfl;(with_reducible repeat(first|refine bN_ ?_ _|refine bD_ ?_|refine bA_ ?_ _));refine blk_far ?_ NB465_464.out _;(with_reducible repeat(first|refine bN_ ?_ _|refine bD_ ?_|refine bA_ ?_ _));refine blk_far ?_ NB465_464.out _;exact bup BK465.out) hb);have n4_:=am (below_step bl hb);clear HO459 HO463 BK464 BK465 HB;have HO459:=n0_;have HO463:=n1_;have BK464:=n2_;have BK465:=n3_;have HB:=n4_;clear n0_ n1_ n2_ n3_ n4_;(try clear hb);(try clear hb2);(try clear hk);(try clear hi);have hcz144_0:w143.cell? ⟨gb464,0,none⟩=some (.int .i64 t456):=(blk_cell BK464.out 0).trans rfl;have hcz144_1:w143.cell? ⟨gb464,1,none⟩=some (.slice Ao140 t457.length co140):=(blk_cell BK464.out 1).trans rfl;have hfz144_0:=blk_frozen BK464.out 0;have hfz144_1:=blk_frozen BK464.out 1;have hcz145_0:w143.cell? ⟨gb465,0,none⟩=some (.int .i64 t460):=(blk_cell BK465.out 0).trans rfl;have hcz145_1:w143.cell? ⟨gb465,1,none⟩=some (.slice Ao142 t461.length co142):=(blk_cell BK465.out 1).trans rfl;have hfz145_0:=blk_frozen BK465.out 0;have hfz145_1:=blk_frozen BK465.out 1)|(go_at_call 10;(with_reducible refine(spec_LeastTurn.calls kj101 t456 _ _ t457 t460 _ _ t461 t468 t469 _ ?side1 ?side2 ?side3 ?side4 A133.out).mono ?_);(case side1=>repeat(first|exact(Kd.R_reads' HO459.out).2.2|(with_reducible refine Kd.C_alloc ?_ _)|(with_reducible refine Kd.C_drewN ?_ _)|(with_reducible refine Kd.C_drew ?_)));(case side2=>exact(Kd.R_reads' HO459.out).2.1);(case side3=>repeat(first|exact(Kd.R_reads' HO463.out).2.2|(with_reducible refine Kd.C_alloc ?_ _)|(with_reducible refine Kd.C_drewN ?_ _)|(with_reducible refine Kd.C_drew ?_)));(case side4=>exact(Kd.R_reads' HO463.out).2.1);rintro e w146 ⟨rfl,hb⟩;have n0_:=am (Kd.R_below (rup HO459.out) hb);have n1_:=am (Kd.R_below (rup HO463.out) hb);have n2_:=am (blk_below (bup BK464.out) hb);have n3_:=am (blk_below (bup BK465.out) hb);have n4_:=am (below_step bl hb);clear HO459 HO463 BK464 BK465 HB;have HO459:=n0_;have HO463:=n1_;have BK464:=n2_;have BK465:=n3_;have HB:=n4_;clear n0_ n1_ n2_ n3_ n4_;(try clear hb);(try clear hb2);(try clear hk);(try clear hi)));go_upto_region 50 with(first|(go_at_call 19;(with_reducible refine(spec_DrawLeastTurn.calls kj101 _ _ l1 t456 t457 t460 t461 _ ?side1 ?side2 A131.out).mono ?_);(case side1=>exact cup (Kd.C_below HR1.out HB.out));(case side2=>exact HC1.out);rintro e w135 ⟨v458,v462,rfl,ho0,ho1,hb⟩;have n0_:=am (Kd.R_lower ho0 (below_size bl));have n1_:=am (Kd.R_lower ho1 (below_size bl));have n2_:=am (below_step bl hb);clear HB;have HO459:=n0_;have HO463:=n1_;have HB:=n2_;clear n0_ n1_ n2_;(try clear hb);(try clear hb2);(try clear hk);(try clear hi);(try clear ho0);(try clear ho1))|((with_reducible refine gate_dst (N:=38) rfl ?_);(try(refine gate_guard (by rfl) ?_;dsimp only));refine box_event ?hg (N:=38) ?hd (cs := #[.int .i64 0,.slice none 0 0]) (t:=26) ?hr ?_;(case hd=>rfl);(case hg=>rfl);(case hr=>first|(go_simp;done)|(go_simp;rfl));intro gb464 hg w136 hbox hb;have n0_:=am (Kd.R_below (rup HO459.out) hb);have n1_:=am (Kd.R_below (rup HO463.out) hb);have n2_:=am (below_step bl hb);have n3_:=am (hbox);have n4_:=am (ge_ bl hg);have n5_:=am (ge_ bl hg);clear HO459 HO463 HB;have HO459:=n0_;have HO463:=n1_;have HB:=n2_;have BK464:=n3_;have GW464:=n4_;have GE464:=n5_;clear n0_ n1_ n2_ n3_ n4_ n5_ hb hbox hg)|((with_reducible refine gate_dst (N:=39) rfl ?_);(try(refine gate_guard (by rfl) ?_;dsimp only));refine box_event ?hg (N:=39) ?hd (cs := #[.int .i64 0,.slice none 0 0]) (t:=26) ?hr ?_;(case hd=>rfl);(case hg=>rfl);(case hr=>first|(go_simp;done)|(go_simp;rfl));intro gb465 hg w137 hbox hb;have n0_:=am (Kd.R_below (rup HO459.out) hb);have n1_:=am (Kd.R_below (rup HO463.out) hb);have n2_:=am (blk_below (bup BK464.out) hb);have n3_:=am (below_step bl hb);have n4_:=am (hbox);have n5_:=am (ge_ bl hg);have n6_:=am (ge_ bl hg);have n7_:=am (nl (bup BK464.out) hg);have n8_:=am (ng (bup BK464.out) hg);clear HO459 HO463 BK464 HB;have HO459:=n0_;have HO463:=n1_;have BK464:=n2_;have HB:=n3_;have BK465:=n4_;have GW465:=n5_;have GE465:=n6_;have NB464_465:=n7_;have NB465_464:=n8_;clear n0_ n1_ n2_ n3_ n4_ n5_ n6_ n7_ n8_ hb hbox hg;have hnb138:=NB464_465.out;have hnc138:=NB465_464.out;have hcz139_0:w137.cell? ⟨gb464,0,none⟩=some (.int .i64 0):=(blk_cell BK464.out 0).trans rfl;have hcz139_1:w137.cell? ⟨gb464,1,none⟩=some (.slice none 0 0):=(blk_cell BK464.out 1).trans rfl;have hfz139_0:=blk_frozen BK464.out 0;have hfz139_1:=blk_frozen BK464.out 1;obtain⟨Ao140,co140,eo140⟩:=Kd.R_slice HO459.out;subst eo140;have hcz141_0:w137.cell? ⟨gb465,0,none⟩=some (.int .i64 0):=(blk_cell BK465.out 0).trans rfl;have hcz141_1:w137.cell? ⟨gb465,1,none⟩=some (.slice none 0 0):=(blk_cell BK465.out 1).trans rfl;have hfz141_0:=blk_frozen BK465.out 0;have hfz141_1:=blk_frozen BK465.out 1;obtain⟨Ao142,co142,eo142⟩:=Kd.R_slice HO463.out;subst eo142)|(go_at_call 9;(with_reducible refine(impl_LeastTurn.calls kj101 t456 _ _ t457 t460 _ _ t461 t466 t467 _ ?side1 ?side2 ?side3 ?side4 A132.out).mono ?_);(case side1=>refine(Kd.R_reads' (e:=3) (base:=w.heap.size) (ok:=fun k_=>some k_≠(.slice Ao142 t461.length co142:Value).ownBlock) (n:=t457.length) (c:=co140) ?_).2.2;exact(by(with_reducible repeat(first|apply Kd.R_alloc|apply Kd.R_drewN|apply Kd.R_drew));exact(Kd.R_mono (Kd.R_mono (Kd.R_far (p:=⟨gb465,1,none⟩) (Kd.R_far (p:=⟨gb465,0,none⟩) (Kd.R_far (p:=⟨gb464,1,none⟩) (Kd.R_far (p:=⟨gb464,0,none⟩) (Kd.R_types (Kd.R_types HO459.out BK464.out (by decide)) BK465.out (by decide)) (fun _ hk=>hk.1.2) (.int .i64 t456)) (fun _ hk=>hk.1.2) (.slice Ao140 t457.length co140)) (fun _ hk=>hk.2) (.int .i64 t460)) (fun _ hk=>hk.2) (.slice Ao142 t461.length co142)) (fun _ h_=>h_.1)) (fun _ h_=>h_.1))));(case side2=>exact(Kd.R_reads' HO459.out).2.1);(case side3=>refine(Kd.R_reads' (e:=3) (base:=w.heap.size) (ok:=fun k_=>some k_≠(.slice Ao140 t457.length co140:Value).ownBlock) (n:=t461.length) (c:=co142) ?_).2.2;exact(by(with_reducible repeat(first|apply Kd.R_alloc|apply Kd.R_drewN|apply Kd.R_drew));exact(Kd.R_mono (Kd.R_mono (Kd.R_far (p:=⟨gb465,1,none⟩) (Kd.R_far (p:=⟨gb465,0,none⟩) (Kd.R_far (p:=⟨gb464,1,none⟩) (Kd.R_far (p:=⟨gb464,0,none⟩) (Kd.R_types (Kd.R_types HO463.out BK464.out (by decide)) BK465.out (by decide)) (fun _ hk=>hk.1.2) (.int .i64 t456)) (fun _ hk=>hk.1.2) (.slice Ao140 t457.length co140)) (fun _ hk=>hk.2) (.int .i64 t460)) (fun _ hk=>hk.2) (.slice Ao142 t461.length co142)) (fun _ h_=>h_.1)) (fun _ h_=>h_.1))));(case side4=>exact(Kd.R_reads' HO463.out).2.1);rintro e w143 ⟨rfl,hb⟩;have n0_:=am (Kd.R_below (by(with_reducible repeat(first|apply Kd.R_alloc|apply Kd.R_drewN|apply Kd.R_drew));exact(Kd.R_mono (Kd.R_mono (Kd.R_far (p:=⟨gb465,1,none⟩) (Kd.R_far (p:=⟨gb465,0,none⟩) (Kd.R_far (p:=⟨gb464,1,none⟩) (Kd.R_far (p:=⟨gb464,0,none⟩) (Kd.R_types (Kd.R_types HO459.out BK464.out (by decide)) BK465.out (by decide)) (fun _ hk=>hk.1.2) (.int .i64 t456)) (fun _ hk=>hk.1.2) (.slice Ao140 t457.length co140)) (fun _ hk=>hk.2) (.int .i64 t460)) (fun _ hk=>hk.2) (.slice Ao142 t461.length co142)) (fun _ h_=>h_.1)) (fun _ h_=>h_.1))) hb);have n1_:=am (Kd.R_below (by(with_reducible repeat(first|apply Kd.R_alloc|apply Kd.R_drewN|apply Kd.R_drew));exact(Kd.R_mono (Kd.R_mono (Kd.R_far (p:=⟨gb465,1,none⟩) (Kd.R_far (p:=⟨gb465,0,none⟩) (Kd.R_far (p:=⟨gb464,1,none⟩) (Kd.R_far (p:=⟨gb464,0,none⟩) (Kd.R_types (Kd.R_types HO463.out BK464.out (by decide)) BK465.out (by decide)) (fun _ hk=>hk.1.2) (.int .i64 t456)) (fun _ hk=>hk.1.2) (.slice Ao140 t457.length co140)) (fun _ hk=>hk.2) (.int .i64 t460)) (fun _ hk=>hk.2) (.slice Ao142 t461.length co142)) (fun _ h_=>h_.1)) (fun _ h_=>h_.1))) hb);have n2_:=am (blk_below (g:=gb464) (o := .cells #[.int .i64 t456,.slice Ao140 t457.length co140] 26 (0,0)) (by(with_reducible repeat(first|refine bN_ ?_ _|refine bD_ ?_|refine bA_ ?_ _));refine blk_far ?_ NB464_465.out _;(with_reducible repeat(first|refine bN_ ?_ _|refine bD_ ?_|refine bA_ ?_ _));refine blk_far ?_ NB464_465.out _;(with_reducible repeat(first|refine bN_ ?_ _|refine bD_ ?_|refine bA_ ?_ _));refine blk_put (cs := #[.int .i64 t456,.slice none 0 0]) ?_ 1 _ rfl;(with_reducible repeat(first|refine bN_ ?_ _|refine bD_ ?_|refine bA_ ?_ _));refine blk_put (cs := #[.int .i64 0,.slice none 0 0]) ?_ 0 _ rfl;exact bup BK464.out) hb);have n3_:=am (blk_below (g:=gb465) (o := .cells #[.int .i64 t460,.slice Ao142 t461.length co142] 26 (0,0)) (by(with_reducible repeat(first|refine bN_ ?_ _|refine bD_ ?_|refine bA_ ?_ _));refine blk_put (cs := #[.int .i64 t460,.slice none 0 0]) ?_ 1 _ rfl;(with_reducible repeat(first|refine bN_ ?_ _|refine bD_ ?_|refine bA_ ?_ _));refine blk_put (cs := #[.int .i64 0,.slice none 0 0]) ?_ 0 _ rfl;(with_reducible repeat(first|refine bN_ ?_ _|refine bD_ ?_|refine bA_ ?_ _));refine blk_far ?_ NB465_464.out _;(with_reducible repeat(first|refine bN_ ?_ _|refine bD_ ?_|refine bA_ ?_ _));refine blk_far ?_ NB465_464.out _;exact bup BK465.out) hb);have n4_:=am (below_step bl hb);clear HO459 HO463 BK464 BK465 HB;have HO459:=n0_;have HO463:=n1_;have BK464:=n2_;have BK465:=n3_;have HB:=n4_;clear n0_ n1_ n2_ n3_ n4_;(try clear hb);(try clear hb2);(try clear hk);(try clear hi);have hcz144_0:w143.cell? ⟨gb464,0,none⟩=some (.int .i64 t456):=(blk_cell BK464.out 0).trans rfl;have hcz144_1:w143.cell? ⟨gb464,1,none⟩=some (.slice Ao140 t457.length co140):=(blk_cell BK464.out 1).trans rfl;have hfz144_0:=blk_frozen BK464.out 0;have hfz144_1:=blk_frozen BK464.out 1;have hcz145_0:w143.cell? ⟨gb465,0,none⟩=some (.int .i64 t460):=(blk_cell BK465.out 0).trans rfl;have hcz145_1:w143.cell? ⟨gb465,1,none⟩=some (.slice Ao142 t461.length co142):=(blk_cell BK465.out 1).trans rfl;have hfz145_0:=blk_frozen BK465.out 0;have hfz145_1:=blk_frozen BK465.out 1)|(go_at_call 10;(with_reducible refine(spec_LeastTurn.calls kj101 t456 _ _ t457 t460 _ _ t461 t468 t469 _ ?side1 ?side2 ?side3 ?side4 A133.out).mono ?_);(case side1=>repeat(first|exact(Kd.R_reads' HO459.out).2.2|(with_reducible refine Kd.C_alloc ?_ _)|(with_reducible refine Kd.C_drewN ?_ _)|(with_reducible refine Kd.C_drew ?_)));(case side2=>exact(Kd.R_reads' HO459.out).2.1);(case side3=>repeat(first|exact(Kd.R_reads' HO463.out).2.2|(with_reducible refine Kd.C_alloc ?_ _)|(with_reducible refine Kd.C_drewN ?_ _)|(with_reducible refine Kd.C_drew ?_)));(case side4=>exact(Kd.R_reads' HO463.out).2.1);rintro e w146 ⟨rfl,hb⟩;have n0_:=am (Kd.R_below (rup HO459.out) hb);have n1_:=am (Kd.R_below (rup HO463.out) hb);have n2_:=am (blk_below (bup BK464.out) hb);have n3_:=am (blk_below (bup BK465.out) hb);have n4_:=am (below_step bl hb);clear HO459 HO463 BK464 BK465 HB;have HO459:=n0_;have HO463:=n1_;have BK464:=n2_;have BK465:=n3_;have HB:=n4_;clear n0_ n1_ n2_ n3_ n4_;(try clear hb);(try clear hb2);(try clear hk);(try clear hi))))
                (try simp only[Act.put,List.setIfInBounds_toArray,List.set_cons_zero,List.set_cons_succ])
                go_cut [307] (fun v307 wc=>∃(kq:Nat) (x307_133:Bool),v307 = .bool x307_133∧Aside0 (laws_FnDrums.j10 kq t467 t468 x307_133 t456 t457 t460 t461=some r)∧Aside0 (kq≤kj101)∧Aside0 (Kd.R (Kd.int .i64) 3 wc w.heap.size (fun k_=>some k_≠((.slice Ao142 t461.length co142):Value).ownBlock) (.slice Ao140 t457.length co140) t457)∧Aside0 (Kd.R (Kd.int .i64) 3 wc w.heap.size (fun k_=>some k_≠((.slice Ao140 t457.length co140):Value).ownBlock) (.slice Ao142 t461.length co142) t461)∧Aside0 (wc.heap[gb464]?=some (.cells #[.int .i64 t456,(.slice Ao140 t457.length co140)] 26 (0,0)))∧Aside0 (wc.heap[gb465]?=some (.cells #[.int .i64 t460,(.slice Ao142 t461.length co142)] 26 (0,0)))∧Aside0 (Below w.heap.size w wc))
                case first =>
                 have H:=HC134.out
                 clear HC134
                 by_cases c147:(t467 != t469)=true
                 ·rw[if_pos c147] at H
                  have c147b0:(t467 != t469)=true:=c147
                  (try(have c147b1:decide (t467=t469)=false:=by simpa using c147))
                  (try(have c147b2:(t467 == t469)=false:=by simpa using c147))
                  (try(have c147b3:¬ (t467=t469):=by simpa using c147))
                  clear c147
                  (first|rw[c147b0]|(simp only[i64_w,i32_w];rw[c147b0])|skip)
                  exact absurd hrt.out (laws_FnDrums.j10_dead H)
                 ·rw[if_neg c147] at H
                  have c147b0:(t467 != t469)=false:=by simpa using c147
                  (try(have c147b1:decide (t467=t469)=true:=by simpa using c147))
                  (try(have c147b2:(t467 == t469)=true:=by simpa using c147))
                  clear c147
                  (first|rw[c147b0]|(simp only[i64_w,i32_w];rw[c147b0])|skip)
                  have H':=am H
                  clear H
                  go_wp2
                  repeat(go_quiet (fail);try go_wp2)
                  go_meet
                  case rel=>exact⟨_,((t466 != t468)),fin2,H',⟨by have:=HJ7.out;have:=HJ33.out;have:=HJ78.out;have:=HJ101.out;first|omega|exact Nat.le_refl _⟩,⟨rup HO459.out⟩,⟨rup HO463.out⟩,⟨bup BK464.out⟩,⟨bup BK465.out⟩,⟨bl⟩⟩
                case rest =>
                 as_aux_lemma =>
                  clear HC134
                  try clear c1
                  try clear c2
                  try clear p2
                  try clear c3
                  try clear c4
                  try clear p4
                  try clear q4
                  try clear hx4
                  try clear c5
                  try clear c6
                  try clear p6
                  try clear c8
                  try clear c9
                  try clear c10
                  try clear c11
                  try clear c12
                  try clear c13
                  try clear c14
                  try clear c15
                  try clear c21
                  try clear c22
                  try clear c25
                  try clear c25b0
                  try clear c25b1
                  try clear c25b2
                  try clear c27
                  try clear c28
                  try clear c30
                  try clear c33
                  try clear c35
                  try clear c39
                  try clear c40
                  try clear c42
                  try clear p43
                  try clear q43
                  try clear hx43
                  try clear c45
                  try clear p45
                  try clear q45
                  try clear hx45
                  try clear c48
                  try clear c49
                  try clear c50
                  try clear c50b0
                  try clear c50b1
                  try clear c51
                  try clear c51b0
                  try clear c52
                  try clear c53
                  try clear c55
                  try clear c57
                  try clear c58
                  try clear c60
                  try clear c60b0
                  try clear c61
                  try clear c61b0
                  try clear c62
                  try clear c62b0
                  try clear c63
                  try clear c63b0
                  try clear c63b1
                  try clear p64
                  try clear c65
                  try clear c66
                  try clear c69
                  try clear c88
                  try clear c88b0
                  try clear c88b1
                  try clear c88b2
                  try clear c89
                  try clear c89b0
                  try clear c89b1
                  try clear c90
                  try clear c90b0
                  try clear c90b1
                  try clear c91
                  try clear c91b0
                  try clear c91b1
                  try clear c91b2
                  try clear c92
                  try clear c92b0
                  try clear c92b1
                  try clear c93
                  try clear c93b0
                  try clear c93b1
                  try clear c93b2
                  try clear c94
                  try clear c94b0
                  try clear c94b1
                  try clear c95
                  try clear c95b0
                  try clear c95b1
                  try clear c95b2
                  try clear c96
                  try clear c97
                  try clear c97b0
                  try clear c97b1
                  try clear c97b2
                  try clear c98
                  try clear c99
                  try clear c99b0
                  try clear c99b1
                  try clear c99b2
                  try clear c100
                  try clear c101
                  try clear c103
                  try clear c104
                  try clear c104b0
                  try clear c105
                  try clear c105b0
                  try clear c106
                  try clear c106b0
                  try clear c107
                  try clear c107b0
                  try clear c107b1
                  try clear c108
                  try clear c108b0
                  try clear c108b1
                  try clear c114
                  try clear c114b0
                  try clear c115
                  try clear c116
                  try clear c116b0
                  try clear c117
                  try clear c117b0
                  try clear c118
                  try clear c118b0
                  try clear c119
                  try clear c119b0
                  try clear c119b1
                  try clear c121
                  try clear c126
                  try clear c126b0
                  try clear c127
                  try clear c127b0
                  try clear c127b1
                  try clear c128
                  try clear c128b0
                  try clear c129
                  try clear c129b0
                  try clear c129b1
                  try clear c130
                  try clear c130b0
                  try clear c130b1
                  try clear c138
                  try clear c147
                  try clear c147b0
                  try clear c147b1
                  try clear c147b2
                  try clear hcz110_0
                  try clear hcz110_1
                  try clear hcz112_0
                  try clear hcz112_1
                  try clear hcz11_0
                  try clear hcz11_1
                  try clear hcz123_0
                  try clear hcz123_1
                  try clear hcz125_0
                  try clear hcz125_1
                  try clear hcz139_0
                  try clear hcz139_1
                  try clear hcz141_0
                  try clear hcz141_1
                  try clear hcz144_0
                  try clear hcz144_1
                  try clear hcz145_0
                  try clear hcz145_1
                  try clear hcz16_0
                  try clear hcz16_1
                  try clear hcz18_0
                  try clear hcz18_1
                  try clear hcz23_0
                  try clear hcz23_1
                  try clear hcz29_0
                  try clear hcz29_1
                  try clear hcz31_0
                  try clear hcz31_1
                  try clear hcz41_0
                  try clear hcz41_1
                  try clear hcz43_0
                  try clear hcz43_1
                  try clear hcz45_0
                  try clear hcz45_1
                  try clear hcz46_0
                  try clear hcz46_1
                  try clear hcz54_0
                  try clear hcz54_1
                  try clear hcz56_0
                  try clear hcz56_1
                  try clear hcz59_0
                  try clear hcz59_1
                  try clear hcz67_0
                  try clear hcz67_1
                  try clear hcz68_0
                  try clear hcz68_1
                  try clear hcz70_0
                  try clear hcz70_1
                  try clear hcz71_0
                  try clear hcz71_1
                  try clear hfz110_0
                  try clear hfz110_1
                  try clear hfz112_0
                  try clear hfz112_1
                  try clear hfz11_0
                  try clear hfz11_1
                  try clear hfz123_0
                  try clear hfz123_1
                  try clear hfz125_0
                  try clear hfz125_1
                  try clear hfz139_0
                  try clear hfz139_1
                  try clear hfz141_0
                  try clear hfz141_1
                  try clear hfz144_0
                  try clear hfz144_1
                  try clear hfz145_0
                  try clear hfz145_1
                  try clear hfz16_0
                  try clear hfz16_1
                  try clear hfz18_0
                  try clear hfz18_1
                  try clear hfz23_0
                  try clear hfz23_1
                  try clear hfz29_0
                  try clear hfz29_1
                  try clear hfz31_0
                  try clear hfz31_1
                  try clear hfz41_0
                  try clear hfz41_1
                  try clear hfz43_0
                  try clear hfz43_1
                  try clear hfz45_0
                  try clear hfz45_1
                  try clear hfz46_0
                  try clear hfz46_1
                  try clear hfz54_0
                  try clear hfz54_1
                  try clear hfz56_0
                  try clear hfz56_1
                  try clear hfz59_0
                  try clear hfz59_1
                  try clear hfz67_0
                  try clear hfz67_1
                  try clear hfz68_0
                  try clear hfz68_1
                  try clear hfz70_0
                  try clear hfz70_1
                  try clear hfz71_0
                  try clear hfz71_1
                  try clear hx432_0
                  try clear hx451_0
                  try clear hx451_1
                  try clear hx453_0
                  try clear hx453_1
                  try clear p2
                  try clear p4
                  try clear p43
                  try clear p432
                  try clear p45
                  try clear p451
                  try clear p453
                  try clear p6
                  try clear p64
                  try clear q4
                  try clear q43
                  try clear q432
                  try clear q45
                  try clear q451
                  try clear q453
                  obtain⟨kq,x307_133,rfl,HA,HJ133,HO_465001,HO_466001,BK464,BK465,HB⟩:=hcut
                  cases kq with
                  | zero=>exact absurd HA.out (by simp [laws_FnDrums.j10])
                  | succ kj133 =>
                   have H:=HA.out
                   clear HA
                   simp only[laws_FnDrums.j10] at H
                   by_cases c148:x307_133=true
                   ·subst c148
                    have H1:(some false)=some r:=by rw[if_pos rfl] at H;exact H
                    clear H
                    have H:=H1
                    clear H1
                    obtain rfl:=Option.some.inj H
                    exact absurd hrt.out (by simp)
                   ·replace c148:=Bool.eq_false_iff.mpr c148
                    subst c148
                    have H1:(if t467=true then((impl_TurnPattern.f kj133 t456 t457 t468).bind fun bt470=>(if bt470.2.2=true then((laws_pSamePattern.f kj133 bt470.1 bt470.2.1 t460 t461).bind fun t476=>(some t476)) else(some false))) else(some true))=some r:=by rw[if_neg (show ¬ (false=true) by decide)] at H;exact H
                    clear H
                    have H:=H1
                    clear H1
                    by_cases c149:t467=true
                    ·subst c149
                     have H1:((impl_TurnPattern.f kj133 t456 t457 t468).bind fun bt470=>(if bt470.2.2=true then((laws_pSamePattern.f kj133 bt470.1 bt470.2.1 t460 t461).bind fun t476=>(some t476)) else(some false)))=some r:=by rw[if_pos rfl] at H;exact H
                     clear H
                     have H:=H1
                     clear H1
                     replace H:=Option.bind_eq_some_iff.mp H
                     obtain⟨⟨t470,t471,t474⟩,A1500,H⟩:=H
                     replace H:(if t474=true then((laws_pSamePattern.f kj133 t470 t471 t460 t461).bind fun t476=>(some t476)) else(some false))=some r:=H
                     have A150:=am A1500
                     clear A1500
                     by_cases c151:t474=true
                     ·subst c151
                      have H1:((laws_pSamePattern.f kj133 t470 t471 t460 t461).bind fun t476=>(some t476))=some r:=by rw[if_pos rfl] at H;exact H
                      clear H
                      have H:=H1
                      clear H1
                      replace H:=Option.bind_eq_some_iff.mp H
                      obtain⟨t476,A1520,H⟩:=H
                      replace H:(some t476)=some r:=H
                      have A152:=am A1520
                      clear A1520
                      obtain rfl:=Option.some.inj H
                      have hnb153:=NB464_465.out
                      have hnc153:=NB465_464.out
                      have hcz154_0:wc.cell? ⟨gb464,0,none⟩=some (.int .i64 t456):=(blk_cell BK464.out 0).trans rfl
                      have hcz154_1:wc.cell? ⟨gb464,1,none⟩=some (.slice Ao140 t457.length co140):=(blk_cell BK464.out 1).trans rfl
                      have hfz154_0:=blk_frozen BK464.out 0
                      have hfz154_1:=blk_frozen BK464.out 1
                      go_wp2_with (first|(go_at_call 6;(with_reducible refine(impl_TurnPattern.calls kj133 t456 _ _ t457 t468 t470 t471 true _ ?side1 ?side2 A150.out).mono ?_);(case side1=>repeat(first|exact(Kd.R_reads' HO_465001.out).2.2|(with_reducible refine Kd.C_alloc ?_ _)|(with_reducible refine Kd.C_drewN ?_ _)|(with_reducible refine Kd.C_drew ?_)));(case side2=>exact(Kd.R_reads' HO_465001.out).2.1);rintro e w155 ⟨v472,rfl,ho0,hb⟩;have n0_:=am (Kd.R_elder' (rup HO_465001.out) (Kd.R_base ho0) hb);have n1_:=am (Kd.R_elder' (rup HO_466001.out) (Kd.R_base ho0) hb);have n2_:=am (Kd.R_lower (Kd.R_new' (Kd.R_new' ho0 (Kd.R_lt (rup HO_465001.out))) (Kd.R_lt (rup HO_466001.out))) (below_size bl));have n3_:=am (blk_below (bup BK464.out) hb);have n4_:=am (blk_below (bup BK465.out) hb);have n5_:=am (below_step bl hb);clear HO_465001 HO_466001 BK464 BK465 HB;have HO_465001:=n0_;have HO_466001:=n1_;have HO473:=n2_;have BK464:=n3_;have BK465:=n4_;have HB:=n5_;clear n0_ n1_ n2_ n3_ n4_ n5_;(try clear hb);(try clear hb2);(try clear hk);(try clear hi);(try clear ho0))|((with_reducible refine gate_dst (N:=44) rfl ?_);(try(refine gate_guard (by rfl) ?_;dsimp only));refine box_event ?hg (N:=44) ?hd (cs := #[.int .i64 0,.slice none 0 0]) (t:=26) ?hr ?_;(case hd=>rfl);(case hg=>rfl);(case hr=>first|(go_simp;done)|(go_simp;rfl));intro gb475 hg w156 hbox hb;have n0_:=am (Kd.R_below (rup HO_465001.out) hb);have n1_:=am (Kd.R_below (rup HO_466001.out) hb);have n2_:=am (Kd.R_below (rup HO473.out) hb);have n3_:=am (blk_below (bup BK464.out) hb);have n4_:=am (blk_below (bup BK465.out) hb);have n5_:=am (below_step bl hb);have n6_:=am (hbox);have n7_:=am (ge_ bl hg);have n8_:=am (ge_ bl hg);have n9_:=am (nl (bup BK464.out) hg);have n10_:=am (ng (bup BK464.out) hg);have n11_:=am (nl (bup BK465.out) hg);have n12_:=am (ng (bup BK465.out) hg);clear HO_465001 HO_466001 HO473 BK464 BK465 HB;have HO_465001:=n0_;have HO_466001:=n1_;have HO473:=n2_;have BK464:=n3_;have BK465:=n4_;have HB:=n5_;have BK475:=n6_;have GW475:=n7_;have GE475:=n8_;have NB464_475:=n9_;have NB475_464:=n10_;have NB465_475:=n11_;have NB475_465:=n12_;clear n0_ n1_ n2_ n3_ n4_ n5_ n6_ n7_ n8_ n9_ n10_ n11_ n12_ hb hbox hg;have hnb157:=NB475_464.out;have hnc157:=NB464_475.out;have hnb158:=NB475_465.out;have hnc158:=NB465_475.out;have hcz159_0:w156.cell? ⟨gb475,0,none⟩=some (.int .i64 0):=(blk_cell BK475.out 0).trans rfl;have hcz159_1:w156.cell? ⟨gb475,1,none⟩=some (.slice none 0 0):=(blk_cell BK475.out 1).trans rfl;have hfz159_0:=blk_frozen BK475.out 0;have hfz159_1:=blk_frozen BK475.out 1;obtain⟨Ao160,co160,eo160⟩:=Kd.R_slice HO473.out;subst eo160;have hcz161_0:w156.cell? ⟨gb465,0,none⟩=some (.int .i64 t460):=(blk_cell BK465.out 0).trans rfl;have hcz161_1:w156.cell? ⟨gb465,1,none⟩=some (.slice Ao142 t461.length co142):=(blk_cell BK465.out 1).trans rfl;have hfz161_0:=blk_frozen BK465.out 0;have hfz161_1:=blk_frozen BK465.out 1)|(go_at_call 8;(with_reducible refine(laws_pSamePattern.calls kj133 t470 _ _ t471 t460 _ _ t461 t476 _ ?side1 ?side2 ?side3 ?side4 A152.out).mono ?_);(case side1=>refine(Kd.R_reads' (e:=3) (base:=w.heap.size) (ok:=fun k_=>((True∧some k_≠(.slice Ao140 t457.length co140:Value).ownBlock)∧some k_≠(.slice Ao142 t461.length co142:Value).ownBlock)) (n:=t471.length) (c:=co160) ?_).2.2;exact(by(with_reducible repeat(first|apply Kd.R_alloc|apply Kd.R_drewN|apply Kd.R_drew));exact(Kd.R_mono (Kd.R_far (p:=⟨gb475,1,none⟩) (Kd.R_far (p:=⟨gb475,0,none⟩) (Kd.R_types HO473.out BK475.out (by decide)) (fun _ hk=>hk.2) (.int .i64 t470)) (fun _ hk=>hk.2) (.slice Ao160 t471.length co160)) (fun _ h_=>h_.1))));(case side2=>exact(Kd.R_reads' HO473.out).2.1);(case side3=>refine(Kd.R_reads' (e:=3) (base:=w.heap.size) (ok:=fun k_=>(some k_≠(.slice Ao140 t457.length co140:Value).ownBlock∧some k_≠(.slice Ao160 t471.length co160:Value).ownBlock)) (n:=t461.length) (c:=co142) ?_).2.2;exact(by(with_reducible repeat(first|apply Kd.R_alloc|apply Kd.R_drewN|apply Kd.R_drew));exact(Kd.R_mono (Kd.R_far (p:=⟨gb475,1,none⟩) (Kd.R_far (p:=⟨gb475,0,none⟩) (Kd.R_types HO_466001.out BK475.out (by decide)) (fun _ hk=>hk.2) (.int .i64 t470)) (fun _ hk=>hk.2) (.slice Ao160 t471.length co160)) (fun _ h_=>h_.1))));(case side4=>exact(Kd.R_reads' HO_466001.out).2.1);rintro e w162 ⟨rfl,hb⟩;have n0_:=am (Kd.R_below (by(with_reducible repeat(first|apply Kd.R_alloc|apply Kd.R_drewN|apply Kd.R_drew));exact(Kd.R_mono (Kd.R_far (p:=⟨gb475,1,none⟩) (Kd.R_far (p:=⟨gb475,0,none⟩) (Kd.R_types HO_465001.out BK475.out (by decide)) (fun _ hk=>hk.2) (.int .i64 t470)) (fun _ hk=>hk.2) (.slice Ao160 t471.length co160)) (fun _ h_=>h_.1))) hb);have n1_:=am (Kd.R_below (by(with_reducible repeat(first|apply Kd.R_alloc|apply Kd.R_drewN|apply Kd.R_drew));exact(Kd.R_mono (Kd.R_far (p:=⟨gb475,1,none⟩) (Kd.R_far (p:=⟨gb475,0,none⟩) (Kd.R_types HO_466001.out BK475.out (by decide)) (fun _ hk=>hk.2) (.int .i64 t470)) (fun _ hk=>hk.2) (.slice Ao160 t471.length co160)) (fun _ h_=>h_.1))) hb);have n2_:=am (Kd.R_below (by(with_reducible repeat(first|apply Kd.R_alloc|apply Kd.R_drewN|apply Kd.R_drew));exact(Kd.R_mono (Kd.R_far (p:=⟨gb475,1,none⟩) (Kd.R_far (p:=⟨gb475,0,none⟩) (Kd.R_types HO473.out BK475.out (by decide)) (fun _ hk=>hk.2) (.int .i64 t470)) (fun _ hk=>hk.2) (.slice Ao160 t471.length co160)) (fun _ h_=>h_.1))) hb);have n3_:=am (blk_below (g:=gb464) (o := .cells #[.int .i64 t456,.slice Ao140 t457.length co140] 26 (0,0)) (by(with_reducible repeat(first|refine bN_ ?_ _|refine bD_ ?_|refine bA_ ?_ _));refine blk_far ?_ NB464_475.out _;(with_reducible repeat(first|refine bN_ ?_ _|refine bD_ ?_|refine bA_ ?_ _));refine blk_far ?_ NB464_475.out _;exact bup BK464.out) hb);have n4_:=am (blk_below (g:=gb465) (o := .cells #[.int .i64 t460,.slice Ao142 t461.length co142] 26 (0,0)) (by(with_reducible repeat(first|refine bN_ ?_ _|refine bD_ ?_|refine bA_ ?_ _));refine blk_far ?_ NB465_475.out _;(with_reducible repeat(first|refine bN_ ?_ _|refine bD_ ?_|refine bA_ ?_ _));refine blk_far ?_ NB465_475.out _;exact bup BK465.out) hb);have n5_:=am (blk_below (g:=gb475) (o := .cells #[.int .i64 t470,.slice Ao160 t471.length co160] 26 (0,0)) (by(with_reducible repeat(first|refine bN_ ?_ _|refine bD_ ?_|refine bA_ ?_ _));refine blk_put (cs := #[.int .i64 t470,.slice none 0 0]) ?_ 1 _ rfl;(with_reducible repeat(first|refine bN_ ?_ _|refine bD_ ?_|refine bA_ ?_ _));refine blk_put (cs := #[.int .i64 0,.slice none 0 0]) ?_ 0 _ rfl;exact bup BK475.out) hb);have n6_:=am (below_step bl hb);clear HO_465001 HO_466001 HO473 BK464 BK465 BK475 HB;have HO_465001:=n0_;have HO_466001:=n1_;have HO473:=n2_;have BK464:=n3_;have BK465:=n4_;have BK475:=n5_;have HB:=n6_;clear n0_ n1_ n2_ n3_ n4_ n5_ n6_;(try clear hb);(try clear hb2);(try clear hk);(try clear hi)))
                      repeat(go_quiet (first|(go_at_call 6;(with_reducible refine(impl_TurnPattern.calls kj133 t456 _ _ t457 t468 t470 t471 true _ ?side1 ?side2 A150.out).mono ?_);(case side1=>repeat(first|exact(Kd.R_reads' HO_465001.out).2.2|(with_reducible refine Kd.C_alloc ?_ _)|(with_reducible refine Kd.C_drewN ?_ _)|(with_reducible refine Kd.C_drew ?_)));(case side2=>exact(Kd.R_reads' HO_465001.out).2.1);rintro e w155 ⟨v472,rfl,ho0,hb⟩;have n0_:=am (Kd.R_elder' (rup HO_465001.out) (Kd.R_base ho0) hb);have n1_:=am (Kd.R_elder' (rup HO_466001.out) (Kd.R_base ho0) hb);have n2_:=am (Kd.R_lower (Kd.R_new' (Kd.R_new' ho0 (Kd.R_lt (rup HO_465001.out))) (Kd.R_lt (rup HO_466001.out))) (below_size bl));have n3_:=am (blk_below (bup BK464.out) hb);have n4_:=am (blk_below (bup BK465.out) hb);have n5_:=am (below_step bl hb);clear HO_465001 HO_466001 BK464 BK465 HB;have HO_465001:=n0_;have HO_466001:=n1_;have HO473:=n2_;have BK464:=n3_;have BK465:=n4_;have HB:=n5_;clear n0_ n1_ n2_ n3_ n4_ n5_;(try clear hb);(try clear hb2);(try clear hk);(try clear hi);(try clear ho0))|((with_reducible refine gate_dst (N:=44) rfl ?_);(try(refine gate_guard (by rfl) ?_;dsimp only));refine box_event ?hg (N:=44) ?hd (cs := #[.int .i64 0,.slice none 0 0]) (t:=26) ?hr ?_;(case hd=>rfl);(case hg=>rfl);(case hr=>first|(go_simp;done)|(go_simp;rfl));intro gb475 hg w156 hbox hb;have n0_:=am (Kd.R_below (rup HO_465001.out) hb);have n1_:=am (Kd.R_below (rup HO_466001.out) hb);have n2_:=am (Kd.R_below (rup HO473.out) hb);have n3_:=am (blk_below (bup BK464.out) hb);have n4_:=am (blk_below (bup BK465.out) hb);have n5_:=am (below_step bl hb);have n6_:=am (hbox);have n7_:=am (ge_ bl hg);have n8_:=am (ge_ bl hg);have n9_:=am (nl (bup BK464.out) hg);have n10_:=am (ng (bup BK464.out) hg);have n11_:=am (nl (bup BK465.out) hg);have n12_:=am (ng (bup BK465.out) hg);clear HO_465001 HO_466001 HO473 BK464 BK465 HB;have HO_465001:=n0_;have HO_466001:=n1_;have HO473:=n2_;have BK464:=n3_;have BK465:=n4_;have HB:=n5_;have BK475:=n6_;have GW475:=n7_;have GE475:=n8_;have NB464_475:=n9_;have NB475_464:=n10_;have NB465_475:=n11_;have NB475_465:=n12_;clear n0_ n1_ n2_ n3_ n4_ n5_ n6_ n7_ n8_ n9_ n10_ n11_ n12_ hb hbox hg;have hnb157:=NB475_464.out;have hnc157:=NB464_475.out;have hnb158:=NB475_465.out;have hnc158:=NB465_475.out;have hcz159_0:w156.cell? ⟨gb475,0,none⟩=some (.int .i64 0):=(blk_cell BK475.out 0).trans rfl;have hcz159_1:w156.cell? ⟨gb475,1,none⟩=some (.slice none 0 0):=(blk_cell BK475.out 1).trans rfl;have hfz159_0:=blk_frozen BK475.out 0;have hfz159_1:=blk_frozen BK475.out 1;obtain⟨Ao160,co160,eo160⟩:=Kd.R_slice HO473.out;subst eo160;have hcz161_0:w156.cell? ⟨gb465,0,none⟩=some (.int .i64 t460):=(blk_cell BK465.out 0).trans rfl;have hcz161_1:w156.cell? ⟨gb465,1,none⟩=some (.slice Ao142 t461.length co142):=(blk_cell BK465.out 1).trans rfl;have hfz161_0:=blk_frozen BK465.out 0;have hfz161_1:=blk_frozen BK465.out 1)|(go_at_call 8;(with_reducible refine(laws_pSamePattern.calls kj133 t470 _ _ t471 t460 _ _ t461 t476 _ ?side1 ?side2 ?side3 ?side4 A152.out).mono ?_);(case side1=>refine(Kd.R_reads' (e:=3) (base:=w.heap.size) (ok:=fun k_=>((True∧some k_≠(.slice Ao140 t457.length co140:Value).ownBlock)∧some k_≠(.slice Ao142 t461.length co142:Value).ownBlock)) (n:=t471.length) (c:=co160) ?_).2.2;exact(by(with_reducible repeat(first|apply Kd.R_alloc|apply Kd.R_drewN|apply Kd.R_drew));exact(Kd.R_mono (Kd.R_far (p:=⟨gb475,1,none⟩) (Kd.R_far (p:=⟨gb475,0,none⟩) (Kd.R_types HO473.out BK475.out (by decide)) (fun _ hk=>hk.2) (.int .i64 t470)) (fun _ hk=>hk.2) (.slice Ao160 t471.length co160)) (fun _ h_=>h_.1))));(case side2=>exact(Kd.R_reads' HO473.out).2.1);(case side3=>refine(Kd.R_reads' (e:=3) (base:=w.heap.size) (ok:=fun k_=>(some k_≠(.slice Ao140 t457.length co140:Value).ownBlock∧some k_≠(.slice Ao160 t471.length co160:Value).ownBlock)) (n:=t461.length) (c:=co142) ?_).2.2;exact(by(with_reducible repeat(first|apply Kd.R_alloc|apply Kd.R_drewN|apply Kd.R_drew));exact(Kd.R_mono (Kd.R_far (p:=⟨gb475,1,none⟩) (Kd.R_far (p:=⟨gb475,0,none⟩) (Kd.R_types HO_466001.out BK475.out (by decide)) (fun _ hk=>hk.2) (.int .i64 t470)) (fun _ hk=>hk.2) (.slice Ao160 t471.length co160)) (fun _ h_=>h_.1))));(case side4=>exact(Kd.R_reads' HO_466001.out).2.1);rintro e w162 ⟨rfl,hb⟩;have n0_:=am (Kd.R_below (by(with_reducible repeat(first|apply Kd.R_alloc|apply Kd.R_drewN|apply Kd.R_drew));exact(Kd.R_mono (Kd.R_far (p:=⟨gb475,1,none⟩) (Kd.R_far (p:=⟨gb475,0,none⟩) (Kd.R_types HO_465001.out BK475.out (by decide)) (fun _ hk=>hk.2) (.int .i64 t470)) (fun _ hk=>hk.2) (.slice Ao160 t471.length co160)) (fun _ h_=>h_.1))) hb);have n1_:=am (Kd.R_below (by(with_reducible repeat(first|apply Kd.R_alloc|apply Kd.R_drewN|apply Kd.R_drew));exact(Kd.R_mono (Kd.R_far (p:=⟨gb475,1,none⟩) (Kd.R_far (p:=⟨gb475,0,none⟩) (Kd.R_types HO_466001.out BK475.out (by decide)) (fun _ hk=>hk.2) (.int .i64 t470)) (fun _ hk=>hk.2) (.slice Ao160 t471.length co160)) (fun _ h_=>h_.1))) hb);have n2_:=am (Kd.R_below (by(with_reducible repeat(first|apply Kd.R_alloc|apply Kd.R_drewN|apply Kd.R_drew));exact(Kd.R_mono (Kd.R_far (p:=⟨gb475,1,none⟩) (Kd.R_far (p:=⟨gb475,0,none⟩) (Kd.R_types HO473.out BK475.out (by decide)) (fun _ hk=>hk.2) (.int .i64 t470)) (fun _ hk=>hk.2) (.slice Ao160 t471.length co160)) (fun _ h_=>h_.1))) hb);have n3_:=am (blk_below (g:=gb464) (o := .cells #[.int .i64 t456,.slice Ao140 t457.length co140] 26 (0,0)) (by(with_reducible repeat(first|refine bN_ ?_ _|refine bD_ ?_|refine bA_ ?_ _));refine blk_far ?_ NB464_475.out _;(with_reducible repeat(first|refine bN_ ?_ _|refine bD_ ?_|refine bA_ ?_ _));refine blk_far ?_ NB464_475.out _;exact bup BK464.out) hb);have n4_:=am (blk_below (g:=gb465) (o := .cells #[.int .i64 t460,.slice Ao142 t461.length co142] 26 (0,0)) (by(with_reducible repeat(first|refine bN_ ?_ _|refine bD_ ?_|refine bA_ ?_ _));refine blk_far ?_ NB465_475.out _;(with_reducible repeat(first|refine bN_ ?_ _|refine bD_ ?_|refine bA_ ?_ _));refine blk_far ?_ NB465_475.out _;exact bup BK465.out) hb);have n5_:=am (blk_below (g:=gb475) (o := .cells #[.int .i64 t470,.slice Ao160 t471.length co160] 26 (0,0)) (by(with_reducible repeat(first|refine bN_ ?_ _|refine bD_ ?_|refine bA_ ?_ _));refine blk_put (cs := #[.int .i64 t470,.slice none 0 0]) ?_ 1 _ rfl;(with_reducible repeat(first|refine bN_ ?_ _|refine bD_ ?_|refine bA_ ?_ _));refine blk_put (cs := #[.int .i64 0,.slice none 0 0]) ?_ 0 _ rfl;exact bup BK475.out) hb);have n6_:=am (below_step bl hb);clear HO_465001 HO_466001 HO473 BK464 BK465 BK475 HB;have HO_465001:=n0_;have HO_466001:=n1_;have HO473:=n2_;have BK464:=n3_;have BK465:=n4_;have BK475:=n5_;have HB:=n6_;clear n0_ n1_ n2_ n3_ n4_ n5_ n6_;(try clear hb);(try clear hb2);(try clear hk);(try clear hi)));try go_wp2_with (first|(go_at_call 6;(with_reducible refine(impl_TurnPattern.calls kj133 t456 _ _ t457 t468 t470 t471 true _ ?side1 ?side2 A150.out).mono ?_);(case side1=>repeat(first|exact(Kd.R_reads' HO_465001.out).2.2|(with_reducible refine Kd.C_alloc ?_ _)|(with_reducible refine Kd.C_drewN ?_ _)|(with_reducible refine Kd.C_drew ?_)));(case side2=>exact(Kd.R_reads' HO_465001.out).2.1);rintro e w155 ⟨v472,rfl,ho0,hb⟩;have n0_:=am (Kd.R_elder' (rup HO_465001.out) (Kd.R_base ho0) hb);have n1_:=am (Kd.R_elder' (rup HO_466001.out) (Kd.R_base ho0) hb);have n2_:=am (Kd.R_lower (Kd.R_new' (Kd.R_new' ho0 (Kd.R_lt (rup HO_465001.out))) (Kd.R_lt (rup HO_466001.out))) (below_size bl));have n3_:=am (blk_below (bup BK464.out) hb);have n4_:=am (blk_below (bup BK465.out) hb);have n5_:=am (below_step bl hb);clear HO_465001 HO_466001 BK464 BK465 HB;have HO_465001:=n0_;have HO_466001:=n1_;have HO473:=n2_;have BK464:=n3_;have BK465:=n4_;have HB:=n5_;clear n0_ n1_ n2_ n3_ n4_ n5_;(try clear hb);(try clear hb2);(try clear hk);(try clear hi);(try clear ho0))|((with_reducible refine gate_dst (N:=44) rfl ?_);(try(refine gate_guard (by rfl) ?_;dsimp only));refine box_event ?hg (N:=44) ?hd (cs := #[.int .i64 0,.slice none 0 0]) (t:=26) ?hr ?_;(case hd=>rfl);(case hg=>rfl);(case hr=>first|(go_simp;done)|(go_simp;rfl));intro gb475 hg w156 hbox hb;have n0_:=am (Kd.R_below (rup HO_465001.out) hb);have n1_:=am (Kd.R_below (rup HO_466001.out) hb);have n2_:=am (Kd.R_below (rup HO473.out) hb);have n3_:=am (blk_below (bup BK464.out) hb);have n4_:=am (blk_below (bup BK465.out) hb);have n5_:=am (below_step bl hb);have n6_:=am (hbox);have n7_:=am (ge_ bl hg);have n8_:=am (ge_ bl hg);have n9_:=am (nl (bup BK464.out) hg);have n10_:=am (ng (bup BK464.out) hg);have n11_:=am (nl (bup BK465.out) hg);have n12_:=am (ng (bup BK465.out) hg);clear HO_465001 HO_466001 HO473 BK464 BK465 HB;have HO_465001:=n0_;have HO_466001:=n1_;have HO473:=n2_;have BK464:=n3_;have BK465:=n4_;have HB:=n5_;have BK475:=n6_;have GW475:=n7_;have GE475:=n8_;have NB464_475:=n9_;have NB475_464:=n10_;have NB465_475:=n11_;have NB475_465:=n12_;clear n0_ n1_ n2_ n3_ n4_ n5_ n6_ n7_ n8_ n9_ n10_ n11_ n12_ hb hbox hg;have hnb157:=NB475_464.out;have hnc157:=NB464_475.out;have hnb158:=NB475_465.out;have hnc158:=NB465_475.out;have hcz159_0:w156.cell? ⟨gb475,0,none⟩=some (.int .i64 0):=(blk_cell BK475.out 0).trans rfl;have hcz159_1:w156.cell? ⟨gb475,1,none⟩=some (.slice none 0 0):=(blk_cell BK475.out 1).trans rfl;have hfz159_0:=blk_frozen BK475.out 0;have hfz159_1:=blk_frozen BK475.out 1;obtain⟨Ao160,co160,eo160⟩:=Kd.R_slice HO473.out;subst eo160;have hcz161_0:w156.cell? ⟨gb465,0,none⟩=some (.int .i64 t460):=(blk_cell BK465.out 0).trans rfl;have hcz161_1:w156.cell? ⟨gb465,1,none⟩=some (.slice Ao142 t461.length co142):=(blk_cell BK465.out 1).trans rfl;have hfz161_0:=blk_frozen BK465.out 0;have hfz161_1:=blk_frozen BK465.out 1)|(go_at_call 8;(with_reducible refine(laws_pSamePattern.calls kj133 t470 _ _ t471 t460 _ _ t461 t476 _ ?side1 ?side2 ?side3 ?side4 A152.out).mono ?_);(case side1=>refine(Kd.R_reads' (e:=3) (base:=w.heap.size) (ok:=fun k_=>((True∧some k_≠(.slice Ao140 t457.length co140:Value).ownBlock)∧some k_≠(.slice Ao142 t461.length co142:Value).ownBlock)) (n:=t471.length) (c:=co160) ?_).2.2;exact(by(with_reducible repeat(first|apply Kd.R_alloc|apply Kd.R_drewN|apply Kd.R_drew));exact(Kd.R_mono (Kd.R_far (p:=⟨gb475,1,none⟩) (Kd.R_far (p:=⟨gb475,0,none⟩) (Kd.R_types HO473.out BK475.out (by decide)) (fun _ hk=>hk.2) (.int .i64 t470)) (fun _ hk=>hk.2) (.slice Ao160 t471.length co160)) (fun _ h_=>h_.1))));(case side2=>exact(Kd.R_reads' HO473.out).2.1);(case side3=>refine(Kd.R_reads' (e:=3) (base:=w.heap.size) (ok:=fun k_=>(some k_≠(.slice Ao140 t457.length co140:Value).ownBlock∧some k_≠(.slice Ao160 t471.length co160:Value).ownBlock)) (n:=t461.length) (c:=co142) ?_).2.2;exact(by(with_reducible repeat(first|apply Kd.R_alloc|apply Kd.R_drewN|apply Kd.R_drew));exact(Kd.R_mono (Kd.R_far (p:=⟨gb475,1,none⟩) (Kd.R_far (p:=⟨gb475,0,none⟩) (Kd.R_types HO_466001.out BK475.out (by decide)) (fun _ hk=>hk.2) (.int .i64 t470)) (fun _ hk=>hk.2) (.slice Ao160 t471.length co160)) (fun _ h_=>h_.1))));(case side4=>exact(Kd.R_reads' HO_466001.out).2.1);rintro e w162 ⟨rfl,hb⟩;have n0_:=am (Kd.R_below (by(with_reducible repeat(first|apply Kd.R_alloc|apply Kd.R_drewN|apply Kd.R_drew));exact(Kd.R_mono (Kd.R_far (p:=⟨gb475,1,none⟩) (Kd.R_far (p:=⟨gb475,0,none⟩) (Kd.R_types HO_465001.out BK475.out (by decide)) (fun _ hk=>hk.2) (.int .i64 t470)) (fun _ hk=>hk.2) (.slice Ao160 t471.length co160)) (fun _ h_=>h_.1))) hb);have n1_:=am (Kd.R_below (by(with_reducible repeat(first|apply Kd.R_alloc|apply Kd.R_drewN|apply Kd.R_drew));exact(Kd.R_mono (Kd.R_far (p:=⟨gb475,1,none⟩) (Kd.R_far (p:=⟨gb475,0,none⟩) (Kd.R_types HO_466001.out BK475.out (by decide)) (fun _ hk=>hk.2) (.int .i64 t470)) (fun _ hk=>hk.2) (.slice Ao160 t471.length co160)) (fun _ h_=>h_.1))) hb);have n2_:=am (Kd.R_below (by(with_reducible repeat(first|apply Kd.R_alloc|apply Kd.R_drewN|apply Kd.R_drew));exact(Kd.R_mono (Kd.R_far (p:=⟨gb475,1,none⟩) (Kd.R_far (p:=⟨gb475,0,none⟩) (Kd.R_types HO473.out BK475.out (by decide)) (fun _ hk=>hk.2) (.int .i64 t470)) (fun _ hk=>hk.2) (.slice Ao160 t471.length co160)) (fun _ h_=>h_.1))) hb);have n3_:=am (blk_below (g:=gb464) (o := .cells #[.int .i64 t456,.slice Ao140 t457.length co140] 26 (0,0)) (by(with_reducible repeat(first|refine bN_ ?_ _|refine bD_ ?_|refine bA_ ?_ _));refine blk_far ?_ NB464_475.out _;(with_reducible repeat(first|refine bN_ ?_ _|refine bD_ ?_|refine bA_ ?_ _));refine blk_far ?_ NB464_475.out _;exact bup BK464.out) hb);have n4_:=am (blk_below (g:=gb465) (o := .cells #[.int .i64 t460,.slice Ao142 t461.length co142] 26 (0,0)) (by(with_reducible repeat(first|refine bN_ ?_ _|refine bD_ ?_|refine bA_ ?_ _));refine blk_far ?_ NB465_475.out _;(with_reducible repeat(first|refine bN_ ?_ _|refine bD_ ?_|refine bA_ ?_ _));refine blk_far ?_ NB465_475.out _;exact bup BK465.out) hb);have n5_:=am (blk_below (g:=gb475) (o := .cells #[.int .i64 t470,.slice Ao160 t471.length co160] 26 (0,0)) (by(with_reducible repeat(first|refine bN_ ?_ _|refine bD_ ?_|refine bA_ ?_ _));refine blk_put (cs := #[.int .i64 t470,.slice none 0 0]) ?_ 1 _ rfl;(with_reducible repeat(first|refine bN_ ?_ _|refine bD_ ?_|refine bA_ ?_ _));refine blk_put (cs := #[.int .i64 0,.slice none 0 0]) ?_ 0 _ rfl;exact bup BK475.out) hb);have n6_:=am (below_step bl hb);clear HO_465001 HO_466001 HO473 BK464 BK465 BK475 HB;have HO_465001:=n0_;have HO_466001:=n1_;have HO473:=n2_;have BK464:=n3_;have BK465:=n4_;have BK475:=n5_;have HB:=n6_;clear n0_ n1_ n2_ n3_ n4_ n5_ n6_;(try clear hb);(try clear hb2);(try clear hk);(try clear hi))))
                      go_ret
                      exact⟨fin1,bl⟩
                     ·replace c151:=Bool.eq_false_iff.mpr c151
                      subst c151
                      have H1:(some false)=some r:=by rw[if_neg (show ¬ (false=true) by decide)] at H;exact H
                      clear H
                      have H:=H1
                      clear H1
                      obtain rfl:=Option.some.inj H
                      exact absurd hrt.out (by simp)
                    ·replace c149:=Bool.eq_false_iff.mpr c149
                     subst c149
                     have H1:(some true)=some r:=by rw[if_neg (show ¬ (false=true) by decide)] at H;exact H
                     clear H
                     have H:=H1
                     clear H1
                     obtain rfl:=Option.some.inj H
                     go_wp2
                     repeat(go_quiet (fail);try go_wp2)
                     go_ret
                     exact⟨fin1,bl⟩

end Go.Proofs.Ytlhjjpdlfddflac.PFnDrums
