/- The walks of functions that FnPatterns reaches: what they return is what the plain functions of the same names say. Made by a program of this session after the kit's print. No conditions beyond the arguments' being read. -/
import Derived.Test.YtlhjjpdlfddflabSFnPatterns0
import Derived.Test.YtlhjjpdlfddflabSFnPatterns1
import Derived.Test.YtlhjjpdlfddflabSFnPatterns2
import Derived.Test.YtlhjjpdlfddflabSFnPatterns3
import Derived.Test.YtlhjjpdlfddflabSFnPatterns4
import Derived.Test.YtlhjjpdlfddflabSFnPatterns5
import Derived.Test.YtlhjjpdlfddflabSFnPatterns6
import Derived.Test.YtlhjjpdlfddflabSFnPatterns7
import Derived.Test.YtlhjjpdlfddflabSFnPatterns8
namespace Go.Proofs.Ytlhjjpdlfddflab.PFnPatterns
open Go.RowKit Go.Proofs.YtlhjjpdlfddflabW.PrintWords Go.Proofs.YtlhjjpdlfddflabW.PrintLast Go.Proofs.YtlhjjpdlfddflabW.PrintMore
attribute [local go_sem] max2_int min2_int max_two min_two max_three min_three max_four min_four   -- for this text's walks alone
set_option linter.unusedVariables false
set_option linter.unusedSimpArgs false

/-! ### laws_FnPatterns: function 3 -/
mutual
def laws_FnPatterns.j0:Nat→List Int→ByteArray→Bool→Bool→Int→List Int→Int→List Int→Int→List Int→Option (Bool)
 | 0,_,_,_,_,_,_,_,_,_,_=>none
 | k+1,x1,x6,x7,x103,x350000,x350001,x360000,x360001,x366000,x366001=>if x103=true then(some false) else(if x7=true then((impl_ParsePattern.f k x6).bind fun bt368=>((impl_OtherBeats.f k x360000 x360001).bind fun bt374=>(if bt368.2.2=true then((laws_pSamePattern.f k bt368.1 bt368.2.1 x350000 x350001).bind fun t380=>(if t380=true then(if bt374.2.2=true then((laws_pSamePattern.f k bt374.1 bt374.2.1 x350000 x350001).bind fun t381=>(if t381=true then(laws_FnPatterns.j1 k x1 ((wrap64 ((x350001.length:Int)+(x366001.length:Int))) != x350000) x350000 x350001 x360000 x360001) else(laws_FnPatterns.j1 k x1 true x350000 x350001 x360000 x360001))) else(laws_FnPatterns.j1 k x1 true x350000 x350001 x360000 x360001)) else(laws_FnPatterns.j1 k x1 true x350000 x350001 x360000 x360001))) else(laws_FnPatterns.j1 k x1 true x350000 x350001 x360000 x360001)))) else(laws_FnPatterns.j4 k x1))
def laws_FnPatterns.j4:Nat→List Int→Option (Bool)
 | 0,_=>none
 | k+1,x1=>(spec_DrawCountBeats.f k x1).bind fun bt389=>((impl_CountBeats.f k bt389.1 bt389.2.1 bt389.2.2).bind fun bt395=>((spec_CountBeats.f k bt389.1 bt389.2.1 bt389.2.2).bind fun bt397=>((impl_BeatsAt.f k bt389.1 bt389.2.1 bt389.2.2).bind fun bt399=>((spec_BeatsAt.f k bt389.1 bt389.2.1 bt389.2.2).bind fun bt401=>((spec_DrawEvenPattern.f x1).bind fun bt403=>((impl_EvenPattern.f k bt403.1 bt403.2).bind fun bt405=>((spec_EvenPattern.f k bt403.1 bt403.2).bind fun bt411=>(if(bt395.2 != bt397.2)=true then(laws_FnPatterns.j5 k x1 bt403.1 bt403.2 bt405.2.2 true bt405.1 bt405.2.1 bt411.1 bt411.2.1) else(if bt395.1=bt397.1 then(if(bt399.2 != bt401.2)=true then(laws_FnPatterns.j5 k x1 bt403.1 bt403.2 bt405.2.2 true bt405.1 bt405.2.1 bt411.1 bt411.2.1) else(if(bt399.1 != bt401.1)=true then(laws_FnPatterns.j5 k x1 bt403.1 bt403.2 bt405.2.2 true bt405.1 bt405.2.1 bt411.1 bt411.2.1) else(if(bt405.2.2 != bt411.2.2)=true then(laws_FnPatterns.j5 k x1 bt403.1 bt403.2 bt405.2.2 true bt405.1 bt405.2.1 bt411.1 bt411.2.1) else((laws_pSamePattern.f k bt405.1 bt405.2.1 bt411.1 bt411.2.1).bind fun t417=>(laws_FnPatterns.j5 k x1 bt403.1 bt403.2 bt405.2.2 (!t417) bt405.1 bt405.2.1 bt411.1 bt411.2.1))))) else(laws_FnPatterns.j5 k x1 bt403.1 bt403.2 bt405.2.2 true bt405.1 bt405.2.1 bt411.1 bt411.2.1))))))))))
def laws_FnPatterns.j5:Nat→List Int→Int→Int→Bool→Bool→Int→List Int→Int→List Int→Option (Bool)
 | 0,_,_,_,_,_,_,_,_,_=>none
 | k+1,x1,x36,x37,x39,x278,x411000,x411001,x417000,x417001=>if x278=true then(some false) else(if x39=true then(if(x417001.length:Int)=x36 then((impl_IsPattern.f k x411000 x411001).bind fun t418=>(laws_FnPatterns.j6 k x1 x36 x37 (!t418) x417000 x417001)) else(laws_FnPatterns.j6 k x1 x36 x37 true x417000 x417001)) else(laws_FnPatterns.j8 k x1))
def laws_FnPatterns.j8:Nat→List Int→Option (Bool)
 | 0,_=>none
 | k+1,x1=>(spec_DrawParsePattern.f k x1).bind fun t421=>((impl_ParsePattern.f k t421).bind fun bt422=>((spec_ParsePattern.f k t421).bind fun bt428=>(if(bt422.2.2 == bt428.2.2)=true then((laws_pSamePattern.f k bt422.1 bt422.2.1 bt428.1 bt428.2.1).bind fun t434=>(some t434)) else(some false))))
def laws_FnPatterns.j6:Nat→List Int→Int→Int→Bool→Int→List Int→Option (Bool)
 | 0,_,_,_,_,_,_=>none
 | k+1,x1,x36,x37,x289,x417000,x417001=>if x289=true then(some false) else(laws_FnPatterns.l1 k x1 x36 x37 1 x417000 x417001)
def laws_FnPatterns.l1:Nat→List Int→Int→Int→Int→Int→List Int→Option (Bool)
 | 0,_,_,_,_,_,_=>none
 | k+1,x1,x36,x37,x42,x417000,x417001=>if x42<(x417001.length:Int) then(if 0≤x42 then(if 0≤(wrap64 (x42 - 1)) then(if(wrap64 (x42 - 1))<(x417001.length:Int) then(if x36=0 then(none) else(if(wrap64 ((rd x417001 x42) - (rd x417001 (wrap64 (x42 - 1)))))=(wrap64 (Int.tdiv x37 x36)) then(laws_FnPatterns.l1 k x1 x36 x37 (wrap64 (x42+1)) x417000 x417001) else(if(wrap64 ((rd x417001 x42) - (rd x417001 (wrap64 (x42 - 1)))))=(wrap64 ((wrap64 (Int.tdiv x37 x36))+1)) then(laws_FnPatterns.l1 k x1 x36 x37 (wrap64 (x42+1)) x417000 x417001) else(some false)))) else(none)) else(none)) else(none)) else(laws_FnPatterns.j8 k x1)
def laws_FnPatterns.j1:Nat→List Int→Bool→Int→List Int→Int→List Int→Option (Bool)
 | 0,_,_,_,_,_,_=>none
 | k+1,x1,x144,x350000,x350001,x360000,x360001=>if x144=true then(some false) else(laws_FnPatterns.l0 k x1 0 0 x350000 x350001 x360000 x360001)
def laws_FnPatterns.l0:Nat→List Int→Int→Int→Int→List Int→Int→List Int→Option (Bool)
 | 0,_,_,_,_,_,_,_=>none
 | k+1,x1,x18,x19,x350000,x350001,x360000,x360001=>if x19<(wrap64 (2*x350000)) then((impl_CountBeats.f k x350000 x350001 x19).bind fun bt382=>((impl_BeatsAt.f k x350000 x350001 x19).bind fun bt384=>((impl_BeatsAt.f k x360000 x360001 x19).bind fun bt386=>(if bt382.2=true then(if bt382.1=x18 then(if bt384.2=true then(if bt386.2=true then(if(bt384.1 == bt386.1)=true then(laws_FnPatterns.j3 k x1 x18 x19 bt384.1 true x350000 x350001 x360000 x360001) else(if x350000=0 then(none) else((laws_pIn.f k x350001 (Int.tmod x19 x350000)).bind fun t388=>(laws_FnPatterns.j3 k x1 x18 x19 bt384.1 (bt384.1 != t388) x350000 x350001 x360000 x360001)))) else(laws_FnPatterns.j3 k x1 x18 x19 bt384.1 true x350000 x350001 x360000 x360001)) else(laws_FnPatterns.j3 k x1 x18 x19 bt384.1 true x350000 x350001 x360000 x360001)) else(laws_FnPatterns.j3 k x1 x18 x19 bt384.1 true x350000 x350001 x360000 x360001)) else(laws_FnPatterns.j3 k x1 x18 x19 bt384.1 true x350000 x350001 x360000 x360001))))) else(laws_FnPatterns.j4 k x1)
def laws_FnPatterns.j3:Nat→List Int→Int→Int→Bool→Bool→Int→List Int→Int→List Int→Option (Bool)
 | 0,_,_,_,_,_,_,_,_,_=>none
 | k+1,x1,x18,x19,x22,x200,x350000,x350001,x360000,x360001=>if x200=true then(some false) else(if x22=true then(laws_FnPatterns.l0 k x1 (wrap64 (x18+1)) (wrap64 (x19+1)) x350000 x350001 x360000 x360001) else(laws_FnPatterns.l0 k x1 x18 (wrap64 (x19+1)) x350000 x350001 x360000 x360001))
end
theorem laws_FnPatterns.j0_dead {k:Nat} {a0:List Int} {a1:ByteArray} {a2:Bool} {a4:Int} {a5:List Int} {a6:Int} {a7:List Int} {a8:Int} {a9:List Int} {r:Bool} (h:laws_FnPatterns.j0 k a0 a1 a2 true a4 a5 a6 a7 a8 a9=some r):¬ r=true:=by
 cases k with
 | zero=>simp [laws_FnPatterns.j0] at h
 | succ k =>
  have h2:some false=some r:=h
  obtain rfl:=Option.some.inj h2
  simp
theorem laws_FnPatterns.j1_dead {k:Nat} {a0:List Int} {a2:Int} {a3:List Int} {a4:Int} {a5:List Int} {r:Bool} (h:laws_FnPatterns.j1 k a0 true a2 a3 a4 a5=some r):¬ r=true:=by
 cases k with
 | zero=>simp [laws_FnPatterns.j1] at h
 | succ k =>
  have h2:some false=some r:=h
  obtain rfl:=Option.some.inj h2
  simp
theorem laws_FnPatterns.j3_dead {k:Nat} {a0:List Int} {a1:Int} {a2:Int} {a3:Bool} {a5:Int} {a6:List Int} {a7:Int} {a8:List Int} {r:Bool} (h:laws_FnPatterns.j3 k a0 a1 a2 a3 true a5 a6 a7 a8=some r):¬ r=true:=by
 cases k with
 | zero=>simp [laws_FnPatterns.j3] at h
 | succ k =>
  have h2:some false=some r:=h
  obtain rfl:=Option.some.inj h2
  simp
theorem laws_FnPatterns.j5_dead {k:Nat} {a0:List Int} {a1:Int} {a2:Int} {a3:Bool} {a5:Int} {a6:List Int} {a7:Int} {a8:List Int} {r:Bool} (h:laws_FnPatterns.j5 k a0 a1 a2 a3 true a5 a6 a7 a8=some r):¬ r=true:=by
 cases k with
 | zero=>simp [laws_FnPatterns.j5] at h
 | succ k =>
  have h2:some false=some r:=h
  obtain rfl:=Option.some.inj h2
  simp
theorem laws_FnPatterns.j6_dead {k:Nat} {a0:List Int} {a1:Int} {a2:Int} {a4:Int} {a5:List Int} {r:Bool} (h:laws_FnPatterns.j6 k a0 a1 a2 true a4 a5=some r):¬ r=true:=by
 cases k with
 | zero=>simp [laws_FnPatterns.j6] at h
 | succ k =>
  have h2:some false=some r:=h
  obtain rfl:=Option.some.inj h2
  simp
def laws_FnPatterns.f (k:Nat) (l0:List Int) (l1:List Int):Option (Bool):=(laws_big.f l0 l1).bind fun t344=>(if t344=true then(some true) else((spec_DrawPatternText.f k l0).bind fun bt345=>((impl_PatternText.f k bt345.1 bt345.2).bind fun bt350=>((spec_PatternText.f k bt345.1 bt345.2).bind fun bt352=>((impl_OtherBeats.f k bt345.1 bt345.2).bind fun bt354=>((spec_OtherBeats.f k bt345.1 bt345.2).bind fun bt360=>(if(bt350.2 != bt352.2)=true then(laws_FnPatterns.j0 k l1 bt350.1 bt350.2 true bt345.1 bt345.2 bt354.1 bt354.2.1 bt360.1 bt360.2.1) else(if bt350.1.toList=bt352.1.toList then(if(bt354.2.2 != bt360.2.2)=true then(laws_FnPatterns.j0 k l1 bt350.1 bt350.2 true bt345.1 bt345.2 bt354.1 bt354.2.1 bt360.1 bt360.2.1) else((laws_pSamePattern.f k bt354.1 bt354.2.1 bt360.1 bt360.2.1).bind fun t366=>(if t366=true then(if(bt354.2.2 != bt350.2)=true then(laws_FnPatterns.j0 k l1 bt350.1 bt350.2 true bt345.1 bt345.2 bt354.1 bt354.2.1 bt360.1 bt360.2.1) else((impl_IsPattern.f k bt345.1 bt345.2).bind fun t367=>(laws_FnPatterns.j0 k l1 bt350.1 bt350.2 (t367 != bt350.2) bt345.1 bt345.2 bt354.1 bt354.2.1 bt360.1 bt360.2.1))) else(laws_FnPatterns.j0 k l1 bt350.1 bt350.2 true bt345.1 bt345.2 bt354.1 bt354.2.1 bt360.1 bt360.2.1)))) else(laws_FnPatterns.j0 k l1 bt350.1 bt350.2 true bt345.1 bt345.2 bt354.1 bt354.2.1 bt360.1 bt360.2.1)))))))))
def laws_FnPatterns.T22:Bool×List (List Nat×List Nat):=(true,[([],[]),([0],[0]),([1],[1]),([2],[2]),([2],[2]),([3,4,2],[2,3,4]),([2,5],[2,5]),([6,2],[6]),([7],[7]),([8,7],[7,8]),([7,9],[7,9]),([10,7],[10]),([11],[11]),([12,11],[11,12]),([11,13],[11,13]),([14,11],[14]),([15],[15]),([15],[15]),([16,17,15],[15,16,17]),([15,18],[15,18]),([19,15],[19]),([20],[20]),([20],[20]),([22,20],[20,22]),([20],[20]),([20],[20]),([25,20],[20,25]),([24,26,20],[20,24,26]),([23,27,20,20],[20,23,27]),([21,28,20],[20,21,28]),([20,29],[20,29])])
def laws_FnPatterns.B22:List Nat:=[0,1,3,7,7,31,63,127,255,511,1023,2047,4095,8191,16383,32767,65535,65535,262143,524287,1048575,2097151,2097151,6291455,2097151,2097151,35651583,119537663,266338303,536870911,1073741823]
theorem laws_FnPatterns.tab22:rtab .any (opsOf Try.f3 22)=laws_FnPatterns.T22:=by kernel_rfl
theorem laws_FnPatterns.bits22:waitsOk laws_FnPatterns.T22.2 laws_FnPatterns.B22=true:=by kernel_rfl
def laws_FnPatterns.T42:Bool×List (List Nat×List Nat):=(true,[([],[]),([0],[0]),([],[]),([1,2],[1,2]),([3],[3]),([],[]),([5],[5]),([],[]),([7],[7]),([6,8],[6,8]),([9],[9]),([4,10],[4,10]),([11,0,1,2,3,4,5,6,7,8,9,10,11],[11])])
def laws_FnPatterns.B42:List Nat:=[0,1,0,7,15,0,32,0,128,480,992,2047,4095]
theorem laws_FnPatterns.tab42:rtab .any (opsOf Try.f3 42)=laws_FnPatterns.T42:=by kernel_rfl
theorem laws_FnPatterns.bits42:waitsOk laws_FnPatterns.T42.2 laws_FnPatterns.B42=true:=by kernel_rfl
set_option maxHeartbeats 8000000 in
set_option maxRecDepth 100000 in
theorem laws_FnPatterns.calls (k:Nat) (A0:Option Addr) (c0:Nat) (l0:List Int) (A1:Option Addr) (c1:Nat) (l1:List Int) (r:Bool) (w:World) (hr0:Kd.C (Kd.int .u8) w A0 l0.length l0) (hc0:l0.length≤c0) (hr1:Kd.C (Kd.int .u8) w A1 l1.length l1) (hc1:l1.length≤c1) (h:laws_FnPatterns.f k l0 l1=some r) (hrt:Aside0 (r=true)) :
  Calls Try.prog 3 #[.slice A0 l0.length c0,.slice A1 l1.length c1] w fun e w'=>e = .returned (.bool r)∧Below w.heap.size w w':=by
 have hu26:=Try.underlying26
 have HR0:=am hr0
 have HC0:=am hc0
 clear hr0 hc0
 have HR1:=am hr1
 have HC1:=am hc1
 clear hr1 hc1
 have HB:=am (Below.refl w.heap.size w)
 have H:((laws_big.f l0 l1).bind fun t344=>(if t344=true then(some true) else((spec_DrawPatternText.f k l0).bind fun bt345=>((impl_PatternText.f k bt345.1 bt345.2).bind fun bt350=>((spec_PatternText.f k bt345.1 bt345.2).bind fun bt352=>((impl_OtherBeats.f k bt345.1 bt345.2).bind fun bt354=>((spec_OtherBeats.f k bt345.1 bt345.2).bind fun bt360=>(if(bt350.2 != bt352.2)=true then(laws_FnPatterns.j0 k l1 bt350.1 bt350.2 true bt345.1 bt345.2 bt354.1 bt354.2.1 bt360.1 bt360.2.1) else(if bt350.1.toList=bt352.1.toList then(if(bt354.2.2 != bt360.2.2)=true then(laws_FnPatterns.j0 k l1 bt350.1 bt350.2 true bt345.1 bt345.2 bt354.1 bt354.2.1 bt360.1 bt360.2.1) else((laws_pSamePattern.f k bt354.1 bt354.2.1 bt360.1 bt360.2.1).bind fun t366=>(if t366=true then(if(bt354.2.2 != bt350.2)=true then(laws_FnPatterns.j0 k l1 bt350.1 bt350.2 true bt345.1 bt345.2 bt354.1 bt354.2.1 bt360.1 bt360.2.1) else((impl_IsPattern.f k bt345.1 bt345.2).bind fun t367=>(laws_FnPatterns.j0 k l1 bt350.1 bt350.2 (t367 != bt350.2) bt345.1 bt345.2 bt354.1 bt354.2.1 bt360.1 bt360.2.1))) else(laws_FnPatterns.j0 k l1 bt350.1 bt350.2 true bt345.1 bt345.2 bt354.1 bt354.2.1 bt360.1 bt360.2.1)))) else(laws_FnPatterns.j0 k l1 bt350.1 bt350.2 true bt345.1 bt345.2 bt354.1 bt354.2.1 bt360.1 bt360.2.1))))))))))=some r:=h
 clear h
 replace H:=Option.bind_eq_some_iff.mp H
 obtain⟨t344,A30,H⟩:=H
 replace H:(if t344=true then(some true) else((spec_DrawPatternText.f k l0).bind fun bt345=>((impl_PatternText.f k bt345.1 bt345.2).bind fun bt350=>((spec_PatternText.f k bt345.1 bt345.2).bind fun bt352=>((impl_OtherBeats.f k bt345.1 bt345.2).bind fun bt354=>((spec_OtherBeats.f k bt345.1 bt345.2).bind fun bt360=>(if(bt350.2 != bt352.2)=true then(laws_FnPatterns.j0 k l1 bt350.1 bt350.2 true bt345.1 bt345.2 bt354.1 bt354.2.1 bt360.1 bt360.2.1) else(if bt350.1.toList=bt352.1.toList then(if(bt354.2.2 != bt360.2.2)=true then(laws_FnPatterns.j0 k l1 bt350.1 bt350.2 true bt345.1 bt345.2 bt354.1 bt354.2.1 bt360.1 bt360.2.1) else((laws_pSamePattern.f k bt354.1 bt354.2.1 bt360.1 bt360.2.1).bind fun t366=>(if t366=true then(if(bt354.2.2 != bt350.2)=true then(laws_FnPatterns.j0 k l1 bt350.1 bt350.2 true bt345.1 bt345.2 bt354.1 bt354.2.1 bt360.1 bt360.2.1) else((impl_IsPattern.f k bt345.1 bt345.2).bind fun t367=>(laws_FnPatterns.j0 k l1 bt350.1 bt350.2 (t367 != bt350.2) bt345.1 bt345.2 bt354.1 bt354.2.1 bt360.1 bt360.2.1))) else(laws_FnPatterns.j0 k l1 bt350.1 bt350.2 true bt345.1 bt345.2 bt354.1 bt354.2.1 bt360.1 bt360.2.1)))) else(laws_FnPatterns.j0 k l1 bt350.1 bt350.2 true bt345.1 bt345.2 bt354.1 bt354.2.1 bt360.1 bt360.2.1)))))))))=some r:=H
 have A3:=am A30
 clear A30
 by_cases c4:t344=true
 ·subst c4
  have H1:(some true)=some r:=by rw[if_pos rfl] at H;exact H
  clear H
  have H:=H1
  clear H1
  obtain rfl:=Option.some.inj H
  go_enter Try.func3,Try.ntmps3
  go_wp2_with (first|((with_reducible refine gate_callee (f:=4) rfl ?_);refine goesL_ (some 51) rfl rfl Try.func4 (by kernel_rfl) rfl #[.slice A0 l0.length c0,.slice A1 l1.length c1] rfl tl ?_;(with_reducible refine(laws_big.calls _ _ l0 _ _ l1 true _ ?side1 ?side2 ?side3 ?side4 A3.out).mono ?_);(case side1=>repeat(first|exact HR0.out|(with_reducible refine Kd.C_alloc ?_ _)|(with_reducible refine Kd.C_drewN ?_ _)|(with_reducible refine Kd.C_drew ?_)));(case side2=>exact HC0.out);(case side3=>repeat(first|exact HR1.out|(with_reducible refine Kd.C_alloc ?_ _)|(with_reducible refine Kd.C_drewN ?_ _)|(with_reducible refine Kd.C_drew ?_)));(case side4=>exact HC1.out);rintro e w' ⟨rfl,⟨nd,rfl⟩⟩;refine⟨_,rfl,?_⟩))
  go_ret
  exact⟨fin1,bl⟩
 ·replace c4:=Bool.eq_false_iff.mpr c4
  subst c4
  have H1:((spec_DrawPatternText.f k l0).bind fun bt345=>((impl_PatternText.f k bt345.1 bt345.2).bind fun bt350=>((spec_PatternText.f k bt345.1 bt345.2).bind fun bt352=>((impl_OtherBeats.f k bt345.1 bt345.2).bind fun bt354=>((spec_OtherBeats.f k bt345.1 bt345.2).bind fun bt360=>(if(bt350.2 != bt352.2)=true then(laws_FnPatterns.j0 k l1 bt350.1 bt350.2 true bt345.1 bt345.2 bt354.1 bt354.2.1 bt360.1 bt360.2.1) else(if bt350.1.toList=bt352.1.toList then(if(bt354.2.2 != bt360.2.2)=true then(laws_FnPatterns.j0 k l1 bt350.1 bt350.2 true bt345.1 bt345.2 bt354.1 bt354.2.1 bt360.1 bt360.2.1) else((laws_pSamePattern.f k bt354.1 bt354.2.1 bt360.1 bt360.2.1).bind fun t366=>(if t366=true then(if(bt354.2.2 != bt350.2)=true then(laws_FnPatterns.j0 k l1 bt350.1 bt350.2 true bt345.1 bt345.2 bt354.1 bt354.2.1 bt360.1 bt360.2.1) else((impl_IsPattern.f k bt345.1 bt345.2).bind fun t367=>(laws_FnPatterns.j0 k l1 bt350.1 bt350.2 (t367 != bt350.2) bt345.1 bt345.2 bt354.1 bt354.2.1 bt360.1 bt360.2.1))) else(laws_FnPatterns.j0 k l1 bt350.1 bt350.2 true bt345.1 bt345.2 bt354.1 bt354.2.1 bt360.1 bt360.2.1)))) else(laws_FnPatterns.j0 k l1 bt350.1 bt350.2 true bt345.1 bt345.2 bt354.1 bt354.2.1 bt360.1 bt360.2.1))))))))=some r:=by rw[if_neg (show ¬ (false=true) by decide)] at H;exact H
  clear H
  have H:=H1
  clear H1
  replace H:=Option.bind_eq_some_iff.mp H
  obtain⟨⟨t345,t346⟩,A50,H⟩:=H
  replace H:((impl_PatternText.f k t345 t346).bind fun bt350=>((spec_PatternText.f k t345 t346).bind fun bt352=>((impl_OtherBeats.f k t345 t346).bind fun bt354=>((spec_OtherBeats.f k t345 t346).bind fun bt360=>(if(bt350.2 != bt352.2)=true then(laws_FnPatterns.j0 k l1 bt350.1 bt350.2 true t345 t346 bt354.1 bt354.2.1 bt360.1 bt360.2.1) else(if bt350.1.toList=bt352.1.toList then(if(bt354.2.2 != bt360.2.2)=true then(laws_FnPatterns.j0 k l1 bt350.1 bt350.2 true t345 t346 bt354.1 bt354.2.1 bt360.1 bt360.2.1) else((laws_pSamePattern.f k bt354.1 bt354.2.1 bt360.1 bt360.2.1).bind fun t366=>(if t366=true then(if(bt354.2.2 != bt350.2)=true then(laws_FnPatterns.j0 k l1 bt350.1 bt350.2 true t345 t346 bt354.1 bt354.2.1 bt360.1 bt360.2.1) else((impl_IsPattern.f k t345 t346).bind fun t367=>(laws_FnPatterns.j0 k l1 bt350.1 bt350.2 (t367 != bt350.2) t345 t346 bt354.1 bt354.2.1 bt360.1 bt360.2.1))) else(laws_FnPatterns.j0 k l1 bt350.1 bt350.2 true t345 t346 bt354.1 bt354.2.1 bt360.1 bt360.2.1)))) else(laws_FnPatterns.j0 k l1 bt350.1 bt350.2 true t345 t346 bt354.1 bt354.2.1 bt360.1 bt360.2.1)))))))=some r:=H
  have A5:=am A50
  clear A50
  replace H:=Option.bind_eq_some_iff.mp H
  obtain⟨⟨t350,t351⟩,A60,H⟩:=H
  replace H:((spec_PatternText.f k t345 t346).bind fun bt352=>((impl_OtherBeats.f k t345 t346).bind fun bt354=>((spec_OtherBeats.f k t345 t346).bind fun bt360=>(if(t351 != bt352.2)=true then(laws_FnPatterns.j0 k l1 t350 t351 true t345 t346 bt354.1 bt354.2.1 bt360.1 bt360.2.1) else(if t350.toList=bt352.1.toList then(if(bt354.2.2 != bt360.2.2)=true then(laws_FnPatterns.j0 k l1 t350 t351 true t345 t346 bt354.1 bt354.2.1 bt360.1 bt360.2.1) else((laws_pSamePattern.f k bt354.1 bt354.2.1 bt360.1 bt360.2.1).bind fun t366=>(if t366=true then(if(bt354.2.2 != t351)=true then(laws_FnPatterns.j0 k l1 t350 t351 true t345 t346 bt354.1 bt354.2.1 bt360.1 bt360.2.1) else((impl_IsPattern.f k t345 t346).bind fun t367=>(laws_FnPatterns.j0 k l1 t350 t351 (t367 != t351) t345 t346 bt354.1 bt354.2.1 bt360.1 bt360.2.1))) else(laws_FnPatterns.j0 k l1 t350 t351 true t345 t346 bt354.1 bt354.2.1 bt360.1 bt360.2.1)))) else(laws_FnPatterns.j0 k l1 t350 t351 true t345 t346 bt354.1 bt354.2.1 bt360.1 bt360.2.1))))))=some r:=H
  have A6:=am A60
  clear A60
  replace H:=Option.bind_eq_some_iff.mp H
  obtain⟨⟨t352,t353⟩,A70,H⟩:=H
  replace H:((impl_OtherBeats.f k t345 t346).bind fun bt354=>((spec_OtherBeats.f k t345 t346).bind fun bt360=>(if(t351 != t353)=true then(laws_FnPatterns.j0 k l1 t350 t351 true t345 t346 bt354.1 bt354.2.1 bt360.1 bt360.2.1) else(if t350.toList=t352.toList then(if(bt354.2.2 != bt360.2.2)=true then(laws_FnPatterns.j0 k l1 t350 t351 true t345 t346 bt354.1 bt354.2.1 bt360.1 bt360.2.1) else((laws_pSamePattern.f k bt354.1 bt354.2.1 bt360.1 bt360.2.1).bind fun t366=>(if t366=true then(if(bt354.2.2 != t351)=true then(laws_FnPatterns.j0 k l1 t350 t351 true t345 t346 bt354.1 bt354.2.1 bt360.1 bt360.2.1) else((impl_IsPattern.f k t345 t346).bind fun t367=>(laws_FnPatterns.j0 k l1 t350 t351 (t367 != t351) t345 t346 bt354.1 bt354.2.1 bt360.1 bt360.2.1))) else(laws_FnPatterns.j0 k l1 t350 t351 true t345 t346 bt354.1 bt354.2.1 bt360.1 bt360.2.1)))) else(laws_FnPatterns.j0 k l1 t350 t351 true t345 t346 bt354.1 bt354.2.1 bt360.1 bt360.2.1)))))=some r:=H
  have A7:=am A70
  clear A70
  replace H:=Option.bind_eq_some_iff.mp H
  obtain⟨⟨t354,t355,t358⟩,A80,H⟩:=H
  replace H:((spec_OtherBeats.f k t345 t346).bind fun bt360=>(if(t351 != t353)=true then(laws_FnPatterns.j0 k l1 t350 t351 true t345 t346 t354 t355 bt360.1 bt360.2.1) else(if t350.toList=t352.toList then(if(t358 != bt360.2.2)=true then(laws_FnPatterns.j0 k l1 t350 t351 true t345 t346 t354 t355 bt360.1 bt360.2.1) else((laws_pSamePattern.f k t354 t355 bt360.1 bt360.2.1).bind fun t366=>(if t366=true then(if(t358 != t351)=true then(laws_FnPatterns.j0 k l1 t350 t351 true t345 t346 t354 t355 bt360.1 bt360.2.1) else((impl_IsPattern.f k t345 t346).bind fun t367=>(laws_FnPatterns.j0 k l1 t350 t351 (t367 != t351) t345 t346 t354 t355 bt360.1 bt360.2.1))) else(laws_FnPatterns.j0 k l1 t350 t351 true t345 t346 t354 t355 bt360.1 bt360.2.1)))) else(laws_FnPatterns.j0 k l1 t350 t351 true t345 t346 t354 t355 bt360.1 bt360.2.1))))=some r:=H
  have A8:=am A80
  clear A80
  replace H:=Option.bind_eq_some_iff.mp H
  obtain⟨⟨t360,t361,t364⟩,A90,H⟩:=H
  replace H:(if(t351 != t353)=true then(laws_FnPatterns.j0 k l1 t350 t351 true t345 t346 t354 t355 t360 t361) else(if t350.toList=t352.toList then(if(t358 != t364)=true then(laws_FnPatterns.j0 k l1 t350 t351 true t345 t346 t354 t355 t360 t361) else((laws_pSamePattern.f k t354 t355 t360 t361).bind fun t366=>(if t366=true then(if(t358 != t351)=true then(laws_FnPatterns.j0 k l1 t350 t351 true t345 t346 t354 t355 t360 t361) else((impl_IsPattern.f k t345 t346).bind fun t367=>(laws_FnPatterns.j0 k l1 t350 t351 (t367 != t351) t345 t346 t354 t355 t360 t361))) else(laws_FnPatterns.j0 k l1 t350 t351 true t345 t346 t354 t355 t360 t361)))) else(laws_FnPatterns.j0 k l1 t350 t351 true t345 t346 t354 t355 t360 t361)))=some r:=H
  have A9:=am A90
  clear A90
  have HC10:=am H
  clear H
  go_enter Try.func3,Try.ntmps3
  go_upto_region 8 with(first|((with_reducible refine gate_callee (f:=4) rfl ?_);refine goesL_ (some 51) rfl rfl Try.func4 (by kernel_rfl) rfl #[.slice A0 l0.length c0,.slice A1 l1.length c1] rfl tl ?_;(with_reducible refine(laws_big.calls _ _ l0 _ _ l1 false _ ?side1 ?side2 ?side3 ?side4 A3.out).mono ?_);(case side1=>repeat(first|exact HR0.out|(with_reducible refine Kd.C_alloc ?_ _)|(with_reducible refine Kd.C_drewN ?_ _)|(with_reducible refine Kd.C_drew ?_)));(case side2=>exact HC0.out);(case side3=>repeat(first|exact HR1.out|(with_reducible refine Kd.C_alloc ?_ _)|(with_reducible refine Kd.C_drewN ?_ _)|(with_reducible refine Kd.C_drew ?_)));(case side4=>exact HC1.out);rintro e w' ⟨rfl,⟨nd,rfl⟩⟩;refine⟨_,rfl,?_⟩)|((with_reducible refine gate_callee (f:=5) rfl ?_);refine goesL_ (some 53) rfl rfl Try.func5 (by kernel_rfl) rfl #[.slice A0 l0.length c0] rfl tl ?_;(with_reducible refine(spec_DrawPatternText.calls k _ _ l0 t345 t346 _ ?side1 ?side2 A5.out).mono ?_);(case side1=>repeat(first|exact HR0.out|(with_reducible refine Kd.C_alloc ?_ _)|(with_reducible refine Kd.C_drewN ?_ _)|(with_reducible refine Kd.C_drew ?_)));(case side2=>exact HC0.out);rintro e w11 ⟨v347,rfl,ho0,hb⟩;refine⟨_,rfl,?_⟩;have n0_:=am (Kd.R_lower ho0 (below_size bl));have n1_:=am (below_step bl hb);clear HB;have HO348:=n0_;have HB:=n1_;clear n0_ n1_;(try clear hb);(try clear hb2);(try clear hk);(try clear hi);(try clear ho0))|((with_reducible refine gate_dst (N:=5) rfl ?_);(try(refine gate_guard (by rfl) ?_;dsimp only));refine box_event ?hg (N:=5) ?hd (cs := #[.int .i64 0,.slice none 0 0]) (t:=26) ?hr ?_;(case hd=>rfl);(case hg=>rfl);(case hr=>first|(go_simp;done)|(go_simp;rfl));intro gb349 hg w12 hbox hb;have n0_:=am (Kd.R_below (rup HO348.out) hb);have n1_:=am (below_step bl hb);have n2_:=am (hbox);have n3_:=am (ge_ bl hg);have n4_:=am (ge_ bl hg);clear HO348 HB;have HO348:=n0_;have HB:=n1_;have BK349:=n2_;have GW349:=n3_;have GE349:=n4_;clear n0_ n1_ n2_ n3_ n4_ hb hbox hg;have hcz13_0:w12.cell? ⟨gb349,0,none⟩=some (.int .i64 0):=(blk_cell BK349.out 0).trans rfl;have hcz13_1:w12.cell? ⟨gb349,1,none⟩=some (.slice none 0 0):=(blk_cell BK349.out 1).trans rfl;have hfz13_0:=blk_frozen BK349.out 0;have hfz13_1:=blk_frozen BK349.out 1;obtain⟨Ao14,co14,eo14⟩:=Kd.R_slice HO348.out;subst eo14)|((with_reducible refine gate_callee (f:=6) rfl ?_);refine goesL_ (some 56) rfl rfl Try.func6 (by kernel_rfl) rfl #[.agg #[.int .i64 t345,.slice Ao14 t346.length co14]] rfl tl ?_;(with_reducible refine(impl_PatternText.calls k t345 _ _ t346 t350 t351 _ ?side1 ?side2 A6.out).mono ?_);(case side1=>refine(Kd.R_reads' (e:=3) (base:=w.heap.size) (ok:=fun k_=>True) (n:=t346.length) (c:=co14) ?_).2.2;exact(by(with_reducible repeat(first|apply Kd.R_alloc|apply Kd.R_drewN|apply Kd.R_drew));exact(Kd.R_mono (Kd.R_far (p:=⟨gb349,1,none⟩) (Kd.R_far (p:=⟨gb349,0,none⟩) (Kd.R_types HO348.out BK349.out (by decide)) (fun _ hk=>hk.2) (.int .i64 t345)) (fun _ hk=>hk.2) (.slice Ao14 t346.length co14)) (fun _ h_=>h_.1))));(case side2=>exact(Kd.R_reads' HO348.out).2.1);rintro e w15 ⟨rfl,hb⟩;refine⟨_,rfl,?_⟩;have n0_:=am (Kd.R_below (by(with_reducible repeat(first|apply Kd.R_alloc|apply Kd.R_drewN|apply Kd.R_drew));exact(Kd.R_mono (Kd.R_far (p:=⟨gb349,1,none⟩) (Kd.R_far (p:=⟨gb349,0,none⟩) (Kd.R_types HO348.out BK349.out (by decide)) (fun _ hk=>hk.2) (.int .i64 t345)) (fun _ hk=>hk.2) (.slice Ao14 t346.length co14)) (fun _ h_=>h_.1))) hb);have n1_:=am (blk_below (g:=gb349) (o := .cells #[.int .i64 t345,.slice Ao14 t346.length co14] 26 (0,0)) (by(with_reducible repeat(first|refine bN_ ?_ _|refine bD_ ?_|refine bA_ ?_ _));refine blk_put (cs := #[.int .i64 t345,.slice none 0 0]) ?_ 1 _ rfl;(with_reducible repeat(first|refine bN_ ?_ _|refine bD_ ?_|refine bA_ ?_ _));refine blk_put (cs := #[.int .i64 0,.slice none 0 0]) ?_ 0 _ rfl;exact bup BK349.out) hb);have n2_:=am (below_step bl hb);clear HO348 BK349 HB;have HO348:=n0_;have BK349:=n1_;have HB:=n2_;clear n0_ n1_ n2_;(try clear hb);(try clear hb2);(try clear hk);(try clear hi);have hcz16_0:w15.cell? ⟨gb349,0,none⟩=some (.int .i64 t345):=(blk_cell BK349.out 0).trans rfl;have hcz16_1:w15.cell? ⟨gb349,1,none⟩=some (.slice Ao14 t346.length co14):=(blk_cell BK349.out 1).trans rfl;have hfz16_0:=blk_frozen BK349.out 0;have hfz16_1:=blk_frozen BK349.out 1)|((with_reducible refine gate_callee (f:=7) rfl ?_);refine goesL_ (some 61) rfl rfl Try.func7 (by kernel_rfl) rfl #[.agg #[.int .i64 t345,.slice Ao14 t346.length co14]] rfl tl ?_;(with_reducible refine(spec_PatternText.calls k t345 _ _ t346 t352 t353 _ ?side1 ?side2 A7.out).mono ?_);(case side1=>repeat(first|exact(Kd.R_reads' HO348.out).2.2|(with_reducible refine Kd.C_alloc ?_ _)|(with_reducible refine Kd.C_drewN ?_ _)|(with_reducible refine Kd.C_drew ?_)));(case side2=>exact(Kd.R_reads' HO348.out).2.1);rintro e w17 ⟨rfl,hb⟩;refine⟨_,rfl,?_⟩;have n0_:=am (Kd.R_below (rup HO348.out) hb);have n1_:=am (blk_below (bup BK349.out) hb);have n2_:=am (below_step bl hb);clear HO348 BK349 HB;have HO348:=n0_;have BK349:=n1_;have HB:=n2_;clear n0_ n1_ n2_;(try clear hb);(try clear hb2);(try clear hk);(try clear hi);have hcz18_0:w17.cell? ⟨gb349,0,none⟩=some (.int .i64 t345):=(blk_cell BK349.out 0).trans rfl;have hcz18_1:w17.cell? ⟨gb349,1,none⟩=some (.slice Ao14 t346.length co14):=(blk_cell BK349.out 1).trans rfl;have hfz18_0:=blk_frozen BK349.out 0;have hfz18_1:=blk_frozen BK349.out 1)|((with_reducible refine gate_callee (f:=8) rfl ?_);refine goesL_ (some 66) rfl rfl Try.func8 (by kernel_rfl) rfl #[.agg #[.int .i64 t345,.slice Ao14 t346.length co14]] rfl tl ?_;(with_reducible refine(impl_OtherBeats.calls k t345 _ _ t346 t354 t355 t358 _ ?side1 ?side2 A8.out).mono ?_);(case side1=>repeat(first|exact(Kd.R_reads' HO348.out).2.2|(with_reducible refine Kd.C_alloc ?_ _)|(with_reducible refine Kd.C_drewN ?_ _)|(with_reducible refine Kd.C_drew ?_)));(case side2=>exact(Kd.R_reads' HO348.out).2.1);rintro e w19 ⟨v356,rfl,ho0,hb⟩;refine⟨_,rfl,?_⟩;have n0_:=am (Kd.R_elder' (rup HO348.out) (Kd.R_base ho0) hb);have n1_:=am (Kd.R_lower (Kd.R_new' ho0 (Kd.R_lt (rup HO348.out))) (below_size bl));have n2_:=am (blk_below (bup BK349.out) hb);have n3_:=am (below_step bl hb);clear HO348 BK349 HB;have HO348:=n0_;have HO357:=n1_;have BK349:=n2_;have HB:=n3_;clear n0_ n1_ n2_ n3_;(try clear hb);(try clear hb2);(try clear hk);(try clear hi);(try clear ho0))|((with_reducible refine gate_dst (N:=10) rfl ?_);(try(refine gate_guard (by rfl) ?_;dsimp only));refine box_event ?hg (N:=10) ?hd (cs := #[.int .i64 0,.slice none 0 0]) (t:=26) ?hr ?_;(case hd=>rfl);(case hg=>rfl);(case hr=>first|(go_simp;done)|(go_simp;rfl));intro gb359 hg w20 hbox hb;have n0_:=am (Kd.R_below (rup HO348.out) hb);have n1_:=am (Kd.R_below (rup HO357.out) hb);have n2_:=am (blk_below (bup BK349.out) hb);have n3_:=am (below_step bl hb);have n4_:=am (hbox);have n5_:=am (ge_ bl hg);have n6_:=am (ge_ bl hg);have n7_:=am (nl (bup BK349.out) hg);have n8_:=am (ng (bup BK349.out) hg);clear HO348 HO357 BK349 HB;have HO348:=n0_;have HO357:=n1_;have BK349:=n2_;have HB:=n3_;have BK359:=n4_;have GW359:=n5_;have GE359:=n6_;have NB349_359:=n7_;have NB359_349:=n8_;clear n0_ n1_ n2_ n3_ n4_ n5_ n6_ n7_ n8_ hb hbox hg;have hnb21:=NB359_349.out;have hnc21:=NB349_359.out;have hcz22_0:w20.cell? ⟨gb359,0,none⟩=some (.int .i64 0):=(blk_cell BK359.out 0).trans rfl;have hcz22_1:w20.cell? ⟨gb359,1,none⟩=some (.slice none 0 0):=(blk_cell BK359.out 1).trans rfl;have hfz22_0:=blk_frozen BK359.out 0;have hfz22_1:=blk_frozen BK359.out 1;obtain⟨Ao23,co23,eo23⟩:=Kd.R_slice HO357.out;subst eo23;have hcz24_0:w20.cell? ⟨gb349,0,none⟩=some (.int .i64 t345):=(blk_cell BK349.out 0).trans rfl;have hcz24_1:w20.cell? ⟨gb349,1,none⟩=some (.slice Ao14 t346.length co14):=(blk_cell BK349.out 1).trans rfl;have hfz24_0:=blk_frozen BK349.out 0;have hfz24_1:=blk_frozen BK349.out 1)|((with_reducible refine gate_callee (f:=9) rfl ?_);refine goesL_ (some 71) rfl rfl Try.func9 (by kernel_rfl) rfl #[.agg #[.int .i64 t345,.slice Ao14 t346.length co14]] rfl tl ?_;(with_reducible refine(spec_OtherBeats.calls k t345 _ _ t346 t360 t361 t364 _ ?side1 ?side2 A9.out).mono ?_);(case side1=>refine(Kd.R_reads' (e:=3) (base:=w.heap.size) (ok:=fun k_=>(True∧some k_≠(.slice Ao23 t355.length co23:Value).ownBlock)) (n:=t346.length) (c:=co14) ?_).2.2;exact(by(with_reducible repeat(first|apply Kd.R_alloc|apply Kd.R_drewN|apply Kd.R_drew));exact(Kd.R_mono (Kd.R_far (p:=⟨gb359,1,none⟩) (Kd.R_far (p:=⟨gb359,0,none⟩) (Kd.R_types HO348.out BK359.out (by decide)) (fun _ hk=>hk.2) (.int .i64 t354)) (fun _ hk=>hk.2) (.slice Ao23 t355.length co23)) (fun _ h_=>h_.1))));(case side2=>exact(Kd.R_reads' HO348.out).2.1);rintro e w25 ⟨v362,rfl,ho0,hb⟩;refine⟨_,rfl,?_⟩;have n0_:=am (Kd.R_elder' (by(with_reducible repeat(first|apply Kd.R_alloc|apply Kd.R_drewN|apply Kd.R_drew));exact(Kd.R_mono (Kd.R_far (p:=⟨gb359,1,none⟩) (Kd.R_far (p:=⟨gb359,0,none⟩) (Kd.R_types HO348.out BK359.out (by decide)) (fun _ hk=>hk.2) (.int .i64 t354)) (fun _ hk=>hk.2) (.slice Ao23 t355.length co23)) (fun _ h_=>h_.1))) (Kd.R_base ho0) hb);have n1_:=am (Kd.R_elder' (by(with_reducible repeat(first|apply Kd.R_alloc|apply Kd.R_drewN|apply Kd.R_drew));exact(Kd.R_mono (Kd.R_far (p:=⟨gb359,1,none⟩) (Kd.R_far (p:=⟨gb359,0,none⟩) (Kd.R_types HO357.out BK359.out (by decide)) (fun _ hk=>hk.2) (.int .i64 t354)) (fun _ hk=>hk.2) (.slice Ao23 t355.length co23)) (fun _ h_=>h_.1))) (Kd.R_base ho0) hb);have n2_:=am (Kd.R_lower (Kd.R_new' (Kd.R_new' ho0 (Kd.R_lt (by(with_reducible repeat(first|apply Kd.R_alloc|apply Kd.R_drewN|apply Kd.R_drew));exact(Kd.R_mono (Kd.R_far (p:=⟨gb359,1,none⟩) (Kd.R_far (p:=⟨gb359,0,none⟩) (Kd.R_types HO348.out BK359.out (by decide)) (fun _ hk=>hk.2) (.int .i64 t354)) (fun _ hk=>hk.2) (.slice Ao23 t355.length co23)) (fun _ h_=>h_.1))))) (Kd.R_lt (by(with_reducible repeat(first|apply Kd.R_alloc|apply Kd.R_drewN|apply Kd.R_drew));exact(Kd.R_mono (Kd.R_far (p:=⟨gb359,1,none⟩) (Kd.R_far (p:=⟨gb359,0,none⟩) (Kd.R_types HO357.out BK359.out (by decide)) (fun _ hk=>hk.2) (.int .i64 t354)) (fun _ hk=>hk.2) (.slice Ao23 t355.length co23)) (fun _ h_=>h_.1))))) (below_size bl));have n3_:=am (blk_below (g:=gb349) (o := .cells #[.int .i64 t345,.slice Ao14 t346.length co14] 26 (0,0)) (by(with_reducible repeat(first|refine bN_ ?_ _|refine bD_ ?_|refine bA_ ?_ _));refine blk_far ?_ NB349_359.out _;(with_reducible repeat(first|refine bN_ ?_ _|refine bD_ ?_|refine bA_ ?_ _));refine blk_far ?_ NB349_359.out _;exact bup BK349.out) hb);have n4_:=am (blk_below (g:=gb359) (o := .cells #[.int .i64 t354,.slice Ao23 t355.length co23] 26 (0,0)) (by(with_reducible repeat(first|refine bN_ ?_ _|refine bD_ ?_|refine bA_ ?_ _));refine blk_put (cs := #[.int .i64 t354,.slice none 0 0]) ?_ 1 _ rfl;(with_reducible repeat(first|refine bN_ ?_ _|refine bD_ ?_|refine bA_ ?_ _));refine blk_put (cs := #[.int .i64 0,.slice none 0 0]) ?_ 0 _ rfl;exact bup BK359.out) hb);have n5_:=am (below_step bl hb);clear HO348 HO357 BK349 BK359 HB;have HO348:=n0_;have HO357:=n1_;have HO363:=n2_;have BK349:=n3_;have BK359:=n4_;have HB:=n5_;clear n0_ n1_ n2_ n3_ n4_ n5_;(try clear hb);(try clear hb2);(try clear hk);(try clear hi);(try clear ho0))|((with_reducible refine gate_dst (N:=12) rfl ?_);(try(refine gate_guard (by rfl) ?_;dsimp only));refine box_event ?hg (N:=12) ?hd (cs := #[.int .i64 0,.slice none 0 0]) (t:=26) ?hr ?_;(case hd=>rfl);(case hg=>rfl);(case hr=>first|(go_simp;done)|(go_simp;rfl));intro gb365 hg w26 hbox hb;have n0_:=am (Kd.R_below (rup HO348.out) hb);have n1_:=am (Kd.R_below (rup HO357.out) hb);have n2_:=am (Kd.R_below (rup HO363.out) hb);have n3_:=am (blk_below (bup BK349.out) hb);have n4_:=am (blk_below (bup BK359.out) hb);have n5_:=am (below_step bl hb);have n6_:=am (hbox);have n7_:=am (ge_ bl hg);have n8_:=am (ge_ bl hg);have n9_:=am (nl (bup BK349.out) hg);have n10_:=am (ng (bup BK349.out) hg);have n11_:=am (nl (bup BK359.out) hg);have n12_:=am (ng (bup BK359.out) hg);clear HO348 HO357 HO363 BK349 BK359 HB;have HO348:=n0_;have HO357:=n1_;have HO363:=n2_;have BK349:=n3_;have BK359:=n4_;have HB:=n5_;have BK365:=n6_;have GW365:=n7_;have GE365:=n8_;have NB349_365:=n9_;have NB365_349:=n10_;have NB359_365:=n11_;have NB365_359:=n12_;clear n0_ n1_ n2_ n3_ n4_ n5_ n6_ n7_ n8_ n9_ n10_ n11_ n12_ hb hbox hg;have hnb27:=NB365_349.out;have hnc27:=NB349_365.out;have hnb28:=NB365_359.out;have hnc28:=NB359_365.out;have hcz29_0:w26.cell? ⟨gb365,0,none⟩=some (.int .i64 0):=(blk_cell BK365.out 0).trans rfl;have hcz29_1:w26.cell? ⟨gb365,1,none⟩=some (.slice none 0 0):=(blk_cell BK365.out 1).trans rfl;have hfz29_0:=blk_frozen BK365.out 0;have hfz29_1:=blk_frozen BK365.out 1;obtain⟨Ao30,co30,eo30⟩:=Kd.R_slice HO363.out;subst eo30))
  (try simp only[Act.put,List.setIfInBounds_toArray,List.set_cons_zero,List.set_cons_succ])
  go_cut [103] (fun v103 wc=>∃(kq:Nat) (x103_9:Bool),v103 = .bool x103_9∧Aside0 (laws_FnPatterns.j0 kq l1 t350 t351 x103_9 t345 t346 t354 t355 t360 t361=some r)∧Aside0 (kq≤k)∧Aside0 (Kd.R (Kd.int .i64) 3 wc w.heap.size (fun k_=>some k_≠((.slice Ao23 t355.length co23):Value).ownBlock∧some k_≠((.slice Ao30 t361.length co30):Value).ownBlock) (.slice Ao14 t346.length co14) t346)∧Aside0 (Kd.R (Kd.int .i64) 3 wc w.heap.size (fun k_=>some k_≠((.slice Ao14 t346.length co14):Value).ownBlock∧some k_≠((.slice Ao30 t361.length co30):Value).ownBlock) (.slice Ao23 t355.length co23) t355)∧Aside0 (Kd.R (Kd.int .i64) 3 wc w.heap.size (fun k_=>some k_≠((.slice Ao14 t346.length co14):Value).ownBlock∧some k_≠((.slice Ao23 t355.length co23):Value).ownBlock) (.slice Ao30 t361.length co30) t361)∧Aside0 (wc.heap[gb349]?=some (.cells #[.int .i64 t345,(.slice Ao14 t346.length co14)] 26 (0,0)))∧Aside0 (wc.heap[gb359]?=some (.cells #[.int .i64 t354,(.slice Ao23 t355.length co23)] 26 (0,0)))∧Aside0 (wc.heap[gb365]?=some (.cells #[.int .i64 t360,(.slice Ao30 t361.length co30)] 26 (0,0)))∧Aside0 (Below w.heap.size w wc))
  case first =>
   have H:=HC10.out
   clear HC10
   by_cases c31:(t351 != t353)=true
   ·rw[if_pos c31] at H
    have c31b0:(t351 != t353)=true:=c31
    (try(have c31b1:decide (t351=t353)=false:=by simpa using c31))
    (try(have c31b2:(t351 == t353)=false:=by simpa using c31))
    (try(have c31b3:¬ (t351=t353):=by simpa using c31))
    clear c31
    (first|rw[c31b0]|(simp only[i64_w,i32_w];rw[c31b0])|skip)
    exact absurd hrt.out (laws_FnPatterns.j0_dead H)
   ·rw[if_neg c31] at H
    have c31b0:(t351 != t353)=false:=by simpa using c31
    (try(have c31b1:decide (t351=t353)=true:=by simpa using c31))
    (try(have c31b2:(t351 == t353)=true:=by simpa using c31))
    clear c31
    (first|rw[c31b0]|(simp only[i64_w,i32_w];rw[c31b0])|skip)
    by_cases c32:t350.toList=t352.toList
    ·rw[if_pos c32] at H
     have c32b0:(t350.toList == t352.toList)=true:=beq_iff_eq.mpr c32
     have c32b1:(t350.toList != t352.toList)=false:=bne_eq_false_iff_eq.mpr c32
     clear c32
     by_cases c33:(t358 != t364)=true
     ·rw[if_pos c33] at H
      have c33b0:(t358 != t364)=true:=c33
      (try(have c33b1:decide (t358=t364)=false:=by simpa using c33))
      (try(have c33b2:(t358 == t364)=false:=by simpa using c33))
      (try(have c33b3:¬ (t358=t364):=by simpa using c33))
      clear c33
      exact absurd hrt.out (laws_FnPatterns.j0_dead H)
     ·rw[if_neg c33] at H
      have c33b0:(t358 != t364)=false:=by simpa using c33
      (try(have c33b1:decide (t358=t364)=true:=by simpa using c33))
      (try(have c33b2:(t358 == t364)=true:=by simpa using c33))
      clear c33
      replace H:=Option.bind_eq_some_iff.mp H
      obtain⟨t366,A340,H⟩:=H
      replace H:(if t366=true then(if(t358 != t351)=true then(laws_FnPatterns.j0 k l1 t350 t351 true t345 t346 t354 t355 t360 t361) else((impl_IsPattern.f k t345 t346).bind fun t367=>(laws_FnPatterns.j0 k l1 t350 t351 (t367 != t351) t345 t346 t354 t355 t360 t361))) else(laws_FnPatterns.j0 k l1 t350 t351 true t345 t346 t354 t355 t360 t361))=some r:=H
      have A34:=am A340
      clear A340
      by_cases c35:t366=true
      ·subst c35
       have H1:(if(t358 != t351)=true then(laws_FnPatterns.j0 k l1 t350 t351 true t345 t346 t354 t355 t360 t361) else((impl_IsPattern.f k t345 t346).bind fun t367=>(laws_FnPatterns.j0 k l1 t350 t351 (t367 != t351) t345 t346 t354 t355 t360 t361)))=some r:=by rw[if_pos rfl] at H;exact H
       clear H
       have H:=H1
       clear H1
       by_cases c36:(t358 != t351)=true
       ·rw[if_pos c36] at H
        have c36b0:(t358 != t351)=true:=c36
        (try(have c36b1:decide (t358=t351)=false:=by simpa using c36))
        (try(have c36b2:(t358 == t351)=false:=by simpa using c36))
        (try(have c36b3:¬ (t358=t351):=by simpa using c36))
        clear c36
        exact absurd hrt.out (laws_FnPatterns.j0_dead H)
       ·rw[if_neg c36] at H
        have c36b0:(t358 != t351)=false:=by simpa using c36
        (try(have c36b1:decide (t358=t351)=true:=by simpa using c36))
        (try(have c36b2:(t358 == t351)=true:=by simpa using c36))
        clear c36
        replace H:=Option.bind_eq_some_iff.mp H
        obtain⟨t367,A430,H⟩:=H
        replace H:(laws_FnPatterns.j0 k l1 t350 t351 (t367 != t351) t345 t346 t354 t355 t360 t361)=some r:=H
        have A43:=am A430
        clear A430
        have H':=am H
        clear H
        have hnb44:=NB359_349.out
        have hnc44:=NB349_359.out
        have hnb45:=NB359_365.out
        have hnc45:=NB365_359.out
        have hcz46_0:w26.cell? ⟨gb359,0,none⟩=some (.int .i64 t354):=(blk_cell BK359.out 0).trans rfl
        have hcz46_1:w26.cell? ⟨gb359,1,none⟩=some (.slice Ao23 t355.length co23):=(blk_cell BK359.out 1).trans rfl
        have hfz46_0:=blk_frozen BK359.out 0
        have hfz46_1:=blk_frozen BK359.out 1
        have hnb47:=NB365_349.out
        have hnc47:=NB349_365.out
        have hcz48_0:w26.cell? ⟨gb365,0,none⟩=some (.int .i64 0):=(blk_cell BK365.out 0).trans rfl
        have hcz48_1:w26.cell? ⟨gb365,1,none⟩=some (.slice none 0 0):=(blk_cell BK365.out 1).trans rfl
        have hfz48_0:=blk_frozen BK365.out 0
        have hfz48_1:=blk_frozen BK365.out 1
        go_wp2_with (first|(go_at_call 10;(with_reducible refine(laws_pSamePattern.calls k t354 _ _ t355 t360 _ _ t361 true _ ?side1 ?side2 ?side3 ?side4 A34.out).mono ?_);(case side1=>refine(Kd.R_reads' (e:=3) (base:=w.heap.size) (ok:=fun k_=>((True∧some k_≠(.slice Ao14 t346.length co14:Value).ownBlock)∧some k_≠(.slice Ao30 t361.length co30:Value).ownBlock)) (n:=t355.length) (c:=co23) ?_).2.2;exact(by(with_reducible repeat(first|apply Kd.R_alloc|apply Kd.R_drewN|apply Kd.R_drew));exact(Kd.R_mono (Kd.R_far (p:=⟨gb365,1,none⟩) (Kd.R_far (p:=⟨gb365,0,none⟩) (Kd.R_types HO357.out BK365.out (by decide)) (fun _ hk=>hk.2) (.int .i64 t360)) (fun _ hk=>hk.2) (.slice Ao30 t361.length co30)) (fun _ h_=>h_.1))));(case side2=>exact(Kd.R_reads' HO357.out).2.1);(case side3=>refine(Kd.R_reads' (e:=3) (base:=w.heap.size) (ok:=fun k_=>((True∧some k_≠(.slice Ao14 t346.length co14:Value).ownBlock)∧some k_≠(.slice Ao23 t355.length co23:Value).ownBlock)) (n:=t361.length) (c:=co30) ?_).2.2;exact(by(with_reducible repeat(first|apply Kd.R_alloc|apply Kd.R_drewN|apply Kd.R_drew));exact(Kd.R_mono (Kd.R_far (p:=⟨gb365,1,none⟩) (Kd.R_far (p:=⟨gb365,0,none⟩) (Kd.R_types HO363.out BK365.out (by decide)) (fun _ hk=>hk.2) (.int .i64 t360)) (fun _ hk=>hk.2) (.slice Ao30 t361.length co30)) (fun _ h_=>h_.1))));(case side4=>exact(Kd.R_reads' HO363.out).2.1);rintro e w49 ⟨rfl,hb⟩;have n0_:=am (Kd.R_below (by(with_reducible repeat(first|apply Kd.R_alloc|apply Kd.R_drewN|apply Kd.R_drew));exact(Kd.R_mono (Kd.R_far (p:=⟨gb365,1,none⟩) (Kd.R_far (p:=⟨gb365,0,none⟩) (Kd.R_types HO348.out BK365.out (by decide)) (fun _ hk=>hk.2) (.int .i64 t360)) (fun _ hk=>hk.2) (.slice Ao30 t361.length co30)) (fun _ h_=>h_.1))) hb);have n1_:=am (Kd.R_below (by(with_reducible repeat(first|apply Kd.R_alloc|apply Kd.R_drewN|apply Kd.R_drew));exact(Kd.R_mono (Kd.R_far (p:=⟨gb365,1,none⟩) (Kd.R_far (p:=⟨gb365,0,none⟩) (Kd.R_types HO357.out BK365.out (by decide)) (fun _ hk=>hk.2) (.int .i64 t360)) (fun _ hk=>hk.2) (.slice Ao30 t361.length co30)) (fun _ h_=>h_.1))) hb);have n2_:=am (Kd.R_below (by(with_reducible repeat(first|apply Kd.R_alloc|apply Kd.R_drewN|apply Kd.R_drew));exact(Kd.R_mono (Kd.R_far (p:=⟨gb365,1,none⟩) (Kd.R_far (p:=⟨gb365,0,none⟩) (Kd.R_types HO363.out BK365.out (by decide)) (fun _ hk=>hk.2) (.int .i64 t360)) (fun _ hk=>hk.2) (.slice Ao30 t361.length co30)) (fun _ h_=>h_.1))) hb);have n3_:=am (blk_below (g:=gb349) (o := .cells #[.int .i64 t345,.slice Ao14 t346.length co14] 26 (0,0)) (by(with_reducible repeat(first|refine bN_ ?_ _|refine bD_ ?_|refine bA_ ?_ _));refine blk_far ?_ NB349_365.out _;(with_reducible repeat(first|refine bN_ ?_ _|refine bD_ ?_|refine bA_ ?_ _));refine blk_far ?_ NB349_365.out _;exact bup BK349.out) hb);have n4_:=am (blk_below (g:=gb359) (o := .cells #[.int .i64 t354,.slice Ao23 t355.length co23] 26 (0,0)) (by(with_reducible repeat(first|refine bN_ ?_ _|refine bD_ ?_|refine bA_ ?_ _));refine blk_far ?_ NB359_365.out _;(with_reducible repeat(first|refine bN_ ?_ _|refine bD_ ?_|refine bA_ ?_ _));refine blk_far ?_ NB359_365.out _;exact bup BK359.out) hb);have n5_:=am (blk_below (g:=gb365) (o := .cells #[.int .i64 t360,.slice Ao30 t361.length co30] 26 (0,0)) (by(with_reducible repeat(first|refine bN_ ?_ _|refine bD_ ?_|refine bA_ ?_ _));refine blk_put (cs := #[.int .i64 t360,.slice none 0 0]) ?_ 1 _ rfl;(with_reducible repeat(first|refine bN_ ?_ _|refine bD_ ?_|refine bA_ ?_ _));refine blk_put (cs := #[.int .i64 0,.slice none 0 0]) ?_ 0 _ rfl;exact bup BK365.out) hb);have n6_:=am (below_step bl hb);clear HO348 HO357 HO363 BK349 BK359 BK365 HB;have HO348:=n0_;have HO357:=n1_;have HO363:=n2_;have BK349:=n3_;have BK359:=n4_;have BK365:=n5_;have HB:=n6_;clear n0_ n1_ n2_ n3_ n4_ n5_ n6_;(try clear hb);(try clear hb2);(try clear hk);(try clear hi);have hcz50_0:w49.cell? ⟨gb349,0,none⟩=some (.int .i64 t345):=(blk_cell BK349.out 0).trans rfl;have hcz50_1:w49.cell? ⟨gb349,1,none⟩=some (.slice Ao14 t346.length co14):=(blk_cell BK349.out 1).trans rfl;have hfz50_0:=blk_frozen BK349.out 0;have hfz50_1:=blk_frozen BK349.out 1)|(go_at_call 11;(with_reducible refine(impl_IsPattern.calls k t345 _ _ t346 t367 _ ?side1 ?side2 A43.out).mono ?_);(case side1=>repeat(first|exact(Kd.R_reads' HO348.out).2.2|(with_reducible refine Kd.C_alloc ?_ _)|(with_reducible refine Kd.C_drewN ?_ _)|(with_reducible refine Kd.C_drew ?_)));(case side2=>exact(Kd.R_reads' HO348.out).2.1);rintro e w51 ⟨rfl,hb⟩;have n0_:=am (Kd.R_below (rup HO348.out) hb);have n1_:=am (Kd.R_below (rup HO357.out) hb);have n2_:=am (Kd.R_below (rup HO363.out) hb);have n3_:=am (blk_below (bup BK349.out) hb);have n4_:=am (blk_below (bup BK359.out) hb);have n5_:=am (blk_below (bup BK365.out) hb);have n6_:=am (below_step bl hb);clear HO348 HO357 HO363 BK349 BK359 BK365 HB;have HO348:=n0_;have HO357:=n1_;have HO363:=n2_;have BK349:=n3_;have BK359:=n4_;have BK365:=n5_;have HB:=n6_;clear n0_ n1_ n2_ n3_ n4_ n5_ n6_;(try clear hb);(try clear hb2);(try clear hk);(try clear hi)))
        go_meet
        case rel=>exact⟨_,((t367 != t351)),fin2,H',⟨by first|omega|exact Nat.le_refl _⟩,⟨rup (Kd.R_mono HO348.out (fun _ hk=>⟨hk.1.2,hk.2⟩))⟩,⟨rup (Kd.R_mono HO357.out (fun _ hk=>⟨hk.1.2,hk.2⟩))⟩,⟨rup (Kd.R_mono HO363.out (fun _ hk=>⟨hk.1.2,hk.2⟩))⟩,⟨bup BK349.out⟩,⟨bup BK359.out⟩,⟨bup BK365.out⟩,⟨bl⟩⟩
      ·replace c35:=Bool.eq_false_iff.mpr c35
       subst c35
       have H1:(laws_FnPatterns.j0 k l1 t350 t351 true t345 t346 t354 t355 t360 t361)=some r:=by rw[if_neg (show ¬ (false=true) by decide)] at H;exact H
       clear H
       have H:=H1
       clear H1
       exact absurd hrt.out (laws_FnPatterns.j0_dead H)
    ·rw[if_neg c32] at H
     have c32b0:(t350.toList == t352.toList)=false:=beq_eq_false_iff_ne.mpr c32
     have c32b1:(t350.toList != t352.toList)=true:=bne_iff_ne.mpr c32
     exact absurd hrt.out (laws_FnPatterns.j0_dead H)
  case rest =>
   as_aux_lemma =>
    clear HC10
    try clear c1
    try clear c2
    try clear p2
    try clear c3
    try clear c4
    try clear c5
    try clear c6
    try clear c7
    try clear c8
    try clear c9
    try clear c21
    try clear c27
    try clear c28
    try clear c31
    try clear c31b0
    try clear c31b1
    try clear c31b2
    try clear c32
    try clear c32b0
    try clear c32b1
    try clear c33
    try clear c33b0
    try clear c33b1
    try clear c33b2
    try clear c35
    try clear c36
    try clear c36b0
    try clear c36b1
    try clear c36b2
    try clear c37
    try clear c38
    try clear c40
    try clear c44
    try clear c45
    try clear c47
    try clear c52
    try clear c53
    try clear c55
    try clear hcz13_0
    try clear hcz13_1
    try clear hcz16_0
    try clear hcz16_1
    try clear hcz18_0
    try clear hcz18_1
    try clear hcz22_0
    try clear hcz22_1
    try clear hcz24_0
    try clear hcz24_1
    try clear hcz29_0
    try clear hcz29_1
    try clear hcz39_0
    try clear hcz39_1
    try clear hcz41_0
    try clear hcz41_1
    try clear hcz46_0
    try clear hcz46_1
    try clear hcz48_0
    try clear hcz48_1
    try clear hcz50_0
    try clear hcz50_1
    try clear hcz54_0
    try clear hcz54_1
    try clear hcz56_0
    try clear hcz56_1
    try clear hfz13_0
    try clear hfz13_1
    try clear hfz16_0
    try clear hfz16_1
    try clear hfz18_0
    try clear hfz18_1
    try clear hfz22_0
    try clear hfz22_1
    try clear hfz24_0
    try clear hfz24_1
    try clear hfz29_0
    try clear hfz29_1
    try clear hfz39_0
    try clear hfz39_1
    try clear hfz41_0
    try clear hfz41_1
    try clear hfz46_0
    try clear hfz46_1
    try clear hfz48_0
    try clear hfz48_1
    try clear hfz50_0
    try clear hfz50_1
    try clear hfz54_0
    try clear hfz54_1
    try clear hfz56_0
    try clear hfz56_1
    obtain⟨kq,x103_9,rfl,HA,HJ9,HO_350001,HO_360001,HO_366001,BK349,BK359,BK365,HB⟩:=hcut
    cases kq with
    | zero=>exact absurd HA.out (by simp [laws_FnPatterns.j0])
    | succ kj9 =>
     have H:=HA.out
     clear HA
     simp only[laws_FnPatterns.j0] at H
     by_cases c58:x103_9=true
     ·subst c58
      have H1:(some false)=some r:=by rw[if_pos rfl] at H;exact H
      clear H
      have H:=H1
      clear H1
      obtain rfl:=Option.some.inj H
      exact absurd hrt.out (by simp)
     ·replace c58:=Bool.eq_false_iff.mpr c58
      subst c58
      have H1:(if t351=true then((impl_ParsePattern.f kj9 t350).bind fun bt368=>((impl_OtherBeats.f kj9 t354 t355).bind fun bt374=>(if bt368.2.2=true then((laws_pSamePattern.f kj9 bt368.1 bt368.2.1 t345 t346).bind fun t380=>(if t380=true then(if bt374.2.2=true then((laws_pSamePattern.f kj9 bt374.1 bt374.2.1 t345 t346).bind fun t381=>(if t381=true then(laws_FnPatterns.j1 kj9 l1 ((wrap64 ((t346.length:Int)+(t361.length:Int))) != t345) t345 t346 t354 t355) else(laws_FnPatterns.j1 kj9 l1 true t345 t346 t354 t355))) else(laws_FnPatterns.j1 kj9 l1 true t345 t346 t354 t355)) else(laws_FnPatterns.j1 kj9 l1 true t345 t346 t354 t355))) else(laws_FnPatterns.j1 kj9 l1 true t345 t346 t354 t355)))) else(laws_FnPatterns.j4 kj9 l1))=some r:=by rw[if_neg (show ¬ (false=true) by decide)] at H;exact H
      clear H
      have H:=H1
      clear H1
      have HC59:=am H
      clear H
      go_upto_if 104 with(fail)
      go_cut [] (fun wc=>∃(kq:Nat),Aside0 (laws_FnPatterns.j4 kq l1=some r)∧Aside0 (kq≤kj9)∧Aside0 (Below w.heap.size w wc))
      case first =>
       have H:=HC59.out
       clear HC59
       by_cases c60:t351=true
       ·subst c60
        have H1:((impl_ParsePattern.f kj9 t350).bind fun bt368=>((impl_OtherBeats.f kj9 t354 t355).bind fun bt374=>(if bt368.2.2=true then((laws_pSamePattern.f kj9 bt368.1 bt368.2.1 t345 t346).bind fun t380=>(if t380=true then(if bt374.2.2=true then((laws_pSamePattern.f kj9 bt374.1 bt374.2.1 t345 t346).bind fun t381=>(if t381=true then(laws_FnPatterns.j1 kj9 l1 ((wrap64 ((t346.length:Int)+(t361.length:Int))) != t345) t345 t346 t354 t355) else(laws_FnPatterns.j1 kj9 l1 true t345 t346 t354 t355))) else(laws_FnPatterns.j1 kj9 l1 true t345 t346 t354 t355)) else(laws_FnPatterns.j1 kj9 l1 true t345 t346 t354 t355))) else(laws_FnPatterns.j1 kj9 l1 true t345 t346 t354 t355))))=some r:=by rw[if_pos rfl] at H;exact H
        clear H
        have H:=H1
        clear H1
        replace H:=Option.bind_eq_some_iff.mp H
        obtain⟨⟨t368,t369,t372⟩,A610,H⟩:=H
        replace H:((impl_OtherBeats.f kj9 t354 t355).bind fun bt374=>(if t372=true then((laws_pSamePattern.f kj9 t368 t369 t345 t346).bind fun t380=>(if t380=true then(if bt374.2.2=true then((laws_pSamePattern.f kj9 bt374.1 bt374.2.1 t345 t346).bind fun t381=>(if t381=true then(laws_FnPatterns.j1 kj9 l1 ((wrap64 ((t346.length:Int)+(t361.length:Int))) != t345) t345 t346 t354 t355) else(laws_FnPatterns.j1 kj9 l1 true t345 t346 t354 t355))) else(laws_FnPatterns.j1 kj9 l1 true t345 t346 t354 t355)) else(laws_FnPatterns.j1 kj9 l1 true t345 t346 t354 t355))) else(laws_FnPatterns.j1 kj9 l1 true t345 t346 t354 t355)))=some r:=H
        have A61:=am A610
        clear A610
        replace H:=Option.bind_eq_some_iff.mp H
        obtain⟨⟨t374,t375,t378⟩,A620,H⟩:=H
        replace H:(if t372=true then((laws_pSamePattern.f kj9 t368 t369 t345 t346).bind fun t380=>(if t380=true then(if t378=true then((laws_pSamePattern.f kj9 t374 t375 t345 t346).bind fun t381=>(if t381=true then(laws_FnPatterns.j1 kj9 l1 ((wrap64 ((t346.length:Int)+(t361.length:Int))) != t345) t345 t346 t354 t355) else(laws_FnPatterns.j1 kj9 l1 true t345 t346 t354 t355))) else(laws_FnPatterns.j1 kj9 l1 true t345 t346 t354 t355)) else(laws_FnPatterns.j1 kj9 l1 true t345 t346 t354 t355))) else(laws_FnPatterns.j1 kj9 l1 true t345 t346 t354 t355))=some r:=H
        have A62:=am A620
        clear A620
        have HC63:=am H
        clear H
        go_upto_region 13 with(first|((with_reducible refine gate_callee (f:=12) rfl ?_);refine goesL_ (some 107) rfl rfl Try.func12 (by kernel_rfl) rfl #[.string t350] rfl tl ?_;(with_reducible refine(impl_ParsePattern.calls kj9 t350 t368 t369 t372 _ A61.out).mono ?_);rintro e w64 ⟨v370,rfl,ho0,hb⟩;refine⟨_,rfl,?_⟩;have n0_:=am (Kd.R_elder' (rup HO_350001.out) (Kd.R_base ho0) hb);have n1_:=am (Kd.R_elder' (rup HO_360001.out) (Kd.R_base ho0) hb);have n2_:=am (Kd.R_elder' (rup HO_366001.out) (Kd.R_base ho0) hb);have n3_:=am (Kd.R_lower (Kd.R_new' (Kd.R_new' (Kd.R_new' ho0 (Kd.R_lt (rup HO_350001.out))) (Kd.R_lt (rup HO_360001.out))) (Kd.R_lt (rup HO_366001.out))) (below_size bl));have n4_:=am (blk_below (bup BK349.out) hb);have n5_:=am (blk_below (bup BK359.out) hb);have n6_:=am (blk_below (bup BK365.out) hb);have n7_:=am (below_step bl hb);clear HO_350001 HO_360001 HO_366001 BK349 BK359 BK365 HB;have HO_350001:=n0_;have HO_360001:=n1_;have HO_366001:=n2_;have HO371:=n3_;have BK349:=n4_;have BK359:=n5_;have BK365:=n6_;have HB:=n7_;clear n0_ n1_ n2_ n3_ n4_ n5_ n6_ n7_;(try clear hb);(try clear hb2);(try clear hk);(try clear hi);(try clear ho0))|((with_reducible refine gate_dst (N:=14) rfl ?_);(try(refine gate_guard (by rfl) ?_;dsimp only));refine box_event ?hg (N:=14) ?hd (cs := #[.int .i64 0,.slice none 0 0]) (t:=26) ?hr ?_;(case hd=>rfl);(case hg=>rfl);(case hr=>first|(go_simp;done)|(go_simp;rfl));intro gb373 hg w65 hbox hb;have n0_:=am (Kd.R_below (rup HO_350001.out) hb);have n1_:=am (Kd.R_below (rup HO_360001.out) hb);have n2_:=am (Kd.R_below (rup HO_366001.out) hb);have n3_:=am (Kd.R_below (rup HO371.out) hb);have n4_:=am (blk_below (bup BK349.out) hb);have n5_:=am (blk_below (bup BK359.out) hb);have n6_:=am (blk_below (bup BK365.out) hb);have n7_:=am (below_step bl hb);have n8_:=am (hbox);have n9_:=am (ge_ bl hg);have n10_:=am (ge_ bl hg);have n11_:=am (nl (bup BK349.out) hg);have n12_:=am (ng (bup BK349.out) hg);have n13_:=am (nl (bup BK359.out) hg);have n14_:=am (ng (bup BK359.out) hg);have n15_:=am (nl (bup BK365.out) hg);have n16_:=am (ng (bup BK365.out) hg);clear HO_350001 HO_360001 HO_366001 HO371 BK349 BK359 BK365 HB;have HO_350001:=n0_;have HO_360001:=n1_;have HO_366001:=n2_;have HO371:=n3_;have BK349:=n4_;have BK359:=n5_;have BK365:=n6_;have HB:=n7_;have BK373:=n8_;have GW373:=n9_;have GE373:=n10_;have NB349_373:=n11_;have NB373_349:=n12_;have NB359_373:=n13_;have NB373_359:=n14_;have NB365_373:=n15_;have NB373_365:=n16_;clear n0_ n1_ n2_ n3_ n4_ n5_ n6_ n7_ n8_ n9_ n10_ n11_ n12_ n13_ n14_ n15_ n16_ hb hbox hg;have hnb66:=NB373_349.out;have hnc66:=NB349_373.out;have hnb67:=NB373_359.out;have hnc67:=NB359_373.out;have hnb68:=NB373_365.out;have hnc68:=NB365_373.out;have hcz69_0:w65.cell? ⟨gb373,0,none⟩=some (.int .i64 0):=(blk_cell BK373.out 0).trans rfl;have hcz69_1:w65.cell? ⟨gb373,1,none⟩=some (.slice none 0 0):=(blk_cell BK373.out 1).trans rfl;have hfz69_0:=blk_frozen BK373.out 0;have hfz69_1:=blk_frozen BK373.out 1;obtain⟨Ao70,co70,eo70⟩:=Kd.R_slice HO371.out;subst eo70;have hnb71:=NB359_349.out;have hnc71:=NB349_359.out;have hnb72:=NB359_365.out;have hnc72:=NB365_359.out;have hcz73_0:w65.cell? ⟨gb359,0,none⟩=some (.int .i64 t354):=(blk_cell BK359.out 0).trans rfl;have hcz73_1:w65.cell? ⟨gb359,1,none⟩=some (.slice Ao23 t355.length co23):=(blk_cell BK359.out 1).trans rfl;have hfz73_0:=blk_frozen BK359.out 0;have hfz73_1:=blk_frozen BK359.out 1)|((with_reducible refine gate_callee (f:=8) rfl ?_);refine goesL_ (some 112) rfl rfl Try.func8 (by kernel_rfl) rfl #[.agg #[.int .i64 t354,.slice Ao23 t355.length co23]] rfl tl ?_;(with_reducible refine(impl_OtherBeats.calls kj9 t354 _ _ t355 t374 t375 t378 _ ?side1 ?side2 A62.out).mono ?_);(case side1=>refine(Kd.R_reads' (e:=3) (base:=w.heap.size) (ok:=fun k_=>((some k_≠(.slice Ao14 t346.length co14:Value).ownBlock∧some k_≠(.slice Ao30 t361.length co30:Value).ownBlock)∧some k_≠(.slice Ao70 t369.length co70:Value).ownBlock)) (n:=t355.length) (c:=co23) ?_).2.2;exact(by(with_reducible repeat(first|apply Kd.R_alloc|apply Kd.R_drewN|apply Kd.R_drew));exact(Kd.R_mono (Kd.R_far (p:=⟨gb373,1,none⟩) (Kd.R_far (p:=⟨gb373,0,none⟩) (Kd.R_types HO_360001.out BK373.out (by decide)) (fun _ hk=>hk.2) (.int .i64 t368)) (fun _ hk=>hk.2) (.slice Ao70 t369.length co70)) (fun _ h_=>h_.1))));(case side2=>exact(Kd.R_reads' HO_360001.out).2.1);rintro e w74 ⟨v376,rfl,ho0,hb⟩;refine⟨_,rfl,?_⟩;have n0_:=am (Kd.R_elder' (by(with_reducible repeat(first|apply Kd.R_alloc|apply Kd.R_drewN|apply Kd.R_drew));exact(Kd.R_mono (Kd.R_far (p:=⟨gb373,1,none⟩) (Kd.R_far (p:=⟨gb373,0,none⟩) (Kd.R_types HO_350001.out BK373.out (by decide)) (fun _ hk=>hk.2) (.int .i64 t368)) (fun _ hk=>hk.2) (.slice Ao70 t369.length co70)) (fun _ h_=>h_.1))) (Kd.R_base ho0) hb);have n1_:=am (Kd.R_elder' (by(with_reducible repeat(first|apply Kd.R_alloc|apply Kd.R_drewN|apply Kd.R_drew));exact(Kd.R_mono (Kd.R_far (p:=⟨gb373,1,none⟩) (Kd.R_far (p:=⟨gb373,0,none⟩) (Kd.R_types HO_360001.out BK373.out (by decide)) (fun _ hk=>hk.2) (.int .i64 t368)) (fun _ hk=>hk.2) (.slice Ao70 t369.length co70)) (fun _ h_=>h_.1))) (Kd.R_base ho0) hb);have n2_:=am (Kd.R_elder' (by(with_reducible repeat(first|apply Kd.R_alloc|apply Kd.R_drewN|apply Kd.R_drew));exact(Kd.R_mono (Kd.R_far (p:=⟨gb373,1,none⟩) (Kd.R_far (p:=⟨gb373,0,none⟩) (Kd.R_types HO_366001.out BK373.out (by decide)) (fun _ hk=>hk.2) (.int .i64 t368)) (fun _ hk=>hk.2) (.slice Ao70 t369.length co70)) (fun _ h_=>h_.1))) (Kd.R_base ho0) hb);have n3_:=am (Kd.R_elder' (by(with_reducible repeat(first|apply Kd.R_alloc|apply Kd.R_drewN|apply Kd.R_drew));exact(Kd.R_mono (Kd.R_far (p:=⟨gb373,1,none⟩) (Kd.R_far (p:=⟨gb373,0,none⟩) (Kd.R_types HO371.out BK373.out (by decide)) (fun _ hk=>hk.2) (.int .i64 t368)) (fun _ hk=>hk.2) (.slice Ao70 t369.length co70)) (fun _ h_=>h_.1))) (Kd.R_base ho0) hb);have n4_:=am (Kd.R_lower (Kd.R_new' (Kd.R_new' (Kd.R_new' (Kd.R_new' ho0 (Kd.R_lt (by(with_reducible repeat(first|apply Kd.R_alloc|apply Kd.R_drewN|apply Kd.R_drew));exact(Kd.R_mono (Kd.R_far (p:=⟨gb373,1,none⟩) (Kd.R_far (p:=⟨gb373,0,none⟩) (Kd.R_types HO_350001.out BK373.out (by decide)) (fun _ hk=>hk.2) (.int .i64 t368)) (fun _ hk=>hk.2) (.slice Ao70 t369.length co70)) (fun _ h_=>h_.1))))) (Kd.R_lt (by(with_reducible repeat(first|apply Kd.R_alloc|apply Kd.R_drewN|apply Kd.R_drew));exact(Kd.R_mono (Kd.R_far (p:=⟨gb373,1,none⟩) (Kd.R_far (p:=⟨gb373,0,none⟩) (Kd.R_types HO_360001.out BK373.out (by decide)) (fun _ hk=>hk.2) (.int .i64 t368)) (fun _ hk=>hk.2) (.slice Ao70 t369.length co70)) (fun _ h_=>h_.1))))) (Kd.R_lt (by(with_reducible repeat(first|apply Kd.R_alloc|apply Kd.R_drewN|apply Kd.R_drew));exact(Kd.R_mono (Kd.R_far (p:=⟨gb373,1,none⟩) (Kd.R_far (p:=⟨gb373,0,none⟩) (Kd.R_types HO_366001.out BK373.out (by decide)) (fun _ hk=>hk.2) (.int .i64 t368)) (fun _ hk=>hk.2) (.slice Ao70 t369.length co70)) (fun _ h_=>h_.1))))) (Kd.R_lt (by(with_reducible repeat(first|apply Kd.R_alloc|apply Kd.R_drewN|apply Kd.R_drew));exact(Kd.R_mono (Kd.R_far (p:=⟨gb373,1,none⟩) (Kd.R_far (p:=⟨gb373,0,none⟩) (Kd.R_types HO371.out BK373.out (by decide)) (fun _ hk=>hk.2) (.int .i64 t368)) (fun _ hk=>hk.2) (.slice Ao70 t369.length co70)) (fun _ h_=>h_.1))))) (below_size bl));have n5_:=am (blk_below (g:=gb349) (o := .cells #[.int .i64 t345,.slice Ao14 t346.length co14] 26 (0,0)) (by(with_reducible repeat(first|refine bN_ ?_ _|refine bD_ ?_|refine bA_ ?_ _));refine blk_far ?_ NB349_373.out _;(with_reducible repeat(first|refine bN_ ?_ _|refine bD_ ?_|refine bA_ ?_ _));refine blk_far ?_ NB349_373.out _;exact bup BK349.out) hb);have n6_:=am (blk_below (g:=gb359) (o := .cells #[.int .i64 t354,.slice Ao23 t355.length co23] 26 (0,0)) (by(with_reducible repeat(first|refine bN_ ?_ _|refine bD_ ?_|refine bA_ ?_ _));refine blk_far ?_ NB359_373.out _;(with_reducible repeat(first|refine bN_ ?_ _|refine bD_ ?_|refine bA_ ?_ _));refine blk_far ?_ NB359_373.out _;exact bup BK359.out) hb);have n7_:=am (blk_below (g:=gb365) (o := .cells #[.int .i64 t360,.slice Ao30 t361.length co30] 26 (0,0)) (by(with_reducible repeat(first|refine bN_ ?_ _|refine bD_ ?_|refine bA_ ?_ _));refine blk_far ?_ NB365_373.out _;(with_reducible repeat(first|refine bN_ ?_ _|refine bD_ ?_|refine bA_ ?_ _));refine blk_far ?_ NB365_373.out _;exact bup BK365.out) hb);have n8_:=am (blk_below (g:=gb373) (o := .cells #[.int .i64 t368,.slice Ao70 t369.length co70] 26 (0,0)) (by(with_reducible repeat(first|refine bN_ ?_ _|refine bD_ ?_|refine bA_ ?_ _));refine blk_put (cs := #[.int .i64 t368,.slice none 0 0]) ?_ 1 _ rfl;(with_reducible repeat(first|refine bN_ ?_ _|refine bD_ ?_|refine bA_ ?_ _));refine blk_put (cs := #[.int .i64 0,.slice none 0 0]) ?_ 0 _ rfl;exact bup BK373.out) hb);have n9_:=am (below_step bl hb);clear HO_350001 HO_360001 HO_366001 HO371 BK349 BK359 BK365 BK373 HB;have HO_350001:=n0_;have HO_360001:=n1_;have HO_366001:=n2_;have HO371:=n3_;have HO377:=n4_;have BK349:=n5_;have BK359:=n6_;have BK365:=n7_;have BK373:=n8_;have HB:=n9_;clear n0_ n1_ n2_ n3_ n4_ n5_ n6_ n7_ n8_ n9_;(try clear hb);(try clear hb2);(try clear hk);(try clear hi);(try clear ho0))|((with_reducible refine gate_dst (N:=16) rfl ?_);(try(refine gate_guard (by rfl) ?_;dsimp only));refine box_event ?hg (N:=16) ?hd (cs := #[.int .i64 0,.slice none 0 0]) (t:=26) ?hr ?_;(case hd=>rfl);(case hg=>rfl);(case hr=>first|(go_simp;done)|(go_simp;rfl));intro gb379 hg w75 hbox hb;have n0_:=am (Kd.R_below (rup HO_350001.out) hb);have n1_:=am (Kd.R_below (rup HO_360001.out) hb);have n2_:=am (Kd.R_below (rup HO_366001.out) hb);have n3_:=am (Kd.R_below (rup HO371.out) hb);have n4_:=am (Kd.R_below (rup HO377.out) hb);have n5_:=am (blk_below (bup BK349.out) hb);have n6_:=am (blk_below (bup BK359.out) hb);have n7_:=am (blk_below (bup BK365.out) hb);have n8_:=am (blk_below (bup BK373.out) hb);have n9_:=am (below_step bl hb);have n10_:=am (hbox);have n11_:=am (ge_ bl hg);have n12_:=am (ge_ bl hg);have n13_:=am (nl (bup BK349.out) hg);have n14_:=am (ng (bup BK349.out) hg);have n15_:=am (nl (bup BK359.out) hg);have n16_:=am (ng (bup BK359.out) hg);have n17_:=am (nl (bup BK365.out) hg);have n18_:=am (ng (bup BK365.out) hg);have n19_:=am (nl (bup BK373.out) hg);have n20_:=am (ng (bup BK373.out) hg);clear HO_350001 HO_360001 HO_366001 HO371 HO377 BK349 BK359 BK365 BK373 HB;have HO_350001:=n0_;have HO_360001:=n1_;have HO_366001:=n2_;have HO371:=n3_;have HO377:=n4_;have BK349:=n5_;have BK359:=n6_;have BK365:=n7_;have BK373:=n8_;have HB:=n9_;have BK379:=n10_;have GW379:=n11_;have GE379:=n12_;have NB349_379:=n13_;have NB379_349:=n14_;have NB359_379:=n15_;have NB379_359:=n16_;have NB365_379:=n17_;have NB379_365:=n18_;have NB373_379:=n19_;have NB379_373:=n20_;clear n0_ n1_ n2_ n3_ n4_ n5_ n6_ n7_ n8_ n9_ n10_ n11_ n12_ n13_ n14_ n15_ n16_ n17_ n18_ n19_ n20_ hb hbox hg;have hnb76:=NB379_349.out;have hnc76:=NB349_379.out;have hnb77:=NB379_359.out;have hnc77:=NB359_379.out;have hnb78:=NB379_365.out;have hnc78:=NB365_379.out;have hnb79:=NB379_373.out;have hnc79:=NB373_379.out;have hcz80_0:w75.cell? ⟨gb379,0,none⟩=some (.int .i64 0):=(blk_cell BK379.out 0).trans rfl;have hcz80_1:w75.cell? ⟨gb379,1,none⟩=some (.slice none 0 0):=(blk_cell BK379.out 1).trans rfl;have hfz80_0:=blk_frozen BK379.out 0;have hfz80_1:=blk_frozen BK379.out 1;obtain⟨Ao81,co81,eo81⟩:=Kd.R_slice HO377.out;subst eo81))
        (try simp only[Act.put,List.setIfInBounds_toArray,List.set_cons_zero,List.set_cons_succ])
        go_cut [144] (fun v144 wc=>∃(kq:Nat) (x144_62:Bool),v144 = .bool x144_62∧Aside0 (laws_FnPatterns.j1 kq l1 x144_62 t345 t346 t354 t355=some r)∧Aside0 (kq≤kj9)∧Aside0 (Kd.R (Kd.int .i64) 3 wc w.heap.size (fun k_=>some k_≠((.slice Ao23 t355.length co23):Value).ownBlock) (.slice Ao14 t346.length co14) t346)∧Aside0 (Kd.R (Kd.int .i64) 3 wc w.heap.size (fun k_=>some k_≠((.slice Ao14 t346.length co14):Value).ownBlock) (.slice Ao23 t355.length co23) t355)∧Aside0 (wc.heap[gb349]?=some (.cells #[.int .i64 t345,(.slice Ao14 t346.length co14)] 26 (0,0)))∧Aside0 (wc.heap[gb359]?=some (.cells #[.int .i64 t354,(.slice Ao23 t355.length co23)] 26 (0,0)))∧Aside0 (Below w.heap.size w wc))
        case first =>
         have H:=HC63.out
         clear HC63
         by_cases c82:t372=true
         ·subst c82
          have H1:((laws_pSamePattern.f kj9 t368 t369 t345 t346).bind fun t380=>(if t380=true then(if t378=true then((laws_pSamePattern.f kj9 t374 t375 t345 t346).bind fun t381=>(if t381=true then(laws_FnPatterns.j1 kj9 l1 ((wrap64 ((t346.length:Int)+(t361.length:Int))) != t345) t345 t346 t354 t355) else(laws_FnPatterns.j1 kj9 l1 true t345 t346 t354 t355))) else(laws_FnPatterns.j1 kj9 l1 true t345 t346 t354 t355)) else(laws_FnPatterns.j1 kj9 l1 true t345 t346 t354 t355)))=some r:=by rw[if_pos rfl] at H;exact H
          clear H
          have H:=H1
          clear H1
          replace H:=Option.bind_eq_some_iff.mp H
          obtain⟨t380,A830,H⟩:=H
          replace H:(if t380=true then(if t378=true then((laws_pSamePattern.f kj9 t374 t375 t345 t346).bind fun t381=>(if t381=true then(laws_FnPatterns.j1 kj9 l1 ((wrap64 ((t346.length:Int)+(t361.length:Int))) != t345) t345 t346 t354 t355) else(laws_FnPatterns.j1 kj9 l1 true t345 t346 t354 t355))) else(laws_FnPatterns.j1 kj9 l1 true t345 t346 t354 t355)) else(laws_FnPatterns.j1 kj9 l1 true t345 t346 t354 t355))=some r:=H
          have A83:=am A830
          clear A830
          by_cases c84:t380=true
          ·subst c84
           have H1:(if t378=true then((laws_pSamePattern.f kj9 t374 t375 t345 t346).bind fun t381=>(if t381=true then(laws_FnPatterns.j1 kj9 l1 ((wrap64 ((t346.length:Int)+(t361.length:Int))) != t345) t345 t346 t354 t355) else(laws_FnPatterns.j1 kj9 l1 true t345 t346 t354 t355))) else(laws_FnPatterns.j1 kj9 l1 true t345 t346 t354 t355))=some r:=by rw[if_pos rfl] at H;exact H
           clear H
           have H:=H1
           clear H1
           by_cases c85:t378=true
           ·subst c85
            have H1:((laws_pSamePattern.f kj9 t374 t375 t345 t346).bind fun t381=>(if t381=true then(laws_FnPatterns.j1 kj9 l1 ((wrap64 ((t346.length:Int)+(t361.length:Int))) != t345) t345 t346 t354 t355) else(laws_FnPatterns.j1 kj9 l1 true t345 t346 t354 t355)))=some r:=by rw[if_pos rfl] at H;exact H
            clear H
            have H:=H1
            clear H1
            replace H:=Option.bind_eq_some_iff.mp H
            obtain⟨t381,A860,H⟩:=H
            replace H:(if t381=true then(laws_FnPatterns.j1 kj9 l1 ((wrap64 ((t346.length:Int)+(t361.length:Int))) != t345) t345 t346 t354 t355) else(laws_FnPatterns.j1 kj9 l1 true t345 t346 t354 t355))=some r:=H
            have A86:=am A860
            clear A860
            by_cases c87:t381=true
            ·subst c87
             have H1:(laws_FnPatterns.j1 kj9 l1 ((wrap64 ((t346.length:Int)+(t361.length:Int))) != t345) t345 t346 t354 t355)=some r:=by rw[if_pos rfl] at H;exact H
             clear H
             have H:=H1
             clear H1
             have H':=am H
             clear H
             have hnb88:=NB373_349.out
             have hnc88:=NB349_373.out
             have hnb89:=NB373_359.out
             have hnc89:=NB359_373.out
             have hnb90:=NB373_365.out
             have hnc90:=NB365_373.out
             have hnb91:=NB373_379.out
             have hnc91:=NB379_373.out
             have hcz92_0:w75.cell? ⟨gb373,0,none⟩=some (.int .i64 t368):=(blk_cell BK373.out 0).trans rfl
             have hcz92_1:w75.cell? ⟨gb373,1,none⟩=some (.slice Ao70 t369.length co70):=(blk_cell BK373.out 1).trans rfl
             have hfz92_0:=blk_frozen BK373.out 0
             have hfz92_1:=blk_frozen BK373.out 1
             have hnb93:=NB349_359.out
             have hnc93:=NB359_349.out
             have hnb94:=NB349_365.out
             have hnc94:=NB365_349.out
             have hnb95:=NB349_379.out
             have hnc95:=NB379_349.out
             have hcz96_0:w75.cell? ⟨gb349,0,none⟩=some (.int .i64 t345):=(blk_cell BK349.out 0).trans rfl
             have hcz96_1:w75.cell? ⟨gb349,1,none⟩=some (.slice Ao14 t346.length co14):=(blk_cell BK349.out 1).trans rfl
             have hfz96_0:=blk_frozen BK349.out 0
             have hfz96_1:=blk_frozen BK349.out 1
             go_wp2_with (first|(go_at_call 10;(with_reducible refine(laws_pSamePattern.calls kj9 t368 _ _ t369 t345 _ _ t346 true _ ?side1 ?side2 ?side3 ?side4 A83.out).mono ?_);(case side1=>refine(Kd.R_reads' (e:=3) (base:=w.heap.size) (ok:=fun k_=>((((True∧some k_≠(.slice Ao14 t346.length co14:Value).ownBlock)∧some k_≠(.slice Ao23 t355.length co23:Value).ownBlock)∧some k_≠(.slice Ao30 t361.length co30:Value).ownBlock)∧some k_≠(.slice Ao81 t375.length co81:Value).ownBlock)) (n:=t369.length) (c:=co70) ?_).2.2;exact(by(with_reducible repeat(first|apply Kd.R_alloc|apply Kd.R_drewN|apply Kd.R_drew));exact(Kd.R_mono (Kd.R_far (p:=⟨gb379,1,none⟩) (Kd.R_far (p:=⟨gb379,0,none⟩) (Kd.R_types HO371.out BK379.out (by decide)) (fun _ hk=>hk.2) (.int .i64 t374)) (fun _ hk=>hk.2) (.slice Ao81 t375.length co81)) (fun _ h_=>h_.1))));(case side2=>exact(Kd.R_reads' HO371.out).2.1);(case side3=>refine(Kd.R_reads' (e:=3) (base:=w.heap.size) (ok:=fun k_=>(((some k_≠(.slice Ao23 t355.length co23:Value).ownBlock∧some k_≠(.slice Ao30 t361.length co30:Value).ownBlock)∧some k_≠(.slice Ao70 t369.length co70:Value).ownBlock)∧some k_≠(.slice Ao81 t375.length co81:Value).ownBlock)) (n:=t346.length) (c:=co14) ?_).2.2;exact(by(with_reducible repeat(first|apply Kd.R_alloc|apply Kd.R_drewN|apply Kd.R_drew));exact(Kd.R_mono (Kd.R_far (p:=⟨gb379,1,none⟩) (Kd.R_far (p:=⟨gb379,0,none⟩) (Kd.R_types HO_350001.out BK379.out (by decide)) (fun _ hk=>hk.2) (.int .i64 t374)) (fun _ hk=>hk.2) (.slice Ao81 t375.length co81)) (fun _ h_=>h_.1))));(case side4=>exact(Kd.R_reads' HO_350001.out).2.1);rintro e w97 ⟨rfl,hb⟩;have n0_:=am (Kd.R_below (by(with_reducible repeat(first|apply Kd.R_alloc|apply Kd.R_drewN|apply Kd.R_drew));exact(Kd.R_mono (Kd.R_far (p:=⟨gb379,1,none⟩) (Kd.R_far (p:=⟨gb379,0,none⟩) (Kd.R_types HO_350001.out BK379.out (by decide)) (fun _ hk=>hk.2) (.int .i64 t374)) (fun _ hk=>hk.2) (.slice Ao81 t375.length co81)) (fun _ h_=>h_.1))) hb);have n1_:=am (Kd.R_below (by(with_reducible repeat(first|apply Kd.R_alloc|apply Kd.R_drewN|apply Kd.R_drew));exact(Kd.R_mono (Kd.R_far (p:=⟨gb379,1,none⟩) (Kd.R_far (p:=⟨gb379,0,none⟩) (Kd.R_types HO_360001.out BK379.out (by decide)) (fun _ hk=>hk.2) (.int .i64 t374)) (fun _ hk=>hk.2) (.slice Ao81 t375.length co81)) (fun _ h_=>h_.1))) hb);have n2_:=am (Kd.R_below (by(with_reducible repeat(first|apply Kd.R_alloc|apply Kd.R_drewN|apply Kd.R_drew));exact(Kd.R_mono (Kd.R_far (p:=⟨gb379,1,none⟩) (Kd.R_far (p:=⟨gb379,0,none⟩) (Kd.R_types HO_366001.out BK379.out (by decide)) (fun _ hk=>hk.2) (.int .i64 t374)) (fun _ hk=>hk.2) (.slice Ao81 t375.length co81)) (fun _ h_=>h_.1))) hb);have n3_:=am (Kd.R_below (by(with_reducible repeat(first|apply Kd.R_alloc|apply Kd.R_drewN|apply Kd.R_drew));exact(Kd.R_mono (Kd.R_far (p:=⟨gb379,1,none⟩) (Kd.R_far (p:=⟨gb379,0,none⟩) (Kd.R_types HO371.out BK379.out (by decide)) (fun _ hk=>hk.2) (.int .i64 t374)) (fun _ hk=>hk.2) (.slice Ao81 t375.length co81)) (fun _ h_=>h_.1))) hb);have n4_:=am (Kd.R_below (by(with_reducible repeat(first|apply Kd.R_alloc|apply Kd.R_drewN|apply Kd.R_drew));exact(Kd.R_mono (Kd.R_far (p:=⟨gb379,1,none⟩) (Kd.R_far (p:=⟨gb379,0,none⟩) (Kd.R_types HO377.out BK379.out (by decide)) (fun _ hk=>hk.2) (.int .i64 t374)) (fun _ hk=>hk.2) (.slice Ao81 t375.length co81)) (fun _ h_=>h_.1))) hb);have n5_:=am (blk_below (g:=gb349) (o := .cells #[.int .i64 t345,.slice Ao14 t346.length co14] 26 (0,0)) (by(with_reducible repeat(first|refine bN_ ?_ _|refine bD_ ?_|refine bA_ ?_ _));refine blk_far ?_ NB349_379.out _;(with_reducible repeat(first|refine bN_ ?_ _|refine bD_ ?_|refine bA_ ?_ _));refine blk_far ?_ NB349_379.out _;exact bup BK349.out) hb);have n6_:=am (blk_below (g:=gb359) (o := .cells #[.int .i64 t354,.slice Ao23 t355.length co23] 26 (0,0)) (by(with_reducible repeat(first|refine bN_ ?_ _|refine bD_ ?_|refine bA_ ?_ _));refine blk_far ?_ NB359_379.out _;(with_reducible repeat(first|refine bN_ ?_ _|refine bD_ ?_|refine bA_ ?_ _));refine blk_far ?_ NB359_379.out _;exact bup BK359.out) hb);have n7_:=am (blk_below (g:=gb365) (o := .cells #[.int .i64 t360,.slice Ao30 t361.length co30] 26 (0,0)) (by(with_reducible repeat(first|refine bN_ ?_ _|refine bD_ ?_|refine bA_ ?_ _));refine blk_far ?_ NB365_379.out _;(with_reducible repeat(first|refine bN_ ?_ _|refine bD_ ?_|refine bA_ ?_ _));refine blk_far ?_ NB365_379.out _;exact bup BK365.out) hb);have n8_:=am (blk_below (g:=gb373) (o := .cells #[.int .i64 t368,.slice Ao70 t369.length co70] 26 (0,0)) (by(with_reducible repeat(first|refine bN_ ?_ _|refine bD_ ?_|refine bA_ ?_ _));refine blk_far ?_ NB373_379.out _;(with_reducible repeat(first|refine bN_ ?_ _|refine bD_ ?_|refine bA_ ?_ _));refine blk_far ?_ NB373_379.out _;exact bup BK373.out) hb);have n9_:=am (blk_below (g:=gb379) (o := .cells #[.int .i64 t374,.slice Ao81 t375.length co81] 26 (0,0)) (by(with_reducible repeat(first|refine bN_ ?_ _|refine bD_ ?_|refine bA_ ?_ _));refine blk_put (cs := #[.int .i64 t374,.slice none 0 0]) ?_ 1 _ rfl;(with_reducible repeat(first|refine bN_ ?_ _|refine bD_ ?_|refine bA_ ?_ _));refine blk_put (cs := #[.int .i64 0,.slice none 0 0]) ?_ 0 _ rfl;exact bup BK379.out) hb);have n10_:=am (below_step bl hb);clear HO_350001 HO_360001 HO_366001 HO371 HO377 BK349 BK359 BK365 BK373 BK379 HB;have HO_350001:=n0_;have HO_360001:=n1_;have HO_366001:=n2_;have HO371:=n3_;have HO377:=n4_;have BK349:=n5_;have BK359:=n6_;have BK365:=n7_;have BK373:=n8_;have BK379:=n9_;have HB:=n10_;clear n0_ n1_ n2_ n3_ n4_ n5_ n6_ n7_ n8_ n9_ n10_;(try clear hb);(try clear hb2);(try clear hk);(try clear hi);have hnb98:=NB379_359.out;have hnc98:=NB359_379.out;have hnb99:=NB379_365.out;have hnc99:=NB365_379.out;have hcz100_0:w97.cell? ⟨gb379,0,none⟩=some (.int .i64 t374):=(blk_cell BK379.out 0).trans rfl;have hcz100_1:w97.cell? ⟨gb379,1,none⟩=some (.slice Ao81 t375.length co81):=(blk_cell BK379.out 1).trans rfl;have hfz100_0:=blk_frozen BK379.out 0;have hfz100_1:=blk_frozen BK379.out 1;have hcz101_0:w97.cell? ⟨gb349,0,none⟩=some (.int .i64 t345):=(blk_cell BK349.out 0).trans rfl;have hcz101_1:w97.cell? ⟨gb349,1,none⟩=some (.slice Ao14 t346.length co14):=(blk_cell BK349.out 1).trans rfl;have hfz101_0:=blk_frozen BK349.out 0;have hfz101_1:=blk_frozen BK349.out 1)|(go_at_call 10;(with_reducible refine(laws_pSamePattern.calls kj9 t374 _ _ t375 t345 _ _ t346 true _ ?side1 ?side2 ?side3 ?side4 A86.out).mono ?_);(case side1=>repeat(first|exact(Kd.R_reads' HO377.out).2.2|(with_reducible refine Kd.C_alloc ?_ _)|(with_reducible refine Kd.C_drewN ?_ _)|(with_reducible refine Kd.C_drew ?_)));(case side2=>exact(Kd.R_reads' HO377.out).2.1);(case side3=>repeat(first|exact(Kd.R_reads' HO_350001.out).2.2|(with_reducible refine Kd.C_alloc ?_ _)|(with_reducible refine Kd.C_drewN ?_ _)|(with_reducible refine Kd.C_drew ?_)));(case side4=>exact(Kd.R_reads' HO_350001.out).2.1);rintro e w102 ⟨rfl,hb⟩;have n0_:=am (Kd.R_below (rup HO_350001.out) hb);have n1_:=am (Kd.R_below (rup HO_360001.out) hb);have n2_:=am (Kd.R_below (rup HO_366001.out) hb);have n3_:=am (Kd.R_below (rup HO371.out) hb);have n4_:=am (Kd.R_below (rup HO377.out) hb);have n5_:=am (blk_below (bup BK349.out) hb);have n6_:=am (blk_below (bup BK359.out) hb);have n7_:=am (blk_below (bup BK365.out) hb);have n8_:=am (blk_below (bup BK373.out) hb);have n9_:=am (blk_below (bup BK379.out) hb);have n10_:=am (below_step bl hb);clear HO_350001 HO_360001 HO_366001 HO371 HO377 BK349 BK359 BK365 BK373 BK379 HB;have HO_350001:=n0_;have HO_360001:=n1_;have HO_366001:=n2_;have HO371:=n3_;have HO377:=n4_;have BK349:=n5_;have BK359:=n6_;have BK365:=n7_;have BK373:=n8_;have BK379:=n9_;have HB:=n10_;clear n0_ n1_ n2_ n3_ n4_ n5_ n6_ n7_ n8_ n9_ n10_;(try clear hb);(try clear hb2);(try clear hk);(try clear hi);have hcz103_0:w102.cell? ⟨gb349,0,none⟩=some (.int .i64 t345):=(blk_cell BK349.out 0).trans rfl;have hcz103_1:w102.cell? ⟨gb349,1,none⟩=some (.slice Ao14 t346.length co14):=(blk_cell BK349.out 1).trans rfl;have hfz103_0:=blk_frozen BK349.out 0;have hfz103_1:=blk_frozen BK349.out 1;have hnb104:=NB365_359.out;have hnc104:=NB359_365.out;have hcz105_0:w102.cell? ⟨gb365,0,none⟩=some (.int .i64 t360):=(blk_cell BK365.out 0).trans rfl;have hcz105_1:w102.cell? ⟨gb365,1,none⟩=some (.slice Ao30 t361.length co30):=(blk_cell BK365.out 1).trans rfl;have hfz105_0:=blk_frozen BK365.out 0;have hfz105_1:=blk_frozen BK365.out 1))
             go_meet
             case rel=>exact⟨_,(((wrap64 ((t346.length:Int)+(t361.length:Int))) != t345)),fin2,H',⟨by have:=HJ9.out;first|omega|exact Nat.le_refl _⟩,⟨rup (Kd.R_mono HO_350001.out (fun _ hk=>hk.1.1.1))⟩,⟨rup (Kd.R_mono HO_360001.out (fun _ hk=>hk.1.1.1))⟩,⟨bup BK349.out⟩,⟨bup BK359.out⟩,⟨bl⟩⟩
            ·replace c87:=Bool.eq_false_iff.mpr c87
             subst c87
             have H1:(laws_FnPatterns.j1 kj9 l1 true t345 t346 t354 t355)=some r:=by rw[if_neg (show ¬ (false=true) by decide)] at H;exact H
             clear H
             have H:=H1
             clear H1
             exact absurd hrt.out (laws_FnPatterns.j1_dead H)
           ·replace c85:=Bool.eq_false_iff.mpr c85
            subst c85
            have H1:(laws_FnPatterns.j1 kj9 l1 true t345 t346 t354 t355)=some r:=by rw[if_neg (show ¬ (false=true) by decide)] at H;exact H
            clear H
            have H:=H1
            clear H1
            exact absurd hrt.out (laws_FnPatterns.j1_dead H)
          ·replace c84:=Bool.eq_false_iff.mpr c84
           subst c84
           have H1:(laws_FnPatterns.j1 kj9 l1 true t345 t346 t354 t355)=some r:=by rw[if_neg (show ¬ (false=true) by decide)] at H;exact H
           clear H
           have H:=H1
           clear H1
           exact absurd hrt.out (laws_FnPatterns.j1_dead H)
         ·replace c82:=Bool.eq_false_iff.mpr c82
          subst c82
          have H1:(laws_FnPatterns.j1 kj9 l1 true t345 t346 t354 t355)=some r:=by rw[if_neg (show ¬ (false=true) by decide)] at H;exact H
          clear H
          have H:=H1
          clear H1
          exact absurd hrt.out (laws_FnPatterns.j1_dead H)
        case rest =>
         as_aux_lemma =>
          clear HC63
          try clear c1
          try clear c2
          try clear p2
          try clear c3
          try clear c4
          try clear c5
          try clear c6
          try clear p6
          try clear c7
          try clear c8
          try clear c9
          try clear c10
          try clear c11
          try clear c12
          try clear c13
          try clear c21
          try clear c27
          try clear c28
          try clear c31
          try clear c31b0
          try clear c31b1
          try clear c31b2
          try clear c32
          try clear c32b0
          try clear c32b1
          try clear c33
          try clear c33b0
          try clear c33b1
          try clear c33b2
          try clear c35
          try clear c36
          try clear c36b0
          try clear c36b1
          try clear c36b2
          try clear c37
          try clear c38
          try clear c40
          try clear c44
          try clear c45
          try clear c47
          try clear c52
          try clear c53
          try clear c55
          try clear c58
          try clear c60
          try clear p64
          try clear c66
          try clear c67
          try clear c68
          try clear c71
          try clear c72
          try clear c76
          try clear c77
          try clear c78
          try clear c79
          try clear c82
          try clear c84
          try clear c85
          try clear c87
          try clear c88
          try clear c89
          try clear c90
          try clear c91
          try clear c93
          try clear c94
          try clear c95
          try clear c98
          try clear c99
          try clear c104
          try clear c106
          try clear c107
          try clear c108
          try clear c109
          try clear c111
          try clear c112
          try clear c113
          try clear c116
          try clear c117
          try clear c121
          try clear c122
          try clear c123
          try clear c124
          try clear c126
          try clear c127
          try clear c128
          try clear c131
          try clear c132
          try clear c133
          try clear c134
          try clear c136
          try clear c137
          try clear c138
          try clear hcz100_0
          try clear hcz100_1
          try clear hcz101_0
          try clear hcz101_1
          try clear hcz103_0
          try clear hcz103_1
          try clear hcz105_0
          try clear hcz105_1
          try clear hcz110_0
          try clear hcz110_1
          try clear hcz114_0
          try clear hcz114_1
          try clear hcz118_0
          try clear hcz118_1
          try clear hcz119_0
          try clear hcz119_1
          try clear hcz125_0
          try clear hcz125_1
          try clear hcz129_0
          try clear hcz129_1
          try clear hcz135_0
          try clear hcz135_1
          try clear hcz139_0
          try clear hcz139_1
          try clear hcz13_0
          try clear hcz13_1
          try clear hcz16_0
          try clear hcz16_1
          try clear hcz18_0
          try clear hcz18_1
          try clear hcz22_0
          try clear hcz22_1
          try clear hcz24_0
          try clear hcz24_1
          try clear hcz29_0
          try clear hcz29_1
          try clear hcz39_0
          try clear hcz39_1
          try clear hcz41_0
          try clear hcz41_1
          try clear hcz46_0
          try clear hcz46_1
          try clear hcz48_0
          try clear hcz48_1
          try clear hcz50_0
          try clear hcz50_1
          try clear hcz54_0
          try clear hcz54_1
          try clear hcz56_0
          try clear hcz56_1
          try clear hcz69_0
          try clear hcz69_1
          try clear hcz73_0
          try clear hcz73_1
          try clear hcz80_0
          try clear hcz80_1
          try clear hcz92_0
          try clear hcz92_1
          try clear hcz96_0
          try clear hcz96_1
          try clear hfz100_0
          try clear hfz100_1
          try clear hfz101_0
          try clear hfz101_1
          try clear hfz103_0
          try clear hfz103_1
          try clear hfz105_0
          try clear hfz105_1
          try clear hfz110_0
          try clear hfz110_1
          try clear hfz114_0
          try clear hfz114_1
          try clear hfz118_0
          try clear hfz118_1
          try clear hfz119_0
          try clear hfz119_1
          try clear hfz125_0
          try clear hfz125_1
          try clear hfz129_0
          try clear hfz129_1
          try clear hfz135_0
          try clear hfz135_1
          try clear hfz139_0
          try clear hfz139_1
          try clear hfz13_0
          try clear hfz13_1
          try clear hfz16_0
          try clear hfz16_1
          try clear hfz18_0
          try clear hfz18_1
          try clear hfz22_0
          try clear hfz22_1
          try clear hfz24_0
          try clear hfz24_1
          try clear hfz29_0
          try clear hfz29_1
          try clear hfz39_0
          try clear hfz39_1
          try clear hfz41_0
          try clear hfz41_1
          try clear hfz46_0
          try clear hfz46_1
          try clear hfz48_0
          try clear hfz48_1
          try clear hfz50_0
          try clear hfz50_1
          try clear hfz54_0
          try clear hfz54_1
          try clear hfz56_0
          try clear hfz56_1
          try clear hfz69_0
          try clear hfz69_1
          try clear hfz73_0
          try clear hfz73_1
          try clear hfz80_0
          try clear hfz80_1
          try clear hfz92_0
          try clear hfz92_1
          try clear hfz96_0
          try clear hfz96_1
          try clear p2
          obtain⟨kq,x144_62,rfl,HA,HJ62,HO_350001,HO_360001,BK349,BK359,HB⟩:=hcut
          cases kq with
          | zero=>exact absurd HA.out (by simp [laws_FnPatterns.j1])
          | succ kj62 =>
           have H:=HA.out
           clear HA
           simp only[laws_FnPatterns.j1] at H
           by_cases c141:x144_62=true
           ·subst c141
            have H1:(some false)=some r:=by rw[if_pos rfl] at H;exact H
            clear H
            have H:=H1
            clear H1
            obtain rfl:=Option.some.inj H
            exact absurd hrt.out (by simp)
           ·replace c141:=Bool.eq_false_iff.mpr c141
            subst c141
            have H1:(laws_FnPatterns.l0 kj62 l1 0 0 t345 t346 t354 t355)=some r:=by rw[if_neg (show ¬ (false=true) by decide)] at H;exact H
            clear H
            have H:=H1
            clear H1
            have H':=am H
            clear H
            go_wp2
            go_loopg [18,19] kj62 (fun kq v18 v19 w'=>∃(x18_3:Int) (x19_3:Int),v18 = .int .i64 x18_3∧v19 = .int .i64 x19_3∧Aside0 (laws_FnPatterns.l0 kq l1 x18_3 x19_3 t345 t346 t354 t355=some r)∧Aside0 (kq≤kj62)∧Aside0 (Kd.R (Kd.int .i64) 3 w' w.heap.size (fun k_=>some k_≠((.slice Ao23 t355.length co23):Value).ownBlock) (.slice Ao14 t346.length co14) t346)∧Aside0 (Kd.R (Kd.int .i64) 3 w' w.heap.size (fun k_=>some k_≠((.slice Ao14 t346.length co14):Value).ownBlock) (.slice Ao23 t355.length co23) t355)∧Aside0 (w'.heap[gb349]?=some (.cells #[.int .i64 t345,(.slice Ao14 t346.length co14)] 26 (0,0)))∧Aside0 (w'.heap[gb359]?=some (.cells #[.int .i64 t354,(.slice Ao23 t355.length co23)] 26 (0,0)))∧Aside0 (Below w.heap.size w w'))
            case atStart=>exact⟨(0),(0),fin2,fin2,H',⟨Nat.le_refl _⟩,⟨rup HO_350001.out⟩,⟨rup HO_360001.out⟩,⟨bup BK349.out⟩,⟨bup BK359.out⟩,⟨bl⟩⟩
            case round =>
             as_aux_lemma =>
              clear H'
              try clear c1
              try clear c2
              try clear p2
              try clear c3
              try clear c4
              try clear c5
              try clear c6
              try clear p6
              try clear c7
              try clear c8
              try clear c9
              try clear c10
              try clear c11
              try clear c12
              try clear c13
              try clear c14
              try clear c21
              try clear c27
              try clear c28
              try clear c31
              try clear c31b0
              try clear c31b1
              try clear c31b2
              try clear c32
              try clear c32b0
              try clear c32b1
              try clear c33
              try clear c33b0
              try clear c33b1
              try clear c33b2
              try clear c35
              try clear c36
              try clear c36b0
              try clear c36b1
              try clear c36b2
              try clear c37
              try clear c38
              try clear c40
              try clear c44
              try clear c45
              try clear c47
              try clear c52
              try clear c53
              try clear c55
              try clear c58
              try clear c60
              try clear p64
              try clear c66
              try clear c67
              try clear c68
              try clear c71
              try clear c72
              try clear c76
              try clear c77
              try clear c78
              try clear c79
              try clear c82
              try clear c84
              try clear c85
              try clear c87
              try clear c88
              try clear c89
              try clear c90
              try clear c91
              try clear c93
              try clear c94
              try clear c95
              try clear c98
              try clear c99
              try clear c104
              try clear c106
              try clear c107
              try clear c108
              try clear c109
              try clear c111
              try clear c112
              try clear c113
              try clear c116
              try clear c117
              try clear c121
              try clear c122
              try clear c123
              try clear c124
              try clear c126
              try clear c127
              try clear c128
              try clear c131
              try clear c132
              try clear c133
              try clear c134
              try clear c136
              try clear c137
              try clear c138
              try clear c141
              try clear hcz100_0
              try clear hcz100_1
              try clear hcz101_0
              try clear hcz101_1
              try clear hcz103_0
              try clear hcz103_1
              try clear hcz105_0
              try clear hcz105_1
              try clear hcz110_0
              try clear hcz110_1
              try clear hcz114_0
              try clear hcz114_1
              try clear hcz118_0
              try clear hcz118_1
              try clear hcz119_0
              try clear hcz119_1
              try clear hcz125_0
              try clear hcz125_1
              try clear hcz129_0
              try clear hcz129_1
              try clear hcz135_0
              try clear hcz135_1
              try clear hcz139_0
              try clear hcz139_1
              try clear hcz13_0
              try clear hcz13_1
              try clear hcz16_0
              try clear hcz16_1
              try clear hcz18_0
              try clear hcz18_1
              try clear hcz22_0
              try clear hcz22_1
              try clear hcz24_0
              try clear hcz24_1
              try clear hcz29_0
              try clear hcz29_1
              try clear hcz39_0
              try clear hcz39_1
              try clear hcz41_0
              try clear hcz41_1
              try clear hcz46_0
              try clear hcz46_1
              try clear hcz48_0
              try clear hcz48_1
              try clear hcz50_0
              try clear hcz50_1
              try clear hcz54_0
              try clear hcz54_1
              try clear hcz56_0
              try clear hcz56_1
              try clear hcz69_0
              try clear hcz69_1
              try clear hcz73_0
              try clear hcz73_1
              try clear hcz80_0
              try clear hcz80_1
              try clear hcz92_0
              try clear hcz92_1
              try clear hcz96_0
              try clear hcz96_1
              try clear hfz100_0
              try clear hfz100_1
              try clear hfz101_0
              try clear hfz101_1
              try clear hfz103_0
              try clear hfz103_1
              try clear hfz105_0
              try clear hfz105_1
              try clear hfz110_0
              try clear hfz110_1
              try clear hfz114_0
              try clear hfz114_1
              try clear hfz118_0
              try clear hfz118_1
              try clear hfz119_0
              try clear hfz119_1
              try clear hfz125_0
              try clear hfz125_1
              try clear hfz129_0
              try clear hfz129_1
              try clear hfz135_0
              try clear hfz135_1
              try clear hfz139_0
              try clear hfz139_1
              try clear hfz13_0
              try clear hfz13_1
              try clear hfz16_0
              try clear hfz16_1
              try clear hfz18_0
              try clear hfz18_1
              try clear hfz22_0
              try clear hfz22_1
              try clear hfz24_0
              try clear hfz24_1
              try clear hfz29_0
              try clear hfz29_1
              try clear hfz39_0
              try clear hfz39_1
              try clear hfz41_0
              try clear hfz41_1
              try clear hfz46_0
              try clear hfz46_1
              try clear hfz48_0
              try clear hfz48_1
              try clear hfz50_0
              try clear hfz50_1
              try clear hfz54_0
              try clear hfz54_1
              try clear hfz56_0
              try clear hfz56_1
              try clear hfz69_0
              try clear hfz69_1
              try clear hfz73_0
              try clear hfz73_1
              try clear hfz80_0
              try clear hfz80_1
              try clear hfz92_0
              try clear hfz92_1
              try clear hfz96_0
              try clear hfz96_1
              try clear p2
              try clear p6
              try clear p64
              obtain⟨x18_3,x19_3,rfl,rfl,HA,HK3,HO_350001,HO_360001,BK349,BK359,HB⟩:=hrel
              cases gk with
              | zero=>exact absurd HA.out (by simp [laws_FnPatterns.l0])
              | succ k3 =>
               have H:=HA.out
               clear HA
               simp only[laws_FnPatterns.l0] at H
               by_cases c142:x19_3<(wrap64 (2*t345))
               ·rw[if_pos c142] at H
                have c142b0:decide (x19_3<(wrap64 (2*t345)))=true:=decide_eq_true c142
                clear c142
                replace H:=Option.bind_eq_some_iff.mp H
                obtain⟨⟨t382,t383⟩,A1430,H⟩:=H
                replace H:((impl_BeatsAt.f k3 t345 t346 x19_3).bind fun bt384=>((impl_BeatsAt.f k3 t354 t355 x19_3).bind fun bt386=>(if t383=true then(if t382=x18_3 then(if bt384.2=true then(if bt386.2=true then(if(bt384.1 == bt386.1)=true then(laws_FnPatterns.j3 k3 l1 x18_3 x19_3 bt384.1 true t345 t346 t354 t355) else(if t345=0 then(none) else((laws_pIn.f k3 t346 (Int.tmod x19_3 t345)).bind fun t388=>(laws_FnPatterns.j3 k3 l1 x18_3 x19_3 bt384.1 (bt384.1 != t388) t345 t346 t354 t355)))) else(laws_FnPatterns.j3 k3 l1 x18_3 x19_3 bt384.1 true t345 t346 t354 t355)) else(laws_FnPatterns.j3 k3 l1 x18_3 x19_3 bt384.1 true t345 t346 t354 t355)) else(laws_FnPatterns.j3 k3 l1 x18_3 x19_3 bt384.1 true t345 t346 t354 t355)) else(laws_FnPatterns.j3 k3 l1 x18_3 x19_3 bt384.1 true t345 t346 t354 t355))))=some r:=H
                have A143:=am A1430
                clear A1430
                replace H:=Option.bind_eq_some_iff.mp H
                obtain⟨⟨t384,t385⟩,A1440,H⟩:=H
                replace H:((impl_BeatsAt.f k3 t354 t355 x19_3).bind fun bt386=>(if t383=true then(if t382=x18_3 then(if t385=true then(if bt386.2=true then(if(t384 == bt386.1)=true then(laws_FnPatterns.j3 k3 l1 x18_3 x19_3 t384 true t345 t346 t354 t355) else(if t345=0 then(none) else((laws_pIn.f k3 t346 (Int.tmod x19_3 t345)).bind fun t388=>(laws_FnPatterns.j3 k3 l1 x18_3 x19_3 t384 (t384 != t388) t345 t346 t354 t355)))) else(laws_FnPatterns.j3 k3 l1 x18_3 x19_3 t384 true t345 t346 t354 t355)) else(laws_FnPatterns.j3 k3 l1 x18_3 x19_3 t384 true t345 t346 t354 t355)) else(laws_FnPatterns.j3 k3 l1 x18_3 x19_3 t384 true t345 t346 t354 t355)) else(laws_FnPatterns.j3 k3 l1 x18_3 x19_3 t384 true t345 t346 t354 t355)))=some r:=H
                have A144:=am A1440
                clear A1440
                replace H:=Option.bind_eq_some_iff.mp H
                obtain⟨⟨t386,t387⟩,A1450,H⟩:=H
                replace H:(if t383=true then(if t382=x18_3 then(if t385=true then(if t387=true then(if(t384 == t386)=true then(laws_FnPatterns.j3 k3 l1 x18_3 x19_3 t384 true t345 t346 t354 t355) else(if t345=0 then(none) else((laws_pIn.f k3 t346 (Int.tmod x19_3 t345)).bind fun t388=>(laws_FnPatterns.j3 k3 l1 x18_3 x19_3 t384 (t384 != t388) t345 t346 t354 t355)))) else(laws_FnPatterns.j3 k3 l1 x18_3 x19_3 t384 true t345 t346 t354 t355)) else(laws_FnPatterns.j3 k3 l1 x18_3 x19_3 t384 true t345 t346 t354 t355)) else(laws_FnPatterns.j3 k3 l1 x18_3 x19_3 t384 true t345 t346 t354 t355)) else(laws_FnPatterns.j3 k3 l1 x18_3 x19_3 t384 true t345 t346 t354 t355))=some r:=H
                have A145:=am A1450
                clear A1450
                have HC146:=am H
                clear H
                have hnb147:=NB349_359.out
                have hnc147:=NB359_349.out
                have hcz148_0:wr.cell? ⟨gb349,0,none⟩=some (.int .i64 t345):=(blk_cell BK349.out 0).trans rfl
                have hcz148_1:wr.cell? ⟨gb349,1,none⟩=some (.slice Ao14 t346.length co14):=(blk_cell BK349.out 1).trans rfl
                have hfz148_0:=blk_frozen BK349.out 0
                have hfz148_1:=blk_frozen BK349.out 1
                go_upto_region 22 with(first|((with_reducible refine gate_callee (f:=13) rfl ?_);refine goesL_ (some 155) rfl rfl Try.func13 (by kernel_rfl) rfl #[.agg #[.int .i64 t345,.slice Ao14 t346.length co14],.int .i64 x19_3] rfl tl ?_;(with_reducible refine(impl_CountBeats.calls k3 t345 _ _ t346 x19_3 t382 t383 _ ?side1 ?side2 A143.out).mono ?_);(case side1=>repeat(first|exact(Kd.R_reads' HO_350001.out).2.2|(with_reducible refine Kd.C_alloc ?_ _)|(with_reducible refine Kd.C_drewN ?_ _)|(with_reducible refine Kd.C_drew ?_)));(case side2=>exact(Kd.R_reads' HO_350001.out).2.1);rintro e w149 ⟨rfl,hb⟩;refine⟨_,rfl,?_⟩;have n0_:=am (Kd.R_below (rup HO_350001.out) hb);have n1_:=am (Kd.R_below (rup HO_360001.out) hb);have n2_:=am (blk_below (bup BK349.out) hb);have n3_:=am (blk_below (bup BK359.out) hb);have n4_:=am (below_step bl hb);clear HO_350001 HO_360001 BK349 BK359 HB;have HO_350001:=n0_;have HO_360001:=n1_;have BK349:=n2_;have BK359:=n3_;have HB:=n4_;clear n0_ n1_ n2_ n3_ n4_;(try clear hb);(try clear hb2);(try clear hk);(try clear hi);have hcz150_0:w149.cell? ⟨gb349,0,none⟩=some (.int .i64 t345):=(blk_cell BK349.out 0).trans rfl;have hcz150_1:w149.cell? ⟨gb349,1,none⟩=some (.slice Ao14 t346.length co14):=(blk_cell BK349.out 1).trans rfl;have hfz150_0:=blk_frozen BK349.out 0;have hfz150_1:=blk_frozen BK349.out 1)|((with_reducible refine gate_callee (f:=14) rfl ?_);refine goesL_ (some 161) rfl rfl Try.func14 (by kernel_rfl) rfl #[.agg #[.int .i64 t345,.slice Ao14 t346.length co14],.int .i64 x19_3] rfl tl ?_;(with_reducible refine(impl_BeatsAt.calls k3 t345 _ _ t346 x19_3 t384 t385 _ ?side1 ?side2 A144.out).mono ?_);(case side1=>repeat(first|exact(Kd.R_reads' HO_350001.out).2.2|(with_reducible refine Kd.C_alloc ?_ _)|(with_reducible refine Kd.C_drewN ?_ _)|(with_reducible refine Kd.C_drew ?_)));(case side2=>exact(Kd.R_reads' HO_350001.out).2.1);rintro e w151 ⟨rfl,hb⟩;refine⟨_,rfl,?_⟩;have n0_:=am (Kd.R_below (rup HO_350001.out) hb);have n1_:=am (Kd.R_below (rup HO_360001.out) hb);have n2_:=am (blk_below (bup BK349.out) hb);have n3_:=am (blk_below (bup BK359.out) hb);have n4_:=am (below_step bl hb);clear HO_350001 HO_360001 BK349 BK359 HB;have HO_350001:=n0_;have HO_360001:=n1_;have BK349:=n2_;have BK359:=n3_;have HB:=n4_;clear n0_ n1_ n2_ n3_ n4_;(try clear hb);(try clear hb2);(try clear hk);(try clear hi);have hcz152_0:w151.cell? ⟨gb359,0,none⟩=some (.int .i64 t354):=(blk_cell BK359.out 0).trans rfl;have hcz152_1:w151.cell? ⟨gb359,1,none⟩=some (.slice Ao23 t355.length co23):=(blk_cell BK359.out 1).trans rfl;have hfz152_0:=blk_frozen BK359.out 0;have hfz152_1:=blk_frozen BK359.out 1)|((with_reducible refine gate_callee (f:=14) rfl ?_);refine goesL_ (some 167) rfl rfl Try.func14 (by kernel_rfl) rfl #[.agg #[.int .i64 t354,.slice Ao23 t355.length co23],.int .i64 x19_3] rfl tl ?_;(with_reducible refine(impl_BeatsAt.calls k3 t354 _ _ t355 x19_3 t386 t387 _ ?side1 ?side2 A145.out).mono ?_);(case side1=>repeat(first|exact(Kd.R_reads' HO_360001.out).2.2|(with_reducible refine Kd.C_alloc ?_ _)|(with_reducible refine Kd.C_drewN ?_ _)|(with_reducible refine Kd.C_drew ?_)));(case side2=>exact(Kd.R_reads' HO_360001.out).2.1);rintro e w153 ⟨rfl,hb⟩;refine⟨_,rfl,?_⟩;have n0_:=am (Kd.R_below (rup HO_350001.out) hb);have n1_:=am (Kd.R_below (rup HO_360001.out) hb);have n2_:=am (blk_below (bup BK349.out) hb);have n3_:=am (blk_below (bup BK359.out) hb);have n4_:=am (below_step bl hb);clear HO_350001 HO_360001 BK349 BK359 HB;have HO_350001:=n0_;have HO_360001:=n1_;have BK349:=n2_;have BK359:=n3_;have HB:=n4_;clear n0_ n1_ n2_ n3_ n4_;(try clear hb);(try clear hb2);(try clear hk);(try clear hi)))
                (try simp only[Act.put,List.setIfInBounds_toArray,List.set_cons_zero,List.set_cons_succ])
                go_cut [200] (fun v200 wc=>∃(kq:Nat) (x200_145:Bool),v200 = .bool x200_145∧Aside0 (laws_FnPatterns.j3 kq l1 x18_3 x19_3 t384 x200_145 t345 t346 t354 t355=some r)∧Aside0 (kq≤k3)∧Aside0 (Kd.R (Kd.int .i64) 3 wc w.heap.size (fun k_=>some k_≠((.slice Ao23 t355.length co23):Value).ownBlock) (.slice Ao14 t346.length co14) t346)∧Aside0 (Kd.R (Kd.int .i64) 3 wc w.heap.size (fun k_=>some k_≠((.slice Ao14 t346.length co14):Value).ownBlock) (.slice Ao23 t355.length co23) t355)∧Aside0 (wc.heap[gb349]?=some (.cells #[.int .i64 t345,(.slice Ao14 t346.length co14)] 26 (0,0)))∧Aside0 (wc.heap[gb359]?=some (.cells #[.int .i64 t354,(.slice Ao23 t355.length co23)] 26 (0,0)))∧Aside0 (Below w.heap.size w wc))
                case first =>
                 have H:=HC146.out
                 clear HC146
                 by_cases c154:t383=true
                 ·subst c154
                  have H1:(if t382=x18_3 then(if t385=true then(if t387=true then(if(t384 == t386)=true then(laws_FnPatterns.j3 k3 l1 x18_3 x19_3 t384 true t345 t346 t354 t355) else(if t345=0 then(none) else((laws_pIn.f k3 t346 (Int.tmod x19_3 t345)).bind fun t388=>(laws_FnPatterns.j3 k3 l1 x18_3 x19_3 t384 (t384 != t388) t345 t346 t354 t355)))) else(laws_FnPatterns.j3 k3 l1 x18_3 x19_3 t384 true t345 t346 t354 t355)) else(laws_FnPatterns.j3 k3 l1 x18_3 x19_3 t384 true t345 t346 t354 t355)) else(laws_FnPatterns.j3 k3 l1 x18_3 x19_3 t384 true t345 t346 t354 t355))=some r:=by rw[if_pos rfl] at H;exact H
                  clear H
                  have H:=H1
                  clear H1
                  by_cases c155:t382=x18_3
                  ·rw[if_pos c155] at H
                   have c155b0:(t382 == x18_3)=true:=beq_iff_eq.mpr c155
                   have c155b1:(t382 != x18_3)=false:=bne_eq_false_iff_eq.mpr c155
                   clear c155
                   (first|rw[c155b0]|(simp only[i64_w,i32_w];rw[c155b0])|skip)
                   by_cases c156:t385=true
                   ·subst c156
                    have H1:(if t387=true then(if(t384 == t386)=true then(laws_FnPatterns.j3 k3 l1 x18_3 x19_3 t384 true t345 t346 t354 t355) else(if t345=0 then(none) else((laws_pIn.f k3 t346 (Int.tmod x19_3 t345)).bind fun t388=>(laws_FnPatterns.j3 k3 l1 x18_3 x19_3 t384 (t384 != t388) t345 t346 t354 t355)))) else(laws_FnPatterns.j3 k3 l1 x18_3 x19_3 t384 true t345 t346 t354 t355))=some r:=by rw[if_pos rfl] at H;exact H
                    clear H
                    have H:=H1
                    clear H1
                    by_cases c157:t387=true
                    ·subst c157
                     have H1:(if(t384 == t386)=true then(laws_FnPatterns.j3 k3 l1 x18_3 x19_3 t384 true t345 t346 t354 t355) else(if t345=0 then(none) else((laws_pIn.f k3 t346 (Int.tmod x19_3 t345)).bind fun t388=>(laws_FnPatterns.j3 k3 l1 x18_3 x19_3 t384 (t384 != t388) t345 t346 t354 t355))))=some r:=by rw[if_pos rfl] at H;exact H
                     clear H
                     have H:=H1
                     clear H1
                     by_cases c158:(t384 == t386)=true
                     ·rw[if_pos c158] at H
                      have c158b0:(t384 == t386)=true:=c158
                      (try(have c158b1:decide (t384=t386)=true:=by simpa using c158))
                      (try(have c158b2:(t384 == t386)=true:=by simpa using c158))
                      clear c158
                      exact absurd hrt.out (laws_FnPatterns.j3_dead H)
                     ·rw[if_neg c158] at H
                      have c158b0:(t384 == t386)=false:=by simpa using c158
                      (try(have c158b1:decide (t384=t386)=false:=by simpa using c158))
                      (try(have c158b2:(t384 == t386)=false:=by simpa using c158))
                      (try(have c158b3:¬ (t384=t386):=by simpa using c158))
                      clear c158
                      by_cases c160:t345=0
                      ·rw[if_pos c160] at H
                       exact absurd H (by simp)
                      ·rw[if_neg c160] at H
                       have c160b0:(t345 == 0)=false:=beq_eq_false_iff_ne.mpr c160
                       have c160b1:(t345 != 0)=true:=bne_iff_ne.mpr c160
                       replace H:=Option.bind_eq_some_iff.mp H
                       obtain⟨t388,A1610,H⟩:=H
                       replace H:(laws_FnPatterns.j3 k3 l1 x18_3 x19_3 t384 (t384 != t388) t345 t346 t354 t355)=some r:=H
                       have A161:=am A1610
                       clear A1610
                       have H':=am H
                       clear H
                       try go_wp2
                       have n0_:=am (Kd.R_drew HO_350001.out)
                       have n1_:=am (Kd.R_drew HO_360001.out)
                       have n2_:=am (bD_ BK349.out)
                       have n3_:=am (bD_ BK359.out)
                       have n4_:=am (below_drew1 HB.out)
                       clear HO_350001
                       clear HO_360001
                       clear BK349
                       clear BK359
                       clear HB
                       have HO_350001:=n0_
                       have HO_360001:=n1_
                       have BK349:=n2_
                       have BK359:=n3_
                       have HB:=n4_
                       clear n0_ n1_ n2_ n3_ n4_
                       refine start_ (n:=31) (S:=fun w'=>w'.cell? ⟨gb349,0,none⟩=some (.int .i64 t345)∧w'.cell? ⟨gb349,1,none⟩=some (.slice Ao14 t346.length co14)) (ds:=[]) #[false,false,false,false,false,false,false,false,false,false,false,false,false,false,false,false,false,false,false,false,false,false,false,false,false,false,false,false,false,false,false] (by kernel_rfl) rfl rfl ⟨(blk_cell BK349.out 0).trans rfl,(blk_cell BK349.out 1).trans rfl⟩ (fun hHeld=>?_);refine with_tabW laws_FnPatterns.tab22 laws_FnPatterns.bits22 (fun HT_ HW_=>?_)
                       generalize w153.drew=w162 at HO_350001 HO_360001 BK349 BK359 HB hHeld ⊢
                       refine pure_ (i:=0) (N:=some 170) (v:=?_) (a':=?_) #[true,false,false,false,false,false,false,false,false,false,false,false,false,false,false,false,false,false,false,false,false,false,false,false,false,false,false,false,false,false,false] rfl rfl (any_of HT_.out (by kernel_rfl)) (fun _ _ _ h=>h) (Or.inl ⟨by rfl,?_⟩) ?_ ?_
                       rotate_left
                       ·intro w'
                        go_simp
                        with_reducible rfl
                       rotate_left
                       ·simp only[Act.put,List.setIfInBounds_toArray,List.set_cons_zero,List.set_cons_succ,i64_w,i32_w]
                        rfl
                       refine pure_ (i:=1) (N:=some 171) (v:=?_) (a':=?_) #[true,true,false,false,false,false,false,false,false,false,false,false,false,false,false,false,false,false,false,false,false,false,false,false,false,false,false,false,false,false,false] rfl rfl (any_of HT_.out (by kernel_rfl)) (fun _ _ _ h=>h) (Or.inl ⟨by rfl,?_⟩) ?_ ?_
                       rotate_left
                       ·intro w'
                        go_simp
                        with_reducible rfl
                       rotate_left
                       ·simp only[Act.put,List.setIfInBounds_toArray,List.set_cons_zero,List.set_cons_succ,i64_w,i32_w]
                        rfl
                       refine pure_ (i:=2) (N:=some 172) (v:=?_) (a':=?_) #[true,true,true,false,false,false,false,false,false,false,false,false,false,false,false,false,false,false,false,false,false,false,false,false,false,false,false,false,false,false,false] rfl rfl (any_of HT_.out (by kernel_rfl)) (fun _ _ _ h=>h) (Or.inl ⟨by rfl,?_⟩) ?_ ?_
                       rotate_left
                       ·intro w'
                        go_simp
                        with_reducible rfl
                       rotate_left
                       ·simp only[Act.put,List.setIfInBounds_toArray,List.set_cons_zero,List.set_cons_succ,i64_w,i32_w]
                        rfl
                       refine pure_ (i:=3) (N:=some 173) (v:=?_) (a':=?_) #[true,true,true,true,false,false,false,false,false,false,false,false,false,false,false,false,false,false,false,false,false,false,false,false,false,false,false,false,false,false,false] rfl rfl (any_of HT_.out (by kernel_rfl)) (fun _ _ _ h=>h) (Or.inl ⟨by rfl,?_⟩) ?_ ?_
                       rotate_left
                       ·intro w'
                        go_simp
                        with_reducible rfl
                       rotate_left
                       ·simp only[Act.put,List.setIfInBounds_toArray,List.set_cons_zero,List.set_cons_succ,i64_w,i32_w]
                        rfl
                       refine pure_ (i:=4) (N:=some 174) (v:=?_) (a':=?_) #[true,true,true,true,true,false,false,false,false,false,false,false,false,false,false,false,false,false,false,false,false,false,false,false,false,false,false,false,false,false,false] rfl rfl (any_of HT_.out (by kernel_rfl)) (fun _ _ _ h=>h) (Or.inl ⟨by rfl,?_⟩) ?_ ?_
                       rotate_left
                       ·intro w'
                        go_simp
                        with_reducible rfl
                       rotate_left
                       ·simp only[Act.put,List.setIfInBounds_toArray,List.set_cons_zero,List.set_cons_succ,i64_w,i32_w]
                        rfl
                       refine pure_ (i:=5) (N:=some 175) (v:=?_) (a':=?_) #[true,true,true,true,true,true,false,false,false,false,false,false,false,false,false,false,false,false,false,false,false,false,false,false,false,false,false,false,false,false,false] rfl rfl (any_of HT_.out (by kernel_rfl)) (fun _ _ _ h=>h) (Or.inl ⟨by rfl,?_⟩) ?_ ?_
                       rotate_left
                       ·intro w'
                        go_simp
                        with_reducible rfl
                       rotate_left
                       ·simp only[Act.put,List.setIfInBounds_toArray,List.set_cons_zero,List.set_cons_succ,i64_w,i32_w]
                        rfl
                       refine pure_ (i:=6) (N:=some 176) (v:=?_) (a':=?_) #[true,true,true,true,true,true,true,false,false,false,false,false,false,false,false,false,false,false,false,false,false,false,false,false,false,false,false,false,false,false,false] rfl rfl (any_of HT_.out (by kernel_rfl)) (fun _ _ _ h=>h) (Or.inl ⟨by rfl,?_⟩) ?_ ?_
                       rotate_left
                       ·intro w'
                        go_simp
                        with_reducible rfl
                       rotate_left
                       ·simp only[Act.put,List.setIfInBounds_toArray,List.set_cons_zero,List.set_cons_succ,i64_w,i32_w]
                        rfl
                       refine pure_ (i:=7) (N:=some 177) (v:=?_) (a':=?_) #[true,true,true,true,true,true,true,true,false,false,false,false,false,false,false,false,false,false,false,false,false,false,false,false,false,false,false,false,false,false,false] rfl rfl (any_of HT_.out (by kernel_rfl)) (fun _ _ _ h=>h) (Or.inl ⟨by rfl,?_⟩) ?_ ?_
                       rotate_left
                       ·intro w'
                        go_simp
                        with_reducible rfl
                       rotate_left
                       ·simp only[Act.put,List.setIfInBounds_toArray,List.set_cons_zero,List.set_cons_succ,i64_w,i32_w]
                        rfl
                       refine pure_ (i:=8) (N:=some 178) (v:=?_) (a':=?_) #[true,true,true,true,true,true,true,true,true,false,false,false,false,false,false,false,false,false,false,false,false,false,false,false,false,false,false,false,false,false,false] rfl rfl (any_of HT_.out (by kernel_rfl)) (fun _ _ _ h=>h) (Or.inl ⟨by rfl,?_⟩) ?_ ?_
                       rotate_left
                       ·intro w'
                        go_simp
                        with_reducible rfl
                       rotate_left
                       ·simp only[Act.put,List.setIfInBounds_toArray,List.set_cons_zero,List.set_cons_succ,i64_w,i32_w]
                        rfl
                       refine pure_ (i:=9) (N:=some 179) (v:=?_) (a':=?_) #[true,true,true,true,true,true,true,true,true,true,false,false,false,false,false,false,false,false,false,false,false,false,false,false,false,false,false,false,false,false,false] rfl rfl (any_of HT_.out (by kernel_rfl)) (fun _ _ _ h=>h) (Or.inl ⟨by rfl,?_⟩) ?_ ?_
                       rotate_left
                       ·intro w'
                        go_simp
                        with_reducible rfl
                       rotate_left
                       ·simp only[Act.put,List.setIfInBounds_toArray,List.set_cons_zero,List.set_cons_succ,i64_w,i32_w]
                        rfl
                       refine pure_ (i:=10) (N:=some 180) (v:=?_) (a':=?_) #[true,true,true,true,true,true,true,true,true,true,true,false,false,false,false,false,false,false,false,false,false,false,false,false,false,false,false,false,false,false,false] rfl rfl (any_of HT_.out (by kernel_rfl)) (fun _ _ _ h=>h) (Or.inl ⟨by rfl,?_⟩) ?_ ?_
                       rotate_left
                       ·intro w'
                        go_simp
                        with_reducible rfl
                       rotate_left
                       ·simp only[Act.put,List.setIfInBounds_toArray,List.set_cons_zero,List.set_cons_succ,i64_w,i32_w]
                        rfl
                       refine pure_ (i:=11) (N:=some 181) (v:=?_) (a':=?_) #[true,true,true,true,true,true,true,true,true,true,true,true,false,false,false,false,false,false,false,false,false,false,false,false,false,false,false,false,false,false,false] rfl rfl (any_of HT_.out (by kernel_rfl)) (fun _ _ _ h=>h) (Or.inl ⟨by rfl,?_⟩) ?_ ?_
                       rotate_left
                       ·intro w'
                        go_simp
                        with_reducible rfl
                       rotate_left
                       ·simp only[Act.put,List.setIfInBounds_toArray,List.set_cons_zero,List.set_cons_succ,i64_w,i32_w]
                        rfl
                       refine pure_ (i:=12) (N:=some 182) (v:=?_) (a':=?_) #[true,true,true,true,true,true,true,true,true,true,true,true,true,false,false,false,false,false,false,false,false,false,false,false,false,false,false,false,false,false,false] rfl rfl (any_of HT_.out (by kernel_rfl)) (fun _ _ _ h=>h) (Or.inl ⟨by rfl,?_⟩) ?_ ?_
                       rotate_left
                       ·intro w'
                        go_simp
                        with_reducible rfl
                       rotate_left
                       ·simp only[Act.put,List.setIfInBounds_toArray,List.set_cons_zero,List.set_cons_succ,i64_w,i32_w]
                        rfl
                       refine pure_ (i:=13) (N:=some 183) (v:=?_) (a':=?_) #[true,true,true,true,true,true,true,true,true,true,true,true,true,true,false,false,false,false,false,false,false,false,false,false,false,false,false,false,false,false,false] rfl rfl (any_of HT_.out (by kernel_rfl)) (fun _ _ _ h=>h) (Or.inl ⟨by rfl,?_⟩) ?_ ?_
                       rotate_left
                       ·intro w'
                        go_simp
                        with_reducible rfl
                       rotate_left
                       ·simp only[Act.put,List.setIfInBounds_toArray,List.set_cons_zero,List.set_cons_succ,i64_w,i32_w]
                        rfl
                       refine pure_ (i:=14) (N:=some 184) (v:=?_) (a':=?_) #[true,true,true,true,true,true,true,true,true,true,true,true,true,true,true,false,false,false,false,false,false,false,false,false,false,false,false,false,false,false,false] rfl rfl (any_of HT_.out (by kernel_rfl)) (fun _ _ _ h=>h) (Or.inl ⟨by rfl,?_⟩) ?_ ?_
                       rotate_left
                       ·intro w'
                        go_simp
                        with_reducible rfl
                       rotate_left
                       ·simp only[Act.put,List.setIfInBounds_toArray,List.set_cons_zero,List.set_cons_succ,i64_w,i32_w]
                        rfl
                       refine pure_ (i:=15) (N:=some 185) (v:=?_) (a':=?_) #[true,true,true,true,true,true,true,true,true,true,true,true,true,true,true,true,false,false,false,false,false,false,false,false,false,false,false,false,false,false,false] rfl rfl (any_of HT_.out (by kernel_rfl)) (fun _ _ _ h=>h) (Or.inl ⟨by rfl,?_⟩) ?_ ?_
                       rotate_left
                       ·intro w'
                        go_simp
                        with_reducible rfl
                       rotate_left
                       ·simp only[Act.put,List.setIfInBounds_toArray,List.set_cons_zero,List.set_cons_succ,i64_w,i32_w]
                        rfl
                       refine pure_ (i:=16) (N:=some 186) (v:=?_) (a':=?_) #[true,true,true,true,true,true,true,true,true,true,true,true,true,true,true,true,true,false,false,false,false,false,false,false,false,false,false,false,false,false,false] rfl rfl (any_of HT_.out (by kernel_rfl)) (fun _ _ _ h=>h) (Or.inl ⟨by rfl,?_⟩) ?_ ?_
                       rotate_left
                       ·intro w'
                        go_simp
                        with_reducible rfl
                       rotate_left
                       ·simp only[Act.put,List.setIfInBounds_toArray,List.set_cons_zero,List.set_cons_succ,i64_w,i32_w]
                        rfl
                       refine pure_ (i:=17) (N:=some 187) (v:=?_) (a':=?_) #[true,true,true,true,true,true,true,true,true,true,true,true,true,true,true,true,true,true,false,false,false,false,false,false,false,false,false,false,false,false,false] rfl rfl (any_of HT_.out (by kernel_rfl)) (fun _ _ _ h=>h) (Or.inl ⟨by rfl,?_⟩) ?_ ?_
                       rotate_left
                       ·intro w'
                        go_simp
                        with_reducible rfl
                       rotate_left
                       ·simp only[Act.put,List.setIfInBounds_toArray,List.set_cons_zero,List.set_cons_succ,i64_w,i32_w]
                        rfl
                       refine pure_ (i:=18) (N:=some 188) (v:=?_) (a':=?_) #[true,true,true,true,true,true,true,true,true,true,true,true,true,true,true,true,true,true,true,false,false,false,false,false,false,false,false,false,false,false,false] rfl rfl (any_of HT_.out (by kernel_rfl)) (fun _ _ _ h=>h) (Or.inl ⟨by rfl,?_⟩) ?_ ?_
                       rotate_left
                       ·intro w'
                        go_simp
                        with_reducible rfl
                       rotate_left
                       ·simp only[Act.put,List.setIfInBounds_toArray,List.set_cons_zero,List.set_cons_succ,i64_w,i32_w]
                        rfl
                       refine pure_ (i:=19) (N:=some 189) (v:=?_) (a':=?_) #[true,true,true,true,true,true,true,true,true,true,true,true,true,true,true,true,true,true,true,true,false,false,false,false,false,false,false,false,false,false,false] rfl rfl (any_of HT_.out (by kernel_rfl)) (fun _ _ _ h=>h) (Or.inl ⟨by rfl,?_⟩) ?_ ?_
                       rotate_left
                       ·intro w'
                        go_simp
                        with_reducible rfl
                       rotate_left
                       ·simp only[Act.put,List.setIfInBounds_toArray,List.set_cons_zero,List.set_cons_succ,i64_w,i32_w]
                        rfl
                       refine pure_ (i:=20) (N:=some 190) (v:=?_) (a':=?_) #[true,true,true,true,true,true,true,true,true,true,true,true,true,true,true,true,true,true,true,true,true,false,false,false,false,false,false,false,false,false,false] rfl rfl (any_of HT_.out (by kernel_rfl)) (fun _ _ _ h=>h) (Or.inl ⟨by rfl,?_⟩) ?_ ?_
                       rotate_left
                       ·intro w'
                        go_simp
                        with_reducible rfl
                       rotate_left
                       ·simp only[Act.put,List.setIfInBounds_toArray,List.set_cons_zero,List.set_cons_succ,i64_w,i32_w]
                        rfl
                       refine pure_ (i:=21) (N:=some 191) (v:=?_) (a':=?_) #[true,true,true,true,true,true,true,true,true,true,true,true,true,true,true,true,true,true,true,true,true,true,false,false,false,false,false,false,false,false,false] rfl rfl (any_of HT_.out (by kernel_rfl)) (fun _ _ _ h=>h) (Or.inl ⟨by rfl,?_⟩) ?_ ?_
                       rotate_left
                       ·intro w'
                        go_simp
                        with_reducible rfl
                       rotate_left
                       ·simp only[Act.put,List.setIfInBounds_toArray,List.set_cons_zero,List.set_cons_succ,i64_w,i32_w]
                        rfl
                       refine pure_ (i:=22) (N:=some 192) (v:=?_) (a':=?_) #[true,true,true,true,true,true,true,true,true,true,true,true,true,true,true,true,true,true,true,true,true,true,true,false,false,false,false,false,false,false,false] rfl rfl (any_of HT_.out (by kernel_rfl)) (fun _ _ _ h=>h) (Or.inl ⟨by rfl,?_⟩) ?_ ?_
                       rotate_left
                       ·intro w'
                        go_simp
                        with_reducible rfl
                       rotate_left
                       ·simp only[Act.put,List.setIfInBounds_toArray,List.set_cons_zero,List.set_cons_succ,i64_w,i32_w]
                        rfl
                       refine pure_ (i:=24) (N:=some 194) (v:=?_) (a':=?_) #[true,true,true,true,true,true,true,true,true,true,true,true,true,true,true,true,true,true,true,true,true,true,true,false,true,false,false,false,false,false,false] rfl rfl (any_of HT_.out (by kernel_rfl)) (fun _ _ _ h=>h) (Or.inl ⟨by rfl,?_⟩) ?_ ?_
                       rotate_left
                       ·intro w'
                        go_simp
                        with_reducible rfl
                       rotate_left
                       ·simp only[Act.put,List.setIfInBounds_toArray,List.set_cons_zero,List.set_cons_succ,i64_w,i32_w]
                        rfl
                       refine pure_ (i:=25) (N:=some 195) (v:=?_) (a':=?_) #[true,true,true,true,true,true,true,true,true,true,true,true,true,true,true,true,true,true,true,true,true,true,true,false,true,true,false,false,false,false,false] rfl rfl (any_of HT_.out (by kernel_rfl)) (fun _ _ _ h=>h) (Or.inl ⟨by rfl,?_⟩) ?_ ?_
                       rotate_left
                       ·intro w'
                        go_simp
                        with_reducible rfl
                       rotate_left
                       ·simp only[Act.put,List.setIfInBounds_toArray,List.set_cons_zero,List.set_cons_succ,i64_w,i32_w]
                        rfl
                       refine take_ (i:=23) (N:=some 193) (v:=?_) (a':=?_) #[true,true,true,true,true,true,true,true,true,true,true,true,true,true,true,true,true,true,true,true,true,true,true,true,true,true,false,false,false,false,false] rfl rfl (take_ofW HT_.out HW_.out (by kernel_rfl)) (fun _ _ _ h=>h) (Or.inl ⟨by rfl,?_⟩) hHeld ?_ ?_
                       rotate_left
                       ·rintro w' ⟨s0,s1⟩
                        go_simp
                        with_reducible rfl
                       rotate_left
                       ·simp only[Act.put,List.setIfInBounds_toArray,List.set_cons_zero,List.set_cons_succ,i64_w,i32_w]
                        rfl
                       refine take_ (i:=26) (N:=some 196) (v:=?_) (a':=?_) #[true,true,true,true,true,true,true,true,true,true,true,true,true,true,true,true,true,true,true,true,true,true,true,true,true,true,true,false,false,false,false] rfl rfl (take_ofW HT_.out HW_.out (by kernel_rfl)) (fun _ _ _ h=>h) (Or.inl ⟨by rfl,?_⟩) hHeld ?_ ?_
                       rotate_left
                       ·rintro w' ⟨s0,s1⟩
                        go_simp
                        with_reducible rfl
                       rotate_left
                       ·simp only[Act.put,List.setIfInBounds_toArray,List.set_cons_zero,List.set_cons_succ,i64_w,i32_w]
                        rfl
                       refine pure_ (i:=27) (N:=some 197) (v:=?_) (a':=?_) #[true,true,true,true,true,true,true,true,true,true,true,true,true,true,true,true,true,true,true,true,true,true,true,true,true,true,true,true,false,false,false] rfl rfl (any_of HT_.out (by kernel_rfl)) (fun _ _ _ h=>h) (Or.inl ⟨by rfl,?_⟩) ?_ ?_
                       rotate_left
                       ·intro w'
                        go_simp
                        with_reducible rfl
                       rotate_left
                       ·simp only[Act.put,List.setIfInBounds_toArray,List.set_cons_zero,List.set_cons_succ,i64_w,i32_w]
                        rfl
                       refine one_ (i:=28) (N:=some 198) #[true,true,true,true,true,true,true,true,true,true,true,true,true,true,true,true,true,true,true,true,true,true,true,true,true,true,true,true,true,false,false] rfl rfl (one_of HT_.out (by kernel_rfl)) (by decide) (fun K hK=>?_)
                       refine goes_ Try.func15 (by kernel_rfl) rfl #[.slice Ao14 t346.length co14,.int .i64 (Int.tmod x19_3 t345)] (by rfl) rfl rfl tl ?_
                       with_reducible refine(laws_pIn.calls k3 _ _ t346 (Int.tmod x19_3 t345) t388 _ ?side1 ?side2 A161.out).mono ?_
                       (case side1=>repeat(first|exact(Kd.R_reads' HO_350001.out).2.2|(with_reducible refine Kd.C_alloc ?_ _)|(with_reducible refine Kd.C_drewN ?_ _)|(with_reducible refine Kd.C_drew ?_)))
                       (case side2=>exact(Kd.R_reads' HO_350001.out).2.1)
                       rintro e w' ⟨rfl,⟨nd,rfl⟩⟩
                       refine⟨_,rfl,?_⟩
                       refine hK.out _ _ ⟨(blk_cell BK349.out 0).trans rfl,(blk_cell BK349.out 1).trans rfl⟩ (fun hHeld=>?_)
                       clear hK K
                       refine norm_ (a':=?_) ?_ ?_
                       rotate_left
                       ·show Act.put _ (some 198) _=_
                        simp only[Act.put,List.setIfInBounds_toArray,List.set_cons_zero,List.set_cons_succ,i64_w,i32_w]
                        rfl
                       refine pure_ (i:=29) (N:=some 199) (v:=?_) (a':=?_) #[true,true,true,true,true,true,true,true,true,true,true,true,true,true,true,true,true,true,true,true,true,true,true,true,true,true,true,true,true,true,false] rfl rfl (any_of HT_.out (by kernel_rfl)) (fun _ _ _ h=>h) (Or.inl ⟨by rfl,?_⟩) ?_ ?_
                       rotate_left
                       ·intro w'
                        go_simp
                        with_reducible rfl
                       rotate_left
                       ·simp only[Act.put,List.setIfInBounds_toArray,List.set_cons_zero,List.set_cons_succ,i64_w,i32_w]
                        rfl
                       refine pure_ (i:=30) (N:=some 200) (v:=?_) (a':=?_) #[true,true,true,true,true,true,true,true,true,true,true,true,true,true,true,true,true,true,true,true,true,true,true,true,true,true,true,true,true,true,true] rfl rfl (any_of HT_.out (by kernel_rfl)) (fun _ _ _ h=>h) (Or.inl ⟨by rfl,?_⟩) ?_ ?_
                       rotate_left
                       ·intro w'
                        go_simp
                        with_reducible rfl
                       rotate_left
                       ·simp only[Act.put,List.setIfInBounds_toArray,List.set_cons_zero,List.set_cons_succ,i64_w,i32_w]
                        rfl
                       refine done_ (done_of HT_.out (by kernel_rfl)) ?_
                       try go_wp2
                       go_meet
                       case rel=>exact⟨_,((t384 != t388)),fin2,H',⟨by have:=HJ9.out;have:=HJ62.out;have:=HK3.out;first|omega|exact Nat.le_refl _⟩,⟨rup HO_350001.out⟩,⟨rup HO_360001.out⟩,⟨bup BK349.out⟩,⟨bup BK359.out⟩,⟨bl⟩⟩
                    ·replace c157:=Bool.eq_false_iff.mpr c157
                     subst c157
                     have H1:(laws_FnPatterns.j3 k3 l1 x18_3 x19_3 t384 true t345 t346 t354 t355)=some r:=by rw[if_neg (show ¬ (false=true) by decide)] at H;exact H
                     clear H
                     have H:=H1
                     clear H1
                     exact absurd hrt.out (laws_FnPatterns.j3_dead H)
                   ·replace c156:=Bool.eq_false_iff.mpr c156
                    subst c156
                    have H1:(laws_FnPatterns.j3 k3 l1 x18_3 x19_3 t384 true t345 t346 t354 t355)=some r:=by rw[if_neg (show ¬ (false=true) by decide)] at H;exact H
                    clear H
                    have H:=H1
                    clear H1
                    exact absurd hrt.out (laws_FnPatterns.j3_dead H)
                  ·rw[if_neg c155] at H
                   have c155b0:(t382 == x18_3)=false:=beq_eq_false_iff_ne.mpr c155
                   have c155b1:(t382 != x18_3)=true:=bne_iff_ne.mpr c155
                   (first|rw[c155b0]|(simp only[i64_w,i32_w];rw[c155b0])|skip)
                   exact absurd hrt.out (laws_FnPatterns.j3_dead H)
                 ·replace c154:=Bool.eq_false_iff.mpr c154
                  subst c154
                  have H1:(laws_FnPatterns.j3 k3 l1 x18_3 x19_3 t384 true t345 t346 t354 t355)=some r:=by rw[if_neg (show ¬ (false=true) by decide)] at H;exact H
                  clear H
                  have H:=H1
                  clear H1
                  exact absurd hrt.out (laws_FnPatterns.j3_dead H)
                case rest =>
                 as_aux_lemma =>
                  clear HC146
                  try clear c1
                  try clear p2
                  try clear c15
                  try clear c154
                  try clear c155
                  try clear c155b0
                  try clear c155b1
                  obtain⟨kq,x200_145,rfl,HA,HJ145,HO_350001,HO_360001,BK349,BK359,HB⟩:=hcut
                  cases kq with
                  | zero=>exact absurd HA.out (by simp [laws_FnPatterns.j3])
                  | succ kj145 =>
                   have H:=HA.out
                   clear HA
                   simp only[laws_FnPatterns.j3] at H
                   by_cases c167:x200_145=true
                   ·subst c167
                    have H1:(some false)=some r:=by rw[if_pos rfl] at H;exact H
                    clear H
                    have H:=H1
                    clear H1
                    obtain rfl:=Option.some.inj H
                    exact absurd hrt.out (by simp)
                   ·replace c167:=Bool.eq_false_iff.mpr c167
                    subst c167
                    have H1:(if t384=true then(laws_FnPatterns.l0 kj145 l1 (wrap64 (x18_3+1)) (wrap64 (x19_3+1)) t345 t346 t354 t355) else(laws_FnPatterns.l0 kj145 l1 x18_3 (wrap64 (x19_3+1)) t345 t346 t354 t355))=some r:=by rw[if_neg (show ¬ (false=true) by decide)] at H;exact H
                    clear H
                    have H:=H1
                    clear H1
                    by_cases c168:t384=true
                    ·subst c168
                     have H1:(laws_FnPatterns.l0 kj145 l1 (wrap64 (x18_3+1)) (wrap64 (x19_3+1)) t345 t346 t354 t355)=some r:=by rw[if_pos rfl] at H;exact H
                     clear H
                     have H:=H1
                     clear H1
                     have H':=am H
                     clear H
                     go_wp2
                     go_roundg kj145
                     case measure=>have:=HJ9.out;have:=HJ62.out;have:=HK3.out;have:=HJ145.out;omega
                     case rel=>exact⟨(wrap64 (x18_3+1)),(wrap64 (x19_3+1)),fin2,fin2,H',⟨by have:=HJ9.out;have:=HJ62.out;have:=HK3.out;have:=HJ145.out;omega⟩,⟨rup HO_350001.out⟩,⟨rup HO_360001.out⟩,⟨bup BK349.out⟩,⟨bup BK359.out⟩,⟨bl⟩⟩
                    ·replace c168:=Bool.eq_false_iff.mpr c168
                     subst c168
                     have H1:(laws_FnPatterns.l0 kj145 l1 x18_3 (wrap64 (x19_3+1)) t345 t346 t354 t355)=some r:=by rw[if_neg (show ¬ (false=true) by decide)] at H;exact H
                     clear H
                     have H:=H1
                     clear H1
                     have H':=am H
                     clear H
                     go_wp2
                     go_roundg kj145
                     case measure=>have:=HJ9.out;have:=HJ62.out;have:=HK3.out;have:=HJ145.out;omega
                     case rel=>exact⟨(x18_3),(wrap64 (x19_3+1)),fin2,fin2,H',⟨by have:=HJ9.out;have:=HJ62.out;have:=HK3.out;have:=HJ145.out;omega⟩,⟨rup HO_350001.out⟩,⟨rup HO_360001.out⟩,⟨bup BK349.out⟩,⟨bup BK359.out⟩,⟨bl⟩⟩
               ·rw[if_neg c142] at H
                have c142b0:decide (x19_3<(wrap64 (2*t345)))=false:=decide_eq_false c142
                clear c142
                have H':=am H
                clear H
                have hnb169:=NB349_359.out
                have hnc169:=NB359_349.out
                have hcz170_0:wr.cell? ⟨gb349,0,none⟩=some (.int .i64 t345):=(blk_cell BK349.out 0).trans rfl
                have hcz170_1:wr.cell? ⟨gb349,1,none⟩=some (.slice Ao14 t346.length co14):=(blk_cell BK349.out 1).trans rfl
                have hfz170_0:=blk_frozen BK349.out 0
                have hfz170_1:=blk_frozen BK349.out 1
                go_wp2
                go_meet
                case rel=>exact⟨_,H',⟨by have:=HJ9.out;have:=HJ62.out;have:=HK3.out;first|omega|exact Nat.le_refl _⟩,⟨bl⟩⟩
       ·replace c60:=Bool.eq_false_iff.mpr c60
        subst c60
        have H1:(laws_FnPatterns.j4 kj9 l1)=some r:=by rw[if_neg (show ¬ (false=true) by decide)] at H;exact H
        clear H
        have H:=H1
        clear H1
        have H':=am H
        clear H
        go_wp2
        go_meet
        case rel=>exact⟨_,H',⟨by have:=HJ9.out;first|omega|exact Nat.le_refl _⟩,⟨bl⟩⟩
      case rest =>
       as_aux_lemma =>
        clear HC59
        try clear c1
        try clear p2
        try clear c6
        try clear p6
        try clear c14
        try clear c15
        try clear c16
        try clear c60
        try clear p64
        try clear c142
        try clear c142b0
        try clear c154
        try clear c155
        try clear c155b0
        try clear c155b1
        try clear c167
        try clear c168
        try clear c169
        try clear hcz170_0
        try clear hcz170_1
        try clear hfz170_0
        try clear hfz170_1
        try clear p2
        obtain⟨kq,HA,HJ58,HB⟩:=hcut
        cases kq with
        | zero=>exact absurd HA.out (by simp [laws_FnPatterns.j4])
        | succ kj58 =>
         have H:=HA.out
         clear HA
         simp only[laws_FnPatterns.j4] at H
         replace H:=Option.bind_eq_some_iff.mp H
         obtain⟨⟨t389,t390,t393⟩,A1710,H⟩:=H
         replace H:((impl_CountBeats.f kj58 t389 t390 t393).bind fun bt395=>((spec_CountBeats.f kj58 t389 t390 t393).bind fun bt397=>((impl_BeatsAt.f kj58 t389 t390 t393).bind fun bt399=>((spec_BeatsAt.f kj58 t389 t390 t393).bind fun bt401=>((spec_DrawEvenPattern.f l1).bind fun bt403=>((impl_EvenPattern.f kj58 bt403.1 bt403.2).bind fun bt405=>((spec_EvenPattern.f kj58 bt403.1 bt403.2).bind fun bt411=>(if(bt395.2 != bt397.2)=true then(laws_FnPatterns.j5 kj58 l1 bt403.1 bt403.2 bt405.2.2 true bt405.1 bt405.2.1 bt411.1 bt411.2.1) else(if bt395.1=bt397.1 then(if(bt399.2 != bt401.2)=true then(laws_FnPatterns.j5 kj58 l1 bt403.1 bt403.2 bt405.2.2 true bt405.1 bt405.2.1 bt411.1 bt411.2.1) else(if(bt399.1 != bt401.1)=true then(laws_FnPatterns.j5 kj58 l1 bt403.1 bt403.2 bt405.2.2 true bt405.1 bt405.2.1 bt411.1 bt411.2.1) else(if(bt405.2.2 != bt411.2.2)=true then(laws_FnPatterns.j5 kj58 l1 bt403.1 bt403.2 bt405.2.2 true bt405.1 bt405.2.1 bt411.1 bt411.2.1) else((laws_pSamePattern.f kj58 bt405.1 bt405.2.1 bt411.1 bt411.2.1).bind fun t417=>(laws_FnPatterns.j5 kj58 l1 bt403.1 bt403.2 bt405.2.2 (!t417) bt405.1 bt405.2.1 bt411.1 bt411.2.1))))) else(laws_FnPatterns.j5 kj58 l1 bt403.1 bt403.2 bt405.2.2 true bt405.1 bt405.2.1 bt411.1 bt411.2.1))))))))))=some r:=H
         have A171:=am A1710
         clear A1710
         replace H:=Option.bind_eq_some_iff.mp H
         obtain⟨⟨t395,t396⟩,A1720,H⟩:=H
         replace H:((spec_CountBeats.f kj58 t389 t390 t393).bind fun bt397=>((impl_BeatsAt.f kj58 t389 t390 t393).bind fun bt399=>((spec_BeatsAt.f kj58 t389 t390 t393).bind fun bt401=>((spec_DrawEvenPattern.f l1).bind fun bt403=>((impl_EvenPattern.f kj58 bt403.1 bt403.2).bind fun bt405=>((spec_EvenPattern.f kj58 bt403.1 bt403.2).bind fun bt411=>(if(t396 != bt397.2)=true then(laws_FnPatterns.j5 kj58 l1 bt403.1 bt403.2 bt405.2.2 true bt405.1 bt405.2.1 bt411.1 bt411.2.1) else(if t395=bt397.1 then(if(bt399.2 != bt401.2)=true then(laws_FnPatterns.j5 kj58 l1 bt403.1 bt403.2 bt405.2.2 true bt405.1 bt405.2.1 bt411.1 bt411.2.1) else(if(bt399.1 != bt401.1)=true then(laws_FnPatterns.j5 kj58 l1 bt403.1 bt403.2 bt405.2.2 true bt405.1 bt405.2.1 bt411.1 bt411.2.1) else(if(bt405.2.2 != bt411.2.2)=true then(laws_FnPatterns.j5 kj58 l1 bt403.1 bt403.2 bt405.2.2 true bt405.1 bt405.2.1 bt411.1 bt411.2.1) else((laws_pSamePattern.f kj58 bt405.1 bt405.2.1 bt411.1 bt411.2.1).bind fun t417=>(laws_FnPatterns.j5 kj58 l1 bt403.1 bt403.2 bt405.2.2 (!t417) bt405.1 bt405.2.1 bt411.1 bt411.2.1))))) else(laws_FnPatterns.j5 kj58 l1 bt403.1 bt403.2 bt405.2.2 true bt405.1 bt405.2.1 bt411.1 bt411.2.1)))))))))=some r:=H
         have A172:=am A1720
         clear A1720
         replace H:=Option.bind_eq_some_iff.mp H
         obtain⟨⟨t397,t398⟩,A1730,H⟩:=H
         replace H:((impl_BeatsAt.f kj58 t389 t390 t393).bind fun bt399=>((spec_BeatsAt.f kj58 t389 t390 t393).bind fun bt401=>((spec_DrawEvenPattern.f l1).bind fun bt403=>((impl_EvenPattern.f kj58 bt403.1 bt403.2).bind fun bt405=>((spec_EvenPattern.f kj58 bt403.1 bt403.2).bind fun bt411=>(if(t396 != t398)=true then(laws_FnPatterns.j5 kj58 l1 bt403.1 bt403.2 bt405.2.2 true bt405.1 bt405.2.1 bt411.1 bt411.2.1) else(if t395=t397 then(if(bt399.2 != bt401.2)=true then(laws_FnPatterns.j5 kj58 l1 bt403.1 bt403.2 bt405.2.2 true bt405.1 bt405.2.1 bt411.1 bt411.2.1) else(if(bt399.1 != bt401.1)=true then(laws_FnPatterns.j5 kj58 l1 bt403.1 bt403.2 bt405.2.2 true bt405.1 bt405.2.1 bt411.1 bt411.2.1) else(if(bt405.2.2 != bt411.2.2)=true then(laws_FnPatterns.j5 kj58 l1 bt403.1 bt403.2 bt405.2.2 true bt405.1 bt405.2.1 bt411.1 bt411.2.1) else((laws_pSamePattern.f kj58 bt405.1 bt405.2.1 bt411.1 bt411.2.1).bind fun t417=>(laws_FnPatterns.j5 kj58 l1 bt403.1 bt403.2 bt405.2.2 (!t417) bt405.1 bt405.2.1 bt411.1 bt411.2.1))))) else(laws_FnPatterns.j5 kj58 l1 bt403.1 bt403.2 bt405.2.2 true bt405.1 bt405.2.1 bt411.1 bt411.2.1))))))))=some r:=H
         have A173:=am A1730
         clear A1730
         replace H:=Option.bind_eq_some_iff.mp H
         obtain⟨⟨t399,t400⟩,A1740,H⟩:=H
         replace H:((spec_BeatsAt.f kj58 t389 t390 t393).bind fun bt401=>((spec_DrawEvenPattern.f l1).bind fun bt403=>((impl_EvenPattern.f kj58 bt403.1 bt403.2).bind fun bt405=>((spec_EvenPattern.f kj58 bt403.1 bt403.2).bind fun bt411=>(if(t396 != t398)=true then(laws_FnPatterns.j5 kj58 l1 bt403.1 bt403.2 bt405.2.2 true bt405.1 bt405.2.1 bt411.1 bt411.2.1) else(if t395=t397 then(if(t400 != bt401.2)=true then(laws_FnPatterns.j5 kj58 l1 bt403.1 bt403.2 bt405.2.2 true bt405.1 bt405.2.1 bt411.1 bt411.2.1) else(if(t399 != bt401.1)=true then(laws_FnPatterns.j5 kj58 l1 bt403.1 bt403.2 bt405.2.2 true bt405.1 bt405.2.1 bt411.1 bt411.2.1) else(if(bt405.2.2 != bt411.2.2)=true then(laws_FnPatterns.j5 kj58 l1 bt403.1 bt403.2 bt405.2.2 true bt405.1 bt405.2.1 bt411.1 bt411.2.1) else((laws_pSamePattern.f kj58 bt405.1 bt405.2.1 bt411.1 bt411.2.1).bind fun t417=>(laws_FnPatterns.j5 kj58 l1 bt403.1 bt403.2 bt405.2.2 (!t417) bt405.1 bt405.2.1 bt411.1 bt411.2.1))))) else(laws_FnPatterns.j5 kj58 l1 bt403.1 bt403.2 bt405.2.2 true bt405.1 bt405.2.1 bt411.1 bt411.2.1)))))))=some r:=H
         have A174:=am A1740
         clear A1740
         replace H:=Option.bind_eq_some_iff.mp H
         obtain⟨⟨t401,t402⟩,A1750,H⟩:=H
         replace H:((spec_DrawEvenPattern.f l1).bind fun bt403=>((impl_EvenPattern.f kj58 bt403.1 bt403.2).bind fun bt405=>((spec_EvenPattern.f kj58 bt403.1 bt403.2).bind fun bt411=>(if(t396 != t398)=true then(laws_FnPatterns.j5 kj58 l1 bt403.1 bt403.2 bt405.2.2 true bt405.1 bt405.2.1 bt411.1 bt411.2.1) else(if t395=t397 then(if(t400 != t402)=true then(laws_FnPatterns.j5 kj58 l1 bt403.1 bt403.2 bt405.2.2 true bt405.1 bt405.2.1 bt411.1 bt411.2.1) else(if(t399 != t401)=true then(laws_FnPatterns.j5 kj58 l1 bt403.1 bt403.2 bt405.2.2 true bt405.1 bt405.2.1 bt411.1 bt411.2.1) else(if(bt405.2.2 != bt411.2.2)=true then(laws_FnPatterns.j5 kj58 l1 bt403.1 bt403.2 bt405.2.2 true bt405.1 bt405.2.1 bt411.1 bt411.2.1) else((laws_pSamePattern.f kj58 bt405.1 bt405.2.1 bt411.1 bt411.2.1).bind fun t417=>(laws_FnPatterns.j5 kj58 l1 bt403.1 bt403.2 bt405.2.2 (!t417) bt405.1 bt405.2.1 bt411.1 bt411.2.1))))) else(laws_FnPatterns.j5 kj58 l1 bt403.1 bt403.2 bt405.2.2 true bt405.1 bt405.2.1 bt411.1 bt411.2.1))))))=some r:=H
         have A175:=am A1750
         clear A1750
         replace H:=Option.bind_eq_some_iff.mp H
         obtain⟨⟨t403,t404⟩,A1760,H⟩:=H
         replace H:((impl_EvenPattern.f kj58 t403 t404).bind fun bt405=>((spec_EvenPattern.f kj58 t403 t404).bind fun bt411=>(if(t396 != t398)=true then(laws_FnPatterns.j5 kj58 l1 t403 t404 bt405.2.2 true bt405.1 bt405.2.1 bt411.1 bt411.2.1) else(if t395=t397 then(if(t400 != t402)=true then(laws_FnPatterns.j5 kj58 l1 t403 t404 bt405.2.2 true bt405.1 bt405.2.1 bt411.1 bt411.2.1) else(if(t399 != t401)=true then(laws_FnPatterns.j5 kj58 l1 t403 t404 bt405.2.2 true bt405.1 bt405.2.1 bt411.1 bt411.2.1) else(if(bt405.2.2 != bt411.2.2)=true then(laws_FnPatterns.j5 kj58 l1 t403 t404 bt405.2.2 true bt405.1 bt405.2.1 bt411.1 bt411.2.1) else((laws_pSamePattern.f kj58 bt405.1 bt405.2.1 bt411.1 bt411.2.1).bind fun t417=>(laws_FnPatterns.j5 kj58 l1 t403 t404 bt405.2.2 (!t417) bt405.1 bt405.2.1 bt411.1 bt411.2.1))))) else(laws_FnPatterns.j5 kj58 l1 t403 t404 bt405.2.2 true bt405.1 bt405.2.1 bt411.1 bt411.2.1)))))=some r:=H
         have A176:=am A1760
         clear A1760
         replace H:=Option.bind_eq_some_iff.mp H
         obtain⟨⟨t405,t406,t409⟩,A1770,H⟩:=H
         replace H:((spec_EvenPattern.f kj58 t403 t404).bind fun bt411=>(if(t396 != t398)=true then(laws_FnPatterns.j5 kj58 l1 t403 t404 t409 true t405 t406 bt411.1 bt411.2.1) else(if t395=t397 then(if(t400 != t402)=true then(laws_FnPatterns.j5 kj58 l1 t403 t404 t409 true t405 t406 bt411.1 bt411.2.1) else(if(t399 != t401)=true then(laws_FnPatterns.j5 kj58 l1 t403 t404 t409 true t405 t406 bt411.1 bt411.2.1) else(if(t409 != bt411.2.2)=true then(laws_FnPatterns.j5 kj58 l1 t403 t404 t409 true t405 t406 bt411.1 bt411.2.1) else((laws_pSamePattern.f kj58 t405 t406 bt411.1 bt411.2.1).bind fun t417=>(laws_FnPatterns.j5 kj58 l1 t403 t404 t409 (!t417) t405 t406 bt411.1 bt411.2.1))))) else(laws_FnPatterns.j5 kj58 l1 t403 t404 t409 true t405 t406 bt411.1 bt411.2.1))))=some r:=H
         have A177:=am A1770
         clear A1770
         replace H:=Option.bind_eq_some_iff.mp H
         obtain⟨⟨t411,t412,t415⟩,A1780,H⟩:=H
         replace H:(if(t396 != t398)=true then(laws_FnPatterns.j5 kj58 l1 t403 t404 t409 true t405 t406 t411 t412) else(if t395=t397 then(if(t400 != t402)=true then(laws_FnPatterns.j5 kj58 l1 t403 t404 t409 true t405 t406 t411 t412) else(if(t399 != t401)=true then(laws_FnPatterns.j5 kj58 l1 t403 t404 t409 true t405 t406 t411 t412) else(if(t409 != t415)=true then(laws_FnPatterns.j5 kj58 l1 t403 t404 t409 true t405 t406 t411 t412) else((laws_pSamePattern.f kj58 t405 t406 t411 t412).bind fun t417=>(laws_FnPatterns.j5 kj58 l1 t403 t404 t409 (!t417) t405 t406 t411 t412))))) else(laws_FnPatterns.j5 kj58 l1 t403 t404 t409 true t405 t406 t411 t412)))=some r:=H
         have A178:=am A1780
         clear A1780
         have HC179:=am H
         clear H
         go_upto_region 34 with(first|((with_reducible refine gate_callee (f:=16) rfl ?_);refine goesL_ (some 206) rfl rfl Try.func16 (by kernel_rfl) rfl #[.slice A1 l1.length c1] rfl tl ?_;(with_reducible refine(spec_DrawCountBeats.calls kj58 _ _ l1 t389 t390 t393 _ ?side1 ?side2 A171.out).mono ?_);(case side1=>exact cup (Kd.C_below HR1.out HB.out));(case side2=>exact HC1.out);rintro e w180 ⟨v391,rfl,ho0,hb⟩;refine⟨_,rfl,?_⟩;have n0_:=am (Kd.R_lower ho0 (below_size bl));have n1_:=am (below_step bl hb);clear HB;have HO392:=n0_;have HB:=n1_;clear n0_ n1_;(try clear hb);(try clear hb2);(try clear hk);(try clear hi);(try clear ho0))|((with_reducible refine gate_dst (N:=26) rfl ?_);(try(refine gate_guard (by rfl) ?_;dsimp only));refine box_event ?hg (N:=26) ?hd (cs := #[.int .i64 0,.slice none 0 0]) (t:=26) ?hr ?_;(case hd=>rfl);(case hg=>rfl);(case hr=>first|(go_simp;done)|(go_simp;rfl));intro gb394 hg w181 hbox hb;have n0_:=am (Kd.R_below (rup HO392.out) hb);have n1_:=am (below_step bl hb);have n2_:=am (hbox);have n3_:=am (ge_ bl hg);have n4_:=am (ge_ bl hg);clear HO392 HB;have HO392:=n0_;have HB:=n1_;have BK394:=n2_;have GW394:=n3_;have GE394:=n4_;clear n0_ n1_ n2_ n3_ n4_ hb hbox hg;have hcz182_0:w181.cell? ⟨gb394,0,none⟩=some (.int .i64 0):=(blk_cell BK394.out 0).trans rfl;have hcz182_1:w181.cell? ⟨gb394,1,none⟩=some (.slice none 0 0):=(blk_cell BK394.out 1).trans rfl;have hfz182_0:=blk_frozen BK394.out 0;have hfz182_1:=blk_frozen BK394.out 1;obtain⟨Ao183,co183,eo183⟩:=Kd.R_slice HO392.out;subst eo183)|((with_reducible refine gate_callee (f:=13) rfl ?_);refine goesL_ (some 212) rfl rfl Try.func13 (by kernel_rfl) rfl #[.agg #[.int .i64 t389,.slice Ao183 t390.length co183],.int .i64 t393] rfl tl ?_;(with_reducible refine(impl_CountBeats.calls kj58 t389 _ _ t390 t393 t395 t396 _ ?side1 ?side2 A172.out).mono ?_);(case side1=>refine(Kd.R_reads' (e:=3) (base:=w.heap.size) (ok:=fun k_=>True) (n:=t390.length) (c:=co183) ?_).2.2;exact(by(with_reducible repeat(first|apply Kd.R_alloc|apply Kd.R_drewN|apply Kd.R_drew));exact(Kd.R_mono (Kd.R_far (p:=⟨gb394,1,none⟩) (Kd.R_far (p:=⟨gb394,0,none⟩) (Kd.R_types HO392.out BK394.out (by decide)) (fun _ hk=>hk.2) (.int .i64 t389)) (fun _ hk=>hk.2) (.slice Ao183 t390.length co183)) (fun _ h_=>h_.1))));(case side2=>exact(Kd.R_reads' HO392.out).2.1);rintro e w184 ⟨rfl,hb⟩;refine⟨_,rfl,?_⟩;have n0_:=am (Kd.R_below (by(with_reducible repeat(first|apply Kd.R_alloc|apply Kd.R_drewN|apply Kd.R_drew));exact(Kd.R_mono (Kd.R_far (p:=⟨gb394,1,none⟩) (Kd.R_far (p:=⟨gb394,0,none⟩) (Kd.R_types HO392.out BK394.out (by decide)) (fun _ hk=>hk.2) (.int .i64 t389)) (fun _ hk=>hk.2) (.slice Ao183 t390.length co183)) (fun _ h_=>h_.1))) hb);have n1_:=am (blk_below (g:=gb394) (o := .cells #[.int .i64 t389,.slice Ao183 t390.length co183] 26 (0,0)) (by(with_reducible repeat(first|refine bN_ ?_ _|refine bD_ ?_|refine bA_ ?_ _));refine blk_put (cs := #[.int .i64 t389,.slice none 0 0]) ?_ 1 _ rfl;(with_reducible repeat(first|refine bN_ ?_ _|refine bD_ ?_|refine bA_ ?_ _));refine blk_put (cs := #[.int .i64 0,.slice none 0 0]) ?_ 0 _ rfl;exact bup BK394.out) hb);have n2_:=am (below_step bl hb);clear HO392 BK394 HB;have HO392:=n0_;have BK394:=n1_;have HB:=n2_;clear n0_ n1_ n2_;(try clear hb);(try clear hb2);(try clear hk);(try clear hi);have hcz185_0:w184.cell? ⟨gb394,0,none⟩=some (.int .i64 t389):=(blk_cell BK394.out 0).trans rfl;have hcz185_1:w184.cell? ⟨gb394,1,none⟩=some (.slice Ao183 t390.length co183):=(blk_cell BK394.out 1).trans rfl;have hfz185_0:=blk_frozen BK394.out 0;have hfz185_1:=blk_frozen BK394.out 1)|((with_reducible refine gate_callee (f:=17) rfl ?_);refine goesL_ (some 218) rfl rfl Try.func17 (by kernel_rfl) rfl #[.agg #[.int .i64 t389,.slice Ao183 t390.length co183],.int .i64 t393] rfl tl ?_;(with_reducible refine(spec_CountBeats.calls kj58 t389 _ _ t390 t393 t397 t398 _ ?side1 ?side2 A173.out).mono ?_);(case side1=>repeat(first|exact(Kd.R_reads' HO392.out).2.2|(with_reducible refine Kd.C_alloc ?_ _)|(with_reducible refine Kd.C_drewN ?_ _)|(with_reducible refine Kd.C_drew ?_)));(case side2=>exact(Kd.R_reads' HO392.out).2.1);rintro e w186 ⟨rfl,hb⟩;refine⟨_,rfl,?_⟩;have n0_:=am (Kd.R_below (rup HO392.out) hb);have n1_:=am (blk_below (bup BK394.out) hb);have n2_:=am (below_step bl hb);clear HO392 BK394 HB;have HO392:=n0_;have BK394:=n1_;have HB:=n2_;clear n0_ n1_ n2_;(try clear hb);(try clear hb2);(try clear hk);(try clear hi);have hcz187_0:w186.cell? ⟨gb394,0,none⟩=some (.int .i64 t389):=(blk_cell BK394.out 0).trans rfl;have hcz187_1:w186.cell? ⟨gb394,1,none⟩=some (.slice Ao183 t390.length co183):=(blk_cell BK394.out 1).trans rfl;have hfz187_0:=blk_frozen BK394.out 0;have hfz187_1:=blk_frozen BK394.out 1)|((with_reducible refine gate_callee (f:=14) rfl ?_);refine goesL_ (some 224) rfl rfl Try.func14 (by kernel_rfl) rfl #[.agg #[.int .i64 t389,.slice Ao183 t390.length co183],.int .i64 t393] rfl tl ?_;(with_reducible refine(impl_BeatsAt.calls kj58 t389 _ _ t390 t393 t399 t400 _ ?side1 ?side2 A174.out).mono ?_);(case side1=>repeat(first|exact(Kd.R_reads' HO392.out).2.2|(with_reducible refine Kd.C_alloc ?_ _)|(with_reducible refine Kd.C_drewN ?_ _)|(with_reducible refine Kd.C_drew ?_)));(case side2=>exact(Kd.R_reads' HO392.out).2.1);rintro e w188 ⟨rfl,hb⟩;refine⟨_,rfl,?_⟩;have n0_:=am (Kd.R_below (rup HO392.out) hb);have n1_:=am (blk_below (bup BK394.out) hb);have n2_:=am (below_step bl hb);clear HO392 BK394 HB;have HO392:=n0_;have BK394:=n1_;have HB:=n2_;clear n0_ n1_ n2_;(try clear hb);(try clear hb2);(try clear hk);(try clear hi);have hcz189_0:w188.cell? ⟨gb394,0,none⟩=some (.int .i64 t389):=(blk_cell BK394.out 0).trans rfl;have hcz189_1:w188.cell? ⟨gb394,1,none⟩=some (.slice Ao183 t390.length co183):=(blk_cell BK394.out 1).trans rfl;have hfz189_0:=blk_frozen BK394.out 0;have hfz189_1:=blk_frozen BK394.out 1)|((with_reducible refine gate_callee (f:=18) rfl ?_);refine goesL_ (some 230) rfl rfl Try.func18 (by kernel_rfl) rfl #[.agg #[.int .i64 t389,.slice Ao183 t390.length co183],.int .i64 t393] rfl tl ?_;(with_reducible refine(spec_BeatsAt.calls kj58 t389 _ _ t390 t393 t401 t402 _ ?side1 ?side2 A175.out).mono ?_);(case side1=>repeat(first|exact(Kd.R_reads' HO392.out).2.2|(with_reducible refine Kd.C_alloc ?_ _)|(with_reducible refine Kd.C_drewN ?_ _)|(with_reducible refine Kd.C_drew ?_)));(case side2=>exact(Kd.R_reads' HO392.out).2.1);rintro e w190 ⟨rfl,hb⟩;refine⟨_,rfl,?_⟩;have n0_:=am (Kd.R_below (rup HO392.out) hb);have n1_:=am (blk_below (bup BK394.out) hb);have n2_:=am (below_step bl hb);clear HO392 BK394 HB;have HO392:=n0_;have BK394:=n1_;have HB:=n2_;clear n0_ n1_ n2_;(try clear hb);(try clear hb2);(try clear hk);(try clear hi))|((with_reducible refine gate_callee (f:=19) rfl ?_);refine goesL_ (some 235) rfl rfl Try.func19 (by kernel_rfl) rfl #[.slice A1 l1.length c1] rfl tl ?_;(with_reducible refine(spec_DrawEvenPattern.calls _ _ l1 t403 t404 _ ?side1 ?side2 A176.out).mono ?_);(case side1=>exact cup (Kd.C_below HR1.out HB.out));(case side2=>exact HC1.out);rintro e w191 ⟨rfl,hb⟩;refine⟨_,rfl,?_⟩;have n0_:=am (Kd.R_below (rup HO392.out) hb);have n1_:=am (blk_below (bup BK394.out) hb);have n2_:=am (below_step bl hb);clear HO392 BK394 HB;have HO392:=n0_;have BK394:=n1_;have HB:=n2_;clear n0_ n1_ n2_;(try clear hb);(try clear hb2);(try clear hk);(try clear hi))|((with_reducible refine gate_callee (f:=20) rfl ?_);refine goesL_ (some 241) rfl rfl Try.func20 (by kernel_rfl) rfl #[.int .i64 t403,.int .i64 t404] rfl tl ?_;(with_reducible refine(impl_EvenPattern.calls kj58 t403 t404 t405 t406 t409 _ A177.out).mono ?_);rintro e w192 ⟨v407,rfl,ho0,hb⟩;refine⟨_,rfl,?_⟩;have n0_:=am (Kd.R_elder' (rup HO392.out) (Kd.R_base ho0) hb);have n1_:=am (Kd.R_lower (Kd.R_new' ho0 (Kd.R_lt (rup HO392.out))) (below_size bl));have n2_:=am (blk_below (bup BK394.out) hb);have n3_:=am (below_step bl hb);clear HO392 BK394 HB;have HO392:=n0_;have HO408:=n1_;have BK394:=n2_;have HB:=n3_;clear n0_ n1_ n2_ n3_;(try clear hb);(try clear hb2);(try clear hk);(try clear hi);(try clear ho0))|((with_reducible refine gate_dst (N:=38) rfl ?_);(try(refine gate_guard (by rfl) ?_;dsimp only));refine box_event ?hg (N:=38) ?hd (cs := #[.int .i64 0,.slice none 0 0]) (t:=26) ?hr ?_;(case hd=>rfl);(case hg=>rfl);(case hr=>first|(go_simp;done)|(go_simp;rfl));intro gb410 hg w193 hbox hb;have n0_:=am (Kd.R_below (rup HO392.out) hb);have n1_:=am (Kd.R_below (rup HO408.out) hb);have n2_:=am (blk_below (bup BK394.out) hb);have n3_:=am (below_step bl hb);have n4_:=am (hbox);have n5_:=am (ge_ bl hg);have n6_:=am (ge_ bl hg);have n7_:=am (nl (bup BK394.out) hg);have n8_:=am (ng (bup BK394.out) hg);clear HO392 HO408 BK394 HB;have HO392:=n0_;have HO408:=n1_;have BK394:=n2_;have HB:=n3_;have BK410:=n4_;have GW410:=n5_;have GE410:=n6_;have NB394_410:=n7_;have NB410_394:=n8_;clear n0_ n1_ n2_ n3_ n4_ n5_ n6_ n7_ n8_ hb hbox hg;have hnb194:=NB410_394.out;have hnc194:=NB394_410.out;have hcz195_0:w193.cell? ⟨gb410,0,none⟩=some (.int .i64 0):=(blk_cell BK410.out 0).trans rfl;have hcz195_1:w193.cell? ⟨gb410,1,none⟩=some (.slice none 0 0):=(blk_cell BK410.out 1).trans rfl;have hfz195_0:=blk_frozen BK410.out 0;have hfz195_1:=blk_frozen BK410.out 1;obtain⟨Ao196,co196,eo196⟩:=Kd.R_slice HO408.out;subst eo196)|((with_reducible refine gate_callee (f:=21) rfl ?_);refine goesL_ (some 247) rfl rfl Try.func21 (by kernel_rfl) rfl #[.int .i64 t403,.int .i64 t404] rfl tl ?_;(with_reducible refine(spec_EvenPattern.calls kj58 t403 t404 t411 t412 t415 _ A178.out).mono ?_);rintro e w197 ⟨v413,rfl,ho0,hb⟩;refine⟨_,rfl,?_⟩;have n0_:=am (Kd.R_elder' (by(with_reducible repeat(first|apply Kd.R_alloc|apply Kd.R_drewN|apply Kd.R_drew));exact(Kd.R_mono (Kd.R_far (p:=⟨gb410,1,none⟩) (Kd.R_far (p:=⟨gb410,0,none⟩) (Kd.R_types HO392.out BK410.out (by decide)) (fun _ hk=>hk.2) (.int .i64 t405)) (fun _ hk=>hk.2) (.slice Ao196 t406.length co196)) (fun _ h_=>h_.1))) (Kd.R_base ho0) hb);have n1_:=am (Kd.R_elder' (by(with_reducible repeat(first|apply Kd.R_alloc|apply Kd.R_drewN|apply Kd.R_drew));exact(Kd.R_mono (Kd.R_far (p:=⟨gb410,1,none⟩) (Kd.R_far (p:=⟨gb410,0,none⟩) (Kd.R_types HO408.out BK410.out (by decide)) (fun _ hk=>hk.2) (.int .i64 t405)) (fun _ hk=>hk.2) (.slice Ao196 t406.length co196)) (fun _ h_=>h_.1))) (Kd.R_base ho0) hb);have n2_:=am (Kd.R_lower (Kd.R_new' (Kd.R_new' ho0 (Kd.R_lt (by(with_reducible repeat(first|apply Kd.R_alloc|apply Kd.R_drewN|apply Kd.R_drew));exact(Kd.R_mono (Kd.R_far (p:=⟨gb410,1,none⟩) (Kd.R_far (p:=⟨gb410,0,none⟩) (Kd.R_types HO392.out BK410.out (by decide)) (fun _ hk=>hk.2) (.int .i64 t405)) (fun _ hk=>hk.2) (.slice Ao196 t406.length co196)) (fun _ h_=>h_.1))))) (Kd.R_lt (by(with_reducible repeat(first|apply Kd.R_alloc|apply Kd.R_drewN|apply Kd.R_drew));exact(Kd.R_mono (Kd.R_far (p:=⟨gb410,1,none⟩) (Kd.R_far (p:=⟨gb410,0,none⟩) (Kd.R_types HO408.out BK410.out (by decide)) (fun _ hk=>hk.2) (.int .i64 t405)) (fun _ hk=>hk.2) (.slice Ao196 t406.length co196)) (fun _ h_=>h_.1))))) (below_size bl));have n3_:=am (blk_below (g:=gb394) (o := .cells #[.int .i64 t389,.slice Ao183 t390.length co183] 26 (0,0)) (by(with_reducible repeat(first|refine bN_ ?_ _|refine bD_ ?_|refine bA_ ?_ _));refine blk_far ?_ NB394_410.out _;(with_reducible repeat(first|refine bN_ ?_ _|refine bD_ ?_|refine bA_ ?_ _));refine blk_far ?_ NB394_410.out _;exact bup BK394.out) hb);have n4_:=am (blk_below (g:=gb410) (o := .cells #[.int .i64 t405,.slice Ao196 t406.length co196] 26 (0,0)) (by(with_reducible repeat(first|refine bN_ ?_ _|refine bD_ ?_|refine bA_ ?_ _));refine blk_put (cs := #[.int .i64 t405,.slice none 0 0]) ?_ 1 _ rfl;(with_reducible repeat(first|refine bN_ ?_ _|refine bD_ ?_|refine bA_ ?_ _));refine blk_put (cs := #[.int .i64 0,.slice none 0 0]) ?_ 0 _ rfl;exact bup BK410.out) hb);have n5_:=am (below_step bl hb);clear HO392 HO408 BK394 BK410 HB;have HO392:=n0_;have HO408:=n1_;have HO414:=n2_;have BK394:=n3_;have BK410:=n4_;have HB:=n5_;clear n0_ n1_ n2_ n3_ n4_ n5_;(try clear hb);(try clear hb2);(try clear hk);(try clear hi);(try clear ho0))|((with_reducible refine gate_dst (N:=40) rfl ?_);(try(refine gate_guard (by rfl) ?_;dsimp only));refine box_event ?hg (N:=40) ?hd (cs := #[.int .i64 0,.slice none 0 0]) (t:=26) ?hr ?_;(case hd=>rfl);(case hg=>rfl);(case hr=>first|(go_simp;done)|(go_simp;rfl));intro gb416 hg w198 hbox hb;have n0_:=am (Kd.R_below (rup HO392.out) hb);have n1_:=am (Kd.R_below (rup HO408.out) hb);have n2_:=am (Kd.R_below (rup HO414.out) hb);have n3_:=am (blk_below (bup BK394.out) hb);have n4_:=am (blk_below (bup BK410.out) hb);have n5_:=am (below_step bl hb);have n6_:=am (hbox);have n7_:=am (ge_ bl hg);have n8_:=am (ge_ bl hg);have n9_:=am (nl (bup BK394.out) hg);have n10_:=am (ng (bup BK394.out) hg);have n11_:=am (nl (bup BK410.out) hg);have n12_:=am (ng (bup BK410.out) hg);clear HO392 HO408 HO414 BK394 BK410 HB;have HO392:=n0_;have HO408:=n1_;have HO414:=n2_;have BK394:=n3_;have BK410:=n4_;have HB:=n5_;have BK416:=n6_;have GW416:=n7_;have GE416:=n8_;have NB394_416:=n9_;have NB416_394:=n10_;have NB410_416:=n11_;have NB416_410:=n12_;clear n0_ n1_ n2_ n3_ n4_ n5_ n6_ n7_ n8_ n9_ n10_ n11_ n12_ hb hbox hg;have hnb199:=NB416_394.out;have hnc199:=NB394_416.out;have hnb200:=NB416_410.out;have hnc200:=NB410_416.out;have hcz201_0:w198.cell? ⟨gb416,0,none⟩=some (.int .i64 0):=(blk_cell BK416.out 0).trans rfl;have hcz201_1:w198.cell? ⟨gb416,1,none⟩=some (.slice none 0 0):=(blk_cell BK416.out 1).trans rfl;have hfz201_0:=blk_frozen BK416.out 0;have hfz201_1:=blk_frozen BK416.out 1;obtain⟨Ao202,co202,eo202⟩:=Kd.R_slice HO414.out;subst eo202))
         (try simp only[Act.put,List.setIfInBounds_toArray,List.set_cons_zero,List.set_cons_succ])
         go_cut [278] (fun v278 wc=>∃(kq:Nat) (x278_178:Bool),v278 = .bool x278_178∧Aside0 (laws_FnPatterns.j5 kq l1 t403 t404 t409 x278_178 t405 t406 t411 t412=some r)∧Aside0 (kq≤kj58)∧Aside0 (Kd.R (Kd.int .i64) 3 wc w.heap.size (fun k_=>some k_≠((.slice Ao202 t412.length co202):Value).ownBlock) (.slice Ao196 t406.length co196) t406)∧Aside0 (Kd.R (Kd.int .i64) 3 wc w.heap.size (fun k_=>some k_≠((.slice Ao196 t406.length co196):Value).ownBlock) (.slice Ao202 t412.length co202) t412)∧Aside0 (wc.heap[gb410]?=some (.cells #[.int .i64 t405,(.slice Ao196 t406.length co196)] 26 (0,0)))∧Aside0 (wc.heap[gb416]?=some (.cells #[.int .i64 t411,(.slice Ao202 t412.length co202)] 26 (0,0)))∧Aside0 (Below w.heap.size w wc))
         case first =>
          have H:=HC179.out
          clear HC179
          by_cases c203:(t396 != t398)=true
          ·rw[if_pos c203] at H
           have c203b0:(t396 != t398)=true:=c203
           (try(have c203b1:decide (t396=t398)=false:=by simpa using c203))
           (try(have c203b2:(t396 == t398)=false:=by simpa using c203))
           (try(have c203b3:¬ (t396=t398):=by simpa using c203))
           clear c203
           (first|rw[c203b0]|(simp only[i64_w,i32_w];rw[c203b0])|skip)
           exact absurd hrt.out (laws_FnPatterns.j5_dead H)
          ·rw[if_neg c203] at H
           have c203b0:(t396 != t398)=false:=by simpa using c203
           (try(have c203b1:decide (t396=t398)=true:=by simpa using c203))
           (try(have c203b2:(t396 == t398)=true:=by simpa using c203))
           clear c203
           (first|rw[c203b0]|(simp only[i64_w,i32_w];rw[c203b0])|skip)
           by_cases c204:t395=t397
           ·rw[if_pos c204] at H
            have c204b0:(t395 == t397)=true:=beq_iff_eq.mpr c204
            have c204b1:(t395 != t397)=false:=bne_eq_false_iff_eq.mpr c204
            clear c204
            by_cases c205:(t400 != t402)=true
            ·rw[if_pos c205] at H
             have c205b0:(t400 != t402)=true:=c205
             (try(have c205b1:decide (t400=t402)=false:=by simpa using c205))
             (try(have c205b2:(t400 == t402)=false:=by simpa using c205))
             (try(have c205b3:¬ (t400=t402):=by simpa using c205))
             clear c205
             exact absurd hrt.out (laws_FnPatterns.j5_dead H)
            ·rw[if_neg c205] at H
             have c205b0:(t400 != t402)=false:=by simpa using c205
             (try(have c205b1:decide (t400=t402)=true:=by simpa using c205))
             (try(have c205b2:(t400 == t402)=true:=by simpa using c205))
             clear c205
             by_cases c206:(t399 != t401)=true
             ·rw[if_pos c206] at H
              have c206b0:(t399 != t401)=true:=c206
              (try(have c206b1:decide (t399=t401)=false:=by simpa using c206))
              (try(have c206b2:(t399 == t401)=false:=by simpa using c206))
              (try(have c206b3:¬ (t399=t401):=by simpa using c206))
              clear c206
              exact absurd hrt.out (laws_FnPatterns.j5_dead H)
             ·rw[if_neg c206] at H
              have c206b0:(t399 != t401)=false:=by simpa using c206
              (try(have c206b1:decide (t399=t401)=true:=by simpa using c206))
              (try(have c206b2:(t399 == t401)=true:=by simpa using c206))
              clear c206
              by_cases c207:(t409 != t415)=true
              ·rw[if_pos c207] at H
               have c207b0:(t409 != t415)=true:=c207
               (try(have c207b1:decide (t409=t415)=false:=by simpa using c207))
               (try(have c207b2:(t409 == t415)=false:=by simpa using c207))
               (try(have c207b3:¬ (t409=t415):=by simpa using c207))
               clear c207
               exact absurd hrt.out (laws_FnPatterns.j5_dead H)
              ·rw[if_neg c207] at H
               have c207b0:(t409 != t415)=false:=by simpa using c207
               (try(have c207b1:decide (t409=t415)=true:=by simpa using c207))
               (try(have c207b2:(t409 == t415)=true:=by simpa using c207))
               clear c207
               replace H:=Option.bind_eq_some_iff.mp H
               obtain⟨t417,A2080,H⟩:=H
               replace H:(laws_FnPatterns.j5 kj58 l1 t403 t404 t409 (!t417) t405 t406 t411 t412)=some r:=H
               have A208:=am A2080
               clear A2080
               have H':=am H
               clear H
               have hnb209:=NB410_394.out
               have hnc209:=NB394_410.out
               have hnb210:=NB410_416.out
               have hnc210:=NB416_410.out
               have hcz211_0:w198.cell? ⟨gb410,0,none⟩=some (.int .i64 t405):=(blk_cell BK410.out 0).trans rfl
               have hcz211_1:w198.cell? ⟨gb410,1,none⟩=some (.slice Ao196 t406.length co196):=(blk_cell BK410.out 1).trans rfl
               have hfz211_0:=blk_frozen BK410.out 0
               have hfz211_1:=blk_frozen BK410.out 1
               have hnb212:=NB416_394.out
               have hnc212:=NB394_416.out
               have hcz213_0:w198.cell? ⟨gb416,0,none⟩=some (.int .i64 0):=(blk_cell BK416.out 0).trans rfl
               have hcz213_1:w198.cell? ⟨gb416,1,none⟩=some (.slice none 0 0):=(blk_cell BK416.out 1).trans rfl
               have hfz213_0:=blk_frozen BK416.out 0
               have hfz213_1:=blk_frozen BK416.out 1
               go_wp2_with (first|(go_at_call 10;(with_reducible refine(laws_pSamePattern.calls kj58 t405 _ _ t406 t411 _ _ t412 t417 _ ?side1 ?side2 ?side3 ?side4 A208.out).mono ?_);(case side1=>refine(Kd.R_reads' (e:=3) (base:=w.heap.size) (ok:=fun k_=>((True∧some k_≠(.slice Ao183 t390.length co183:Value).ownBlock)∧some k_≠(.slice Ao202 t412.length co202:Value).ownBlock)) (n:=t406.length) (c:=co196) ?_).2.2;exact(by(with_reducible repeat(first|apply Kd.R_alloc|apply Kd.R_drewN|apply Kd.R_drew));exact(Kd.R_mono (Kd.R_far (p:=⟨gb416,1,none⟩) (Kd.R_far (p:=⟨gb416,0,none⟩) (Kd.R_types HO408.out BK416.out (by decide)) (fun _ hk=>hk.2) (.int .i64 t411)) (fun _ hk=>hk.2) (.slice Ao202 t412.length co202)) (fun _ h_=>h_.1))));(case side2=>exact(Kd.R_reads' HO408.out).2.1);(case side3=>refine(Kd.R_reads' (e:=3) (base:=w.heap.size) (ok:=fun k_=>((True∧some k_≠(.slice Ao183 t390.length co183:Value).ownBlock)∧some k_≠(.slice Ao196 t406.length co196:Value).ownBlock)) (n:=t412.length) (c:=co202) ?_).2.2;exact(by(with_reducible repeat(first|apply Kd.R_alloc|apply Kd.R_drewN|apply Kd.R_drew));exact(Kd.R_mono (Kd.R_far (p:=⟨gb416,1,none⟩) (Kd.R_far (p:=⟨gb416,0,none⟩) (Kd.R_types HO414.out BK416.out (by decide)) (fun _ hk=>hk.2) (.int .i64 t411)) (fun _ hk=>hk.2) (.slice Ao202 t412.length co202)) (fun _ h_=>h_.1))));(case side4=>exact(Kd.R_reads' HO414.out).2.1);rintro e w214 ⟨rfl,hb⟩;have n0_:=am (Kd.R_below (by(with_reducible repeat(first|apply Kd.R_alloc|apply Kd.R_drewN|apply Kd.R_drew));exact(Kd.R_mono (Kd.R_far (p:=⟨gb416,1,none⟩) (Kd.R_far (p:=⟨gb416,0,none⟩) (Kd.R_types HO392.out BK416.out (by decide)) (fun _ hk=>hk.2) (.int .i64 t411)) (fun _ hk=>hk.2) (.slice Ao202 t412.length co202)) (fun _ h_=>h_.1))) hb);have n1_:=am (Kd.R_below (by(with_reducible repeat(first|apply Kd.R_alloc|apply Kd.R_drewN|apply Kd.R_drew));exact(Kd.R_mono (Kd.R_far (p:=⟨gb416,1,none⟩) (Kd.R_far (p:=⟨gb416,0,none⟩) (Kd.R_types HO408.out BK416.out (by decide)) (fun _ hk=>hk.2) (.int .i64 t411)) (fun _ hk=>hk.2) (.slice Ao202 t412.length co202)) (fun _ h_=>h_.1))) hb);have n2_:=am (Kd.R_below (by(with_reducible repeat(first|apply Kd.R_alloc|apply Kd.R_drewN|apply Kd.R_drew));exact(Kd.R_mono (Kd.R_far (p:=⟨gb416,1,none⟩) (Kd.R_far (p:=⟨gb416,0,none⟩) (Kd.R_types HO414.out BK416.out (by decide)) (fun _ hk=>hk.2) (.int .i64 t411)) (fun _ hk=>hk.2) (.slice Ao202 t412.length co202)) (fun _ h_=>h_.1))) hb);have n3_:=am (blk_below (g:=gb394) (o := .cells #[.int .i64 t389,.slice Ao183 t390.length co183] 26 (0,0)) (by(with_reducible repeat(first|refine bN_ ?_ _|refine bD_ ?_|refine bA_ ?_ _));refine blk_far ?_ NB394_416.out _;(with_reducible repeat(first|refine bN_ ?_ _|refine bD_ ?_|refine bA_ ?_ _));refine blk_far ?_ NB394_416.out _;exact bup BK394.out) hb);have n4_:=am (blk_below (g:=gb410) (o := .cells #[.int .i64 t405,.slice Ao196 t406.length co196] 26 (0,0)) (by(with_reducible repeat(first|refine bN_ ?_ _|refine bD_ ?_|refine bA_ ?_ _));refine blk_far ?_ NB410_416.out _;(with_reducible repeat(first|refine bN_ ?_ _|refine bD_ ?_|refine bA_ ?_ _));refine blk_far ?_ NB410_416.out _;exact bup BK410.out) hb);have n5_:=am (blk_below (g:=gb416) (o := .cells #[.int .i64 t411,.slice Ao202 t412.length co202] 26 (0,0)) (by(with_reducible repeat(first|refine bN_ ?_ _|refine bD_ ?_|refine bA_ ?_ _));refine blk_put (cs := #[.int .i64 t411,.slice none 0 0]) ?_ 1 _ rfl;(with_reducible repeat(first|refine bN_ ?_ _|refine bD_ ?_|refine bA_ ?_ _));refine blk_put (cs := #[.int .i64 0,.slice none 0 0]) ?_ 0 _ rfl;exact bup BK416.out) hb);have n6_:=am (below_step bl hb);clear HO392 HO408 HO414 BK394 BK410 BK416 HB;have HO392:=n0_;have HO408:=n1_;have HO414:=n2_;have BK394:=n3_;have BK410:=n4_;have BK416:=n5_;have HB:=n6_;clear n0_ n1_ n2_ n3_ n4_ n5_ n6_;(try clear hb);(try clear hb2);(try clear hk);(try clear hi)))
               go_meet
               case rel=>exact⟨_,(!t417),fin2,H',⟨by have:=HJ9.out;have:=HJ58.out;first|omega|exact Nat.le_refl _⟩,⟨rup (Kd.R_mono HO408.out (fun _ hk=>hk.2))⟩,⟨rup (Kd.R_mono HO414.out (fun _ hk=>hk.2))⟩,⟨bup BK410.out⟩,⟨bup BK416.out⟩,⟨bl⟩⟩
           ·rw[if_neg c204] at H
            have c204b0:(t395 == t397)=false:=beq_eq_false_iff_ne.mpr c204
            have c204b1:(t395 != t397)=true:=bne_iff_ne.mpr c204
            exact absurd hrt.out (laws_FnPatterns.j5_dead H)
         case rest =>
          as_aux_lemma =>
           clear HC179
           try clear c1
           try clear c2
           try clear p2
           try clear c6
           try clear p6
           try clear c13
           try clear c14
           try clear c15
           try clear c16
           try clear c17
           try clear c18
           try clear c19
           try clear c20
           try clear c21
           try clear c60
           try clear p64
           try clear c142
           try clear c142b0
           try clear c154
           try clear c155
           try clear c155b0
           try clear c155b1
           try clear c167
           try clear c168
           try clear c169
           try clear c194
           try clear c199
           try clear c200
           try clear c203
           try clear c203b0
           try clear c203b1
           try clear c203b2
           try clear c204
           try clear c204b0
           try clear c204b1
           try clear c205
           try clear c205b0
           try clear c205b1
           try clear c205b2
           try clear c206
           try clear c206b0
           try clear c206b1
           try clear c206b2
           try clear c207
           try clear c207b0
           try clear c207b1
           try clear c207b2
           try clear c209
           try clear c210
           try clear c212
           try clear hcz170_0
           try clear hcz170_1
           try clear hcz182_0
           try clear hcz182_1
           try clear hcz185_0
           try clear hcz185_1
           try clear hcz187_0
           try clear hcz187_1
           try clear hcz189_0
           try clear hcz189_1
           try clear hcz195_0
           try clear hcz195_1
           try clear hcz201_0
           try clear hcz201_1
           try clear hcz211_0
           try clear hcz211_1
           try clear hcz213_0
           try clear hcz213_1
           try clear hfz170_0
           try clear hfz170_1
           try clear hfz182_0
           try clear hfz182_1
           try clear hfz185_0
           try clear hfz185_1
           try clear hfz187_0
           try clear hfz187_1
           try clear hfz189_0
           try clear hfz189_1
           try clear hfz195_0
           try clear hfz195_1
           try clear hfz201_0
           try clear hfz201_1
           try clear hfz211_0
           try clear hfz211_1
           try clear hfz213_0
           try clear hfz213_1
           try clear p2
           try clear p6
           try clear p64
           obtain⟨kq,x278_178,rfl,HA,HJ178,HO_411001,HO_417001,BK410,BK416,HB⟩:=hcut
           cases kq with
           | zero=>exact absurd HA.out (by simp [laws_FnPatterns.j5])
           | succ kj178 =>
            have H:=HA.out
            clear HA
            simp only[laws_FnPatterns.j5] at H
            by_cases c215:x278_178=true
            ·subst c215
             have H1:(some false)=some r:=by rw[if_pos rfl] at H;exact H
             clear H
             have H:=H1
             clear H1
             obtain rfl:=Option.some.inj H
             exact absurd hrt.out (by simp)
            ·replace c215:=Bool.eq_false_iff.mpr c215
             subst c215
             have H1:(if t409=true then(if(t412.length:Int)=t403 then((impl_IsPattern.f kj178 t405 t406).bind fun t418=>(laws_FnPatterns.j6 kj178 l1 t403 t404 (!t418) t411 t412)) else(laws_FnPatterns.j6 kj178 l1 t403 t404 true t411 t412)) else(laws_FnPatterns.j8 kj178 l1))=some r:=by rw[if_neg (show ¬ (false=true) by decide)] at H;exact H
             clear H
             have H:=H1
             clear H1
             have HC216:=am H
             clear H
             go_upto_if 279 with(fail)
             go_cut [] (fun wc=>∃(kq:Nat),Aside0 (laws_FnPatterns.j8 kq l1=some r)∧Aside0 (kq≤kj178)∧Aside0 (Below w.heap.size w wc))
             case first =>
              have H:=HC216.out
              clear HC216
              by_cases c217:t409=true
              ·subst c217
               have H1:(if(t412.length:Int)=t403 then((impl_IsPattern.f kj178 t405 t406).bind fun t418=>(laws_FnPatterns.j6 kj178 l1 t403 t404 (!t418) t411 t412)) else(laws_FnPatterns.j6 kj178 l1 t403 t404 true t411 t412))=some r:=by rw[if_pos rfl] at H;exact H
               clear H
               have H:=H1
               clear H1
               have HC218:=am H
               clear H
               go_upto_region 37 with(fail)
               go_cut [289] (fun v289 wc=>∃(kq:Nat) (x289_217:Bool),v289 = .bool x289_217∧Aside0 (laws_FnPatterns.j6 kq l1 t403 t404 x289_217 t411 t412=some r)∧Aside0 (kq≤kj178)∧Aside0 (Kd.R (Kd.int .i64) 3 wc w.heap.size (fun _=>True) (.slice Ao202 t412.length co202) t412)∧Aside0 (wc.heap[gb416]?=some (.cells #[.int .i64 t411,(.slice Ao202 t412.length co202)] 26 (0,0)))∧Aside0 (Below w.heap.size w wc))
               case first =>
                have H:=HC218.out
                clear HC218
                by_cases c219:(t412.length:Int)=t403
                ·rw[if_pos c219] at H
                 have c219b0:((t412.length:Int) == t403)=true:=beq_iff_eq.mpr c219
                 have c219b1:((t412.length:Int) != t403)=false:=bne_eq_false_iff_eq.mpr c219
                 clear c219
                 (first|rw[c219b0]|(simp only[i64_w,i32_w];rw[c219b0])|skip)
                 replace H:=Option.bind_eq_some_iff.mp H
                 obtain⟨t418,A2200,H⟩:=H
                 replace H:(laws_FnPatterns.j6 kj178 l1 t403 t404 (!t418) t411 t412)=some r:=H
                 have A220:=am A2200
                 clear A2200
                 have H':=am H
                 clear H
                 have hnb221:=NB416_410.out
                 have hnc221:=NB410_416.out
                 have hcz222_0:wc.cell? ⟨gb416,0,none⟩=some (.int .i64 t411):=(blk_cell BK416.out 0).trans rfl
                 have hcz222_1:wc.cell? ⟨gb416,1,none⟩=some (.slice Ao202 t412.length co202):=(blk_cell BK416.out 1).trans rfl
                 have hfz222_0:=blk_frozen BK416.out 0
                 have hfz222_1:=blk_frozen BK416.out 1
                 have hcz223_0:wc.cell? ⟨gb410,0,none⟩=some (.int .i64 t405):=(blk_cell BK410.out 0).trans rfl
                 have hcz223_1:wc.cell? ⟨gb410,1,none⟩=some (.slice Ao196 t406.length co196):=(blk_cell BK410.out 1).trans rfl
                 have hfz223_0:=blk_frozen BK410.out 0
                 have hfz223_1:=blk_frozen BK410.out 1
                 go_wp2_with (first|(go_at_call 11;(with_reducible refine(impl_IsPattern.calls kj178 t405 _ _ t406 t418 _ ?side1 ?side2 A220.out).mono ?_);(case side1=>repeat(first|exact(Kd.R_reads' HO_411001.out).2.2|(with_reducible refine Kd.C_alloc ?_ _)|(with_reducible refine Kd.C_drewN ?_ _)|(with_reducible refine Kd.C_drew ?_)));(case side2=>exact(Kd.R_reads' HO_411001.out).2.1);rintro e w224 ⟨rfl,hb⟩;have n0_:=am (Kd.R_below (rup HO_411001.out) hb);have n1_:=am (Kd.R_below (rup HO_417001.out) hb);have n2_:=am (blk_below (bup BK410.out) hb);have n3_:=am (blk_below (bup BK416.out) hb);have n4_:=am (below_step bl hb);clear HO_411001 HO_417001 BK410 BK416 HB;have HO_411001:=n0_;have HO_417001:=n1_;have BK410:=n2_;have BK416:=n3_;have HB:=n4_;clear n0_ n1_ n2_ n3_ n4_;(try clear hb);(try clear hb2);(try clear hk);(try clear hi)))
                 go_meet
                 case rel=>exact⟨_,(!t418),fin2,H',⟨by have:=HJ9.out;have:=HJ58.out;have:=HJ178.out;first|omega|exact Nat.le_refl _⟩,⟨rup (Kd.R_mono HO_417001.out (fun _ hk=>trivial))⟩,⟨bup BK416.out⟩,⟨bl⟩⟩
                ·rw[if_neg c219] at H
                 have c219b0:((t412.length:Int) == t403)=false:=beq_eq_false_iff_ne.mpr c219
                 have c219b1:((t412.length:Int) != t403)=true:=bne_iff_ne.mpr c219
                 (first|rw[c219b0]|(simp only[i64_w,i32_w];rw[c219b0])|skip)
                 exact absurd hrt.out (laws_FnPatterns.j6_dead H)
               case rest =>
                as_aux_lemma =>
                 clear HC218
                 try clear c1
                 try clear c2
                 try clear p2
                 try clear c6
                 try clear p6
                 try clear c13
                 try clear c14
                 try clear c15
                 try clear c16
                 try clear c17
                 try clear c18
                 try clear c19
                 try clear c20
                 try clear c21
                 try clear c22
                 try clear c60
                 try clear p64
                 try clear c142
                 try clear c142b0
                 try clear c154
                 try clear c155
                 try clear c155b0
                 try clear c155b1
                 try clear c167
                 try clear c168
                 try clear c169
                 try clear c194
                 try clear c199
                 try clear c200
                 try clear c203
                 try clear c203b0
                 try clear c203b1
                 try clear c203b2
                 try clear c204
                 try clear c204b0
                 try clear c204b1
                 try clear c205
                 try clear c205b0
                 try clear c205b1
                 try clear c205b2
                 try clear c206
                 try clear c206b0
                 try clear c206b1
                 try clear c206b2
                 try clear c207
                 try clear c207b0
                 try clear c207b1
                 try clear c207b2
                 try clear c209
                 try clear c210
                 try clear c212
                 try clear c215
                 try clear c217
                 try clear c219
                 try clear c219b0
                 try clear c219b1
                 try clear c221
                 try clear c225
                 try clear hcz170_0
                 try clear hcz170_1
                 try clear hcz182_0
                 try clear hcz182_1
                 try clear hcz185_0
                 try clear hcz185_1
                 try clear hcz187_0
                 try clear hcz187_1
                 try clear hcz189_0
                 try clear hcz189_1
                 try clear hcz195_0
                 try clear hcz195_1
                 try clear hcz201_0
                 try clear hcz201_1
                 try clear hcz211_0
                 try clear hcz211_1
                 try clear hcz213_0
                 try clear hcz213_1
                 try clear hcz222_0
                 try clear hcz222_1
                 try clear hcz223_0
                 try clear hcz223_1
                 try clear hcz226_0
                 try clear hcz226_1
                 try clear hfz170_0
                 try clear hfz170_1
                 try clear hfz182_0
                 try clear hfz182_1
                 try clear hfz185_0
                 try clear hfz185_1
                 try clear hfz187_0
                 try clear hfz187_1
                 try clear hfz189_0
                 try clear hfz189_1
                 try clear hfz195_0
                 try clear hfz195_1
                 try clear hfz201_0
                 try clear hfz201_1
                 try clear hfz211_0
                 try clear hfz211_1
                 try clear hfz213_0
                 try clear hfz213_1
                 try clear hfz222_0
                 try clear hfz222_1
                 try clear hfz223_0
                 try clear hfz223_1
                 try clear hfz226_0
                 try clear hfz226_1
                 try clear p2
                 try clear p6
                 try clear p64
                 obtain⟨kq,x289_217,rfl,HA,HJ217,HO_417001,BK416,HB⟩:=hcut
                 cases kq with
                 | zero=>exact absurd HA.out (by simp [laws_FnPatterns.j6])
                 | succ kj217 =>
                  have H:=HA.out
                  clear HA
                  simp only[laws_FnPatterns.j6] at H
                  by_cases c227:x289_217=true
                  ·subst c227
                   have H1:(some false)=some r:=by rw[if_pos rfl] at H;exact H
                   clear H
                   have H:=H1
                   clear H1
                   obtain rfl:=Option.some.inj H
                   exact absurd hrt.out (by simp)
                  ·replace c227:=Bool.eq_false_iff.mpr c227
                   subst c227
                   have H1:(laws_FnPatterns.l1 kj217 l1 t403 t404 1 t411 t412)=some r:=by rw[if_neg (show ¬ (false=true) by decide)] at H;exact H
                   clear H
                   have H:=H1
                   clear H1
                   have H':=am H
                   clear H
                   go_wp2
                   go_loopg [42] kj217 (fun kq v42 w'=>∃(x42_5:Int),v42 = .int .i64 x42_5∧Aside0 (laws_FnPatterns.l1 kq l1 t403 t404 x42_5 t411 t412=some r)∧Aside0 (kq≤kj217)∧Aside0 (Kd.R (Kd.int .i64) 3 w' w.heap.size (fun _=>True) (.slice Ao202 t412.length co202) t412)∧Aside0 (w'.heap[gb416]?=some (.cells #[.int .i64 t411,(.slice Ao202 t412.length co202)] 26 (0,0)))∧Aside0 (Below w.heap.size w w'))
                   case atStart=>exact⟨(1),fin2,H',⟨Nat.le_refl _⟩,⟨rup HO_417001.out⟩,⟨bup BK416.out⟩,⟨bl⟩⟩
                   case round =>
                    as_aux_lemma =>
                     clear H'
                     try clear c1
                     try clear c2
                     try clear p2
                     try clear c6
                     try clear p6
                     try clear c13
                     try clear c14
                     try clear c15
                     try clear c16
                     try clear c17
                     try clear c18
                     try clear c19
                     try clear c20
                     try clear c21
                     try clear c22
                     try clear c60
                     try clear p64
                     try clear c142
                     try clear c142b0
                     try clear c154
                     try clear c155
                     try clear c155b0
                     try clear c155b1
                     try clear c167
                     try clear c168
                     try clear c169
                     try clear c194
                     try clear c199
                     try clear c200
                     try clear c203
                     try clear c203b0
                     try clear c203b1
                     try clear c203b2
                     try clear c204
                     try clear c204b0
                     try clear c204b1
                     try clear c205
                     try clear c205b0
                     try clear c205b1
                     try clear c205b2
                     try clear c206
                     try clear c206b0
                     try clear c206b1
                     try clear c206b2
                     try clear c207
                     try clear c207b0
                     try clear c207b1
                     try clear c207b2
                     try clear c209
                     try clear c210
                     try clear c212
                     try clear c215
                     try clear c217
                     try clear c219
                     try clear c219b0
                     try clear c219b1
                     try clear c221
                     try clear c225
                     try clear c227
                     try clear hcz170_0
                     try clear hcz170_1
                     try clear hcz182_0
                     try clear hcz182_1
                     try clear hcz185_0
                     try clear hcz185_1
                     try clear hcz187_0
                     try clear hcz187_1
                     try clear hcz189_0
                     try clear hcz189_1
                     try clear hcz195_0
                     try clear hcz195_1
                     try clear hcz201_0
                     try clear hcz201_1
                     try clear hcz211_0
                     try clear hcz211_1
                     try clear hcz213_0
                     try clear hcz213_1
                     try clear hcz222_0
                     try clear hcz222_1
                     try clear hcz223_0
                     try clear hcz223_1
                     try clear hcz226_0
                     try clear hcz226_1
                     try clear hfz170_0
                     try clear hfz170_1
                     try clear hfz182_0
                     try clear hfz182_1
                     try clear hfz185_0
                     try clear hfz185_1
                     try clear hfz187_0
                     try clear hfz187_1
                     try clear hfz189_0
                     try clear hfz189_1
                     try clear hfz195_0
                     try clear hfz195_1
                     try clear hfz201_0
                     try clear hfz201_1
                     try clear hfz211_0
                     try clear hfz211_1
                     try clear hfz213_0
                     try clear hfz213_1
                     try clear hfz222_0
                     try clear hfz222_1
                     try clear hfz223_0
                     try clear hfz223_1
                     try clear hfz226_0
                     try clear hfz226_1
                     try clear p2
                     try clear p6
                     try clear p64
                     obtain⟨x42_5,rfl,HA,HK5,HO_417001,BK416,HB⟩:=hrel
                     cases gk with
                     | zero=>exact absurd HA.out (by simp [laws_FnPatterns.l1])
                     | succ k5 =>
                      have H:=HA.out
                      clear HA
                      simp only[laws_FnPatterns.l1] at H
                      by_cases c228:x42_5<(t412.length:Int)
                      ·rw[if_pos c228] at H
                       have c228b0:decide (x42_5<(t412.length:Int))=true:=decide_eq_true c228
                       clear c228
                       by_cases c229:0≤x42_5
                       ·rw[if_pos c229] at H
                        have c229b0:decide (0≤x42_5)=true:=decide_eq_true c229
                        clear c229
                        obtain⟨ji230,hji230⟩:∃ j_:Int,(wrap64 (x42_5 - 1))=j_:=⟨_,rfl⟩
                        replace H:(if 0≤(ji230) then(if(ji230)<(t412.length:Int) then(if t403=0 then(none) else(if(wrap64 ((rd t412 x42_5) - (rd t412 (ji230))))=(wrap64 (Int.tdiv t404 t403)) then(laws_FnPatterns.l1 k5 l1 t403 t404 (wrap64 (x42_5+1)) t411 t412) else(if(wrap64 ((rd t412 x42_5) - (rd t412 (ji230))))=(wrap64 ((wrap64 (Int.tdiv t404 t403))+1)) then(laws_FnPatterns.l1 k5 l1 t403 t404 (wrap64 (x42_5+1)) t411 t412) else(some false)))) else(none)) else(none))=some r:=by first|(rw[hji230] at H;exact H)|(simp only[hji230] at H ⊢;exact H)
                        have hji230w:(IntKind.i64.wrap (x42_5 - 1))=ji230:=(i64_w _).trans hji230
                        by_cases c231:0≤(ji230)
                        ·rw[if_pos c231] at H
                         have c231b0:decide (0≤(ji230))=true:=decide_eq_true c231
                         clear c231
                         by_cases c232:(ji230)<(t412.length:Int)
                         ·rw[if_pos c232] at H
                          have c232b0:decide ((ji230)<(t412.length:Int))=true:=decide_eq_true c232
                          clear c232
                          by_cases c233:t403=0
                          ·rw[if_pos c233] at H
                           exact absurd H (by simp)
                          ·rw[if_neg c233] at H
                           have c233b0:(t403 == 0)=false:=beq_eq_false_iff_ne.mpr c233
                           have c233b1:(t403 != 0)=true:=bne_iff_ne.mpr c233
                           by_cases c234:(wrap64 ((rd t412 x42_5) - (rd t412 (ji230))))=(wrap64 (Int.tdiv t404 t403))
                           ·rw[if_pos c234] at H
                            have c234b0:((wrap64 ((rd t412 x42_5) - (rd t412 (ji230)))) == (wrap64 (Int.tdiv t404 t403)))=true:=beq_iff_eq.mpr c234
                            have c234b1:((wrap64 ((rd t412 x42_5) - (rd t412 (ji230)))) != (wrap64 (Int.tdiv t404 t403)))=false:=bne_eq_false_iff_eq.mpr c234
                            clear c234
                            have H':=am H
                            clear H
                            have hcz235_0:wr.cell? ⟨gb416,0,none⟩=some (.int .i64 t411):=(blk_cell BK416.out 0).trans rfl
                            have hcz235_1:wr.cell? ⟨gb416,1,none⟩=some (.slice Ao202 t412.length co202):=(blk_cell BK416.out 1).trans rfl
                            have hfz235_0:=blk_frozen BK416.out 0
                            have hfz235_1:=blk_frozen BK416.out 1
                            try go_wp2
                            have n0_:=am (Kd.R_drew HO_417001.out)
                            have n1_:=am (bD_ BK416.out)
                            have n2_:=am (below_drew1 HB.out)
                            clear HO_417001
                            clear BK416
                            clear HB
                            have HO_417001:=n0_
                            have BK416:=n1_
                            have HB:=n2_
                            clear n0_ n1_ n2_
                            have p419:0≤(x42_5:Int):=od
                            have q419:x42_5<(t412.length:Int):=od
                            obtain⟨ad419,e419,hx419_0⟩:=Kd.at_int (Kd.R_reads' HO_417001.out).2.2 x42_5 p419 q419
                            cases e419
                            replace p419:=eq_true p419
                            replace q419:=eq_true q419
                            have p420:0≤((ji230):Int):=od
                            have q420:(ji230)<(t412.length:Int):=od
                            obtain⟨ad420,e420,hx420_0⟩:=Kd.at_int (Kd.R_reads' HO_417001.out).2.2 (ji230) p420 q420
                            obtain rfl:ad419=ad420:=(by injection e420)
                            replace p420:=eq_true p420
                            replace q420:=eq_true q420
                            refine start_ (n:=13) (S:=fun w'=>w'.cell? ⟨gb416,0,none⟩=some (.int .i64 t411)∧w'.cell? ⟨gb416,1,none⟩=some (.slice (some ad419) t412.length co202)∧w'.cell? (ad419.add (x42_5).toNat)=some (.int .i64 (rd t412 x42_5))∧w'.cell? (ad419.add ((ji230)).toNat)=some (.int .i64 (rd t412 (ji230)))) (ds:=[]) #[false,false,false,false,false,false,false,false,false,false,false,false,false] (by kernel_rfl) rfl rfl ⟨(blk_cell BK416.out 0).trans rfl,(blk_cell BK416.out 1).trans rfl,hx419_0,hx420_0⟩ (fun hHeld=>?_);refine with_tabW laws_FnPatterns.tab42 laws_FnPatterns.bits42 (fun HT_ HW_=>?_)
                            generalize wr.drew=w236 at HO_417001 BK416 HB hx419_0 hx420_0 hHeld ⊢
                            refine pure_ (i:=0) (N:=some 297) (v:=?_) (a':=?_) #[true,false,false,false,false,false,false,false,false,false,false,false,false] rfl rfl (any_of HT_.out (by kernel_rfl)) (fun _ _ _ h=>h) (Or.inl ⟨by rfl,?_⟩) ?_ ?_
                            rotate_left
                            ·intro w'
                             go_simp
                             with_reducible rfl
                            rotate_left
                            ·simp only[Act.put,List.setIfInBounds_toArray,List.set_cons_zero,List.set_cons_succ,i64_w,i32_w]
                             rfl
                            refine pure_ (i:=2) (N:=some 299) (v:=?_) (a':=?_) #[true,false,true,false,false,false,false,false,false,false,false,false,false] rfl rfl (any_of HT_.out (by kernel_rfl)) (fun _ _ _ h=>h) (Or.inl ⟨by rfl,?_⟩) ?_ ?_
                            rotate_left
                            ·intro w'
                             go_simp
                             with_reducible rfl
                            rotate_left
                            ·simp only[Act.put,List.setIfInBounds_toArray,List.set_cons_zero,List.set_cons_succ,i64_w,i32_w]
                             rfl
                            refine pure_ (i:=5) (N:=some 302) (v:=?_) (a':=?_) #[true,false,true,false,false,true,false,false,false,false,false,false,false] rfl rfl (any_of HT_.out (by kernel_rfl)) (fun _ _ _ h=>h) (Or.inl ⟨by rfl,?_⟩) ?_ ?_
                            rotate_left
                            ·intro w'
                             go_simp
                             with_reducible rfl
                            rotate_left
                            ·simp only[Act.put,List.setIfInBounds_toArray,List.set_cons_zero,List.set_cons_succ,i64_w,i32_w]
                             rfl
                            refine pure_ (i:=7) (N:=some 304) (v:=?_) (a':=?_) #[true,false,true,false,false,true,false,true,false,false,false,false,false] rfl rfl (any_of HT_.out (by kernel_rfl)) (fun _ _ _ h=>h) (Or.inl ⟨by rfl,?_⟩) ?_ ?_
                            rotate_left
                            ·intro w'
                             go_simp
                             with_reducible rfl
                            rotate_left
                            ·simp only[Act.put,List.setIfInBounds_toArray,List.set_cons_zero,List.set_cons_succ,i64_w,i32_w]
                             rfl
                            refine pure_ (i:=8) (N:=some 305) (v:=?_) (a':=?_) #[true,false,true,false,false,true,false,true,true,false,false,false,false] rfl rfl (any_of HT_.out (by kernel_rfl)) (fun _ _ _ h=>h) (Or.inl ⟨by rfl,?_⟩) ?_ ?_
                            rotate_left
                            ·intro w'
                             go_simp
                             with_reducible rfl
                            rotate_left
                            ·simp only[Act.put,List.setIfInBounds_toArray,List.set_cons_zero,List.set_cons_succ,i64_w,i32_w]
                             rfl
                            refine take_ (i:=1) (N:=some 298) (v:=?_) (a':=?_) #[true,true,true,false,false,true,false,true,true,false,false,false,false] rfl rfl (take_ofW HT_.out HW_.out (by kernel_rfl)) (fun _ _ _ h=>h) (Or.inl ⟨by rfl,?_⟩) hHeld ?_ ?_
                            rotate_left
                            ·rintro w' ⟨s0,s1,s2,s3⟩
                             go_simp
                             with_reducible rfl
                            rotate_left
                            ·simp only[Act.put,List.setIfInBounds_toArray,List.set_cons_zero,List.set_cons_succ,i64_w,i32_w]
                             rfl
                            refine pure_ (i:=3) (N:=some 300) (v:=?_) (a':=?_) #[true,true,true,true,false,true,false,true,true,false,false,false,false] rfl rfl (any_of HT_.out (by kernel_rfl)) (fun _ _ _ h=>h) (Or.inl ⟨by rfl,?_⟩) ?_ ?_
                            rotate_left
                            ·intro w'
                             go_simp
                             with_reducible rfl
                            rotate_left
                            ·simp only[Act.put,List.setIfInBounds_toArray,List.set_cons_zero,List.set_cons_succ,i64_w,i32_w]
                             rfl
                            refine take_ (i:=4) (N:=some 301) (v:=?_) (a':=?_) #[true,true,true,true,true,true,false,true,true,false,false,false,false] rfl rfl (take_ofW HT_.out HW_.out (by kernel_rfl)) (fun _ _ _ h=>h) (Or.inl ⟨by rfl,?_⟩) hHeld ?_ ?_
                            rotate_left
                            ·rintro w' ⟨s0,s1,s2,s3⟩
                             go_simp
                             with_reducible rfl
                            rotate_left
                            ·simp only[Act.put,List.setIfInBounds_toArray,List.set_cons_zero,List.set_cons_succ,i64_w,i32_w]
                             rfl
                            refine take_ (i:=6) (N:=some 303) (v:=?_) (a':=?_) #[true,true,true,true,true,true,true,true,true,false,false,false,false] rfl rfl (take_ofW HT_.out HW_.out (by kernel_rfl)) (fun _ _ _ h=>h) (Or.inl ⟨by rfl,?_⟩) hHeld ?_ ?_
                            rotate_left
                            ·rintro w' ⟨s0,s1,s2,s3⟩
                             go_simp
                             with_reducible rfl
                            rotate_left
                            ·simp only[Act.put,List.setIfInBounds_toArray,List.set_cons_zero,List.set_cons_succ,i64_w,i32_w]
                             rfl
                            refine pure_ (i:=9) (N:=some 306) (v:=?_) (a':=?_) #[true,true,true,true,true,true,true,true,true,true,false,false,false] rfl rfl (any_of HT_.out (by kernel_rfl)) (fun _ _ _ h=>h) (Or.inl ⟨by rfl,?_⟩) ?_ ?_
                            rotate_left
                            ·intro w'
                             go_simp
                             with_reducible rfl
                            rotate_left
                            ·simp only[Act.put,List.setIfInBounds_toArray,List.set_cons_zero,List.set_cons_succ,i64_w,i32_w]
                             rfl
                            refine take_ (i:=10) (N:=some 307) (v:=?_) (a':=?_) #[true,true,true,true,true,true,true,true,true,true,true,false,false] rfl rfl (take_ofW HT_.out HW_.out (by kernel_rfl)) (fun _ _ _ h=>h) (Or.inl ⟨by rfl,?_⟩) hHeld ?_ ?_
                            rotate_left
                            ·rintro w' ⟨s0,s1,s2,s3⟩
                             go_simp
                             with_reducible rfl
                            rotate_left
                            ·simp only[Act.put,List.setIfInBounds_toArray,List.set_cons_zero,List.set_cons_succ,i64_w,i32_w]
                             rfl
                            refine pure_ (i:=11) (N:=some 308) (v:=?_) (a':=?_) #[true,true,true,true,true,true,true,true,true,true,true,true,false] rfl rfl (any_of HT_.out (by kernel_rfl)) (fun _ _ _ h=>h) (Or.inl ⟨by rfl,?_⟩) ?_ ?_
                            rotate_left
                            ·intro w'
                             go_simp
                             with_reducible rfl
                            rotate_left
                            ·simp only[Act.put,List.setIfInBounds_toArray,List.set_cons_zero,List.set_cons_succ,i64_w,i32_w]
                             rfl
                            refine pure_ (i:=12) (N:=some 43) (v:=?_) (a':=?_) #[true,true,true,true,true,true,true,true,true,true,true,true,true] rfl rfl (any_of HT_.out (by kernel_rfl)) (fun _ _ _ h=>h) (Or.inl ⟨by rfl,?_⟩) ?_ ?_
                            rotate_left
                            ·intro w'
                             go_simp
                             with_reducible rfl
                            rotate_left
                            ·simp only[Act.put,List.setIfInBounds_toArray,List.set_cons_zero,List.set_cons_succ,i64_w,i32_w]
                             rfl
                            refine done_ (done_of HT_.out (by kernel_rfl)) ?_
                            try go_wp2
                            go_roundg k5
                            case measure=>have:=HJ9.out;have:=HJ58.out;have:=HJ178.out;have:=HJ217.out;have:=HK5.out;omega
                            case rel=>exact⟨(wrap64 (x42_5+1)),fin2,H',⟨by have:=HJ9.out;have:=HJ58.out;have:=HJ178.out;have:=HJ217.out;have:=HK5.out;omega⟩,⟨rup HO_417001.out⟩,⟨bup BK416.out⟩,⟨bl⟩⟩
                           ·rw[if_neg c234] at H
                            have c234b0:((wrap64 ((rd t412 x42_5) - (rd t412 (ji230)))) == (wrap64 (Int.tdiv t404 t403)))=false:=beq_eq_false_iff_ne.mpr c234
                            have c234b1:((wrap64 ((rd t412 x42_5) - (rd t412 (ji230)))) != (wrap64 (Int.tdiv t404 t403)))=true:=bne_iff_ne.mpr c234
                            by_cases c237:(wrap64 ((rd t412 x42_5) - (rd t412 (ji230))))=(wrap64 ((wrap64 (Int.tdiv t404 t403))+1))
                            ·rw[if_pos c237] at H
                             have c237b0:((wrap64 ((rd t412 x42_5) - (rd t412 (ji230)))) == (wrap64 ((wrap64 (Int.tdiv t404 t403))+1)))=true:=beq_iff_eq.mpr c237
                             have c237b1:((wrap64 ((rd t412 x42_5) - (rd t412 (ji230)))) != (wrap64 ((wrap64 (Int.tdiv t404 t403))+1)))=false:=bne_eq_false_iff_eq.mpr c237
                             clear c237
                             have H':=am H
                             clear H
                             have hcz238_0:wr.cell? ⟨gb416,0,none⟩=some (.int .i64 t411):=(blk_cell BK416.out 0).trans rfl
                             have hcz238_1:wr.cell? ⟨gb416,1,none⟩=some (.slice Ao202 t412.length co202):=(blk_cell BK416.out 1).trans rfl
                             have hfz238_0:=blk_frozen BK416.out 0
                             have hfz238_1:=blk_frozen BK416.out 1
                             try go_wp2
                             have n0_:=am (Kd.R_drew HO_417001.out)
                             have n1_:=am (bD_ BK416.out)
                             have n2_:=am (below_drew1 HB.out)
                             clear HO_417001
                             clear BK416
                             clear HB
                             have HO_417001:=n0_
                             have BK416:=n1_
                             have HB:=n2_
                             clear n0_ n1_ n2_
                             have p419:0≤(x42_5:Int):=od
                             have q419:x42_5<(t412.length:Int):=od
                             obtain⟨ad419,e419,hx419_0⟩:=Kd.at_int (Kd.R_reads' HO_417001.out).2.2 x42_5 p419 q419
                             cases e419
                             replace p419:=eq_true p419
                             replace q419:=eq_true q419
                             have p420:0≤((ji230):Int):=od
                             have q420:(ji230)<(t412.length:Int):=od
                             obtain⟨ad420,e420,hx420_0⟩:=Kd.at_int (Kd.R_reads' HO_417001.out).2.2 (ji230) p420 q420
                             obtain rfl:ad419=ad420:=(by injection e420)
                             replace p420:=eq_true p420
                             replace q420:=eq_true q420
                             refine start_ (n:=13) (S:=fun w'=>w'.cell? ⟨gb416,0,none⟩=some (.int .i64 t411)∧w'.cell? ⟨gb416,1,none⟩=some (.slice (some ad419) t412.length co202)∧w'.cell? (ad419.add (x42_5).toNat)=some (.int .i64 (rd t412 x42_5))∧w'.cell? (ad419.add ((ji230)).toNat)=some (.int .i64 (rd t412 (ji230)))) (ds:=[]) #[false,false,false,false,false,false,false,false,false,false,false,false,false] (by kernel_rfl) rfl rfl ⟨(blk_cell BK416.out 0).trans rfl,(blk_cell BK416.out 1).trans rfl,hx419_0,hx420_0⟩ (fun hHeld=>?_);refine with_tabW laws_FnPatterns.tab42 laws_FnPatterns.bits42 (fun HT_ HW_=>?_)
                             generalize wr.drew=w239 at HO_417001 BK416 HB hx419_0 hx420_0 hHeld ⊢
                             refine pure_ (i:=0) (N:=some 297) (v:=?_) (a':=?_) #[true,false,false,false,false,false,false,false,false,false,false,false,false] rfl rfl (any_of HT_.out (by kernel_rfl)) (fun _ _ _ h=>h) (Or.inl ⟨by rfl,?_⟩) ?_ ?_
                             rotate_left
                             ·intro w'
                              go_simp
                              with_reducible rfl
                             rotate_left
                             ·simp only[Act.put,List.setIfInBounds_toArray,List.set_cons_zero,List.set_cons_succ,i64_w,i32_w]
                              rfl
                             refine pure_ (i:=2) (N:=some 299) (v:=?_) (a':=?_) #[true,false,true,false,false,false,false,false,false,false,false,false,false] rfl rfl (any_of HT_.out (by kernel_rfl)) (fun _ _ _ h=>h) (Or.inl ⟨by rfl,?_⟩) ?_ ?_
                             rotate_left
                             ·intro w'
                              go_simp
                              with_reducible rfl
                             rotate_left
                             ·simp only[Act.put,List.setIfInBounds_toArray,List.set_cons_zero,List.set_cons_succ,i64_w,i32_w]
                              rfl
                             refine pure_ (i:=5) (N:=some 302) (v:=?_) (a':=?_) #[true,false,true,false,false,true,false,false,false,false,false,false,false] rfl rfl (any_of HT_.out (by kernel_rfl)) (fun _ _ _ h=>h) (Or.inl ⟨by rfl,?_⟩) ?_ ?_
                             rotate_left
                             ·intro w'
                              go_simp
                              with_reducible rfl
                             rotate_left
                             ·simp only[Act.put,List.setIfInBounds_toArray,List.set_cons_zero,List.set_cons_succ,i64_w,i32_w]
                              rfl
                             refine pure_ (i:=7) (N:=some 304) (v:=?_) (a':=?_) #[true,false,true,false,false,true,false,true,false,false,false,false,false] rfl rfl (any_of HT_.out (by kernel_rfl)) (fun _ _ _ h=>h) (Or.inl ⟨by rfl,?_⟩) ?_ ?_
                             rotate_left
                             ·intro w'
                              go_simp
                              with_reducible rfl
                             rotate_left
                             ·simp only[Act.put,List.setIfInBounds_toArray,List.set_cons_zero,List.set_cons_succ,i64_w,i32_w]
                              rfl
                             refine pure_ (i:=8) (N:=some 305) (v:=?_) (a':=?_) #[true,false,true,false,false,true,false,true,true,false,false,false,false] rfl rfl (any_of HT_.out (by kernel_rfl)) (fun _ _ _ h=>h) (Or.inl ⟨by rfl,?_⟩) ?_ ?_
                             rotate_left
                             ·intro w'
                              go_simp
                              with_reducible rfl
                             rotate_left
                             ·simp only[Act.put,List.setIfInBounds_toArray,List.set_cons_zero,List.set_cons_succ,i64_w,i32_w]
                              rfl
                             refine take_ (i:=1) (N:=some 298) (v:=?_) (a':=?_) #[true,true,true,false,false,true,false,true,true,false,false,false,false] rfl rfl (take_ofW HT_.out HW_.out (by kernel_rfl)) (fun _ _ _ h=>h) (Or.inl ⟨by rfl,?_⟩) hHeld ?_ ?_
                             rotate_left
                             ·rintro w' ⟨s0,s1,s2,s3⟩
                              go_simp
                              with_reducible rfl
                             rotate_left
                             ·simp only[Act.put,List.setIfInBounds_toArray,List.set_cons_zero,List.set_cons_succ,i64_w,i32_w]
                              rfl
                             refine pure_ (i:=3) (N:=some 300) (v:=?_) (a':=?_) #[true,true,true,true,false,true,false,true,true,false,false,false,false] rfl rfl (any_of HT_.out (by kernel_rfl)) (fun _ _ _ h=>h) (Or.inl ⟨by rfl,?_⟩) ?_ ?_
                             rotate_left
                             ·intro w'
                              go_simp
                              with_reducible rfl
                             rotate_left
                             ·simp only[Act.put,List.setIfInBounds_toArray,List.set_cons_zero,List.set_cons_succ,i64_w,i32_w]
                              rfl
                             refine take_ (i:=4) (N:=some 301) (v:=?_) (a':=?_) #[true,true,true,true,true,true,false,true,true,false,false,false,false] rfl rfl (take_ofW HT_.out HW_.out (by kernel_rfl)) (fun _ _ _ h=>h) (Or.inl ⟨by rfl,?_⟩) hHeld ?_ ?_
                             rotate_left
                             ·rintro w' ⟨s0,s1,s2,s3⟩
                              go_simp
                              with_reducible rfl
                             rotate_left
                             ·simp only[Act.put,List.setIfInBounds_toArray,List.set_cons_zero,List.set_cons_succ,i64_w,i32_w]
                              rfl
                             refine take_ (i:=6) (N:=some 303) (v:=?_) (a':=?_) #[true,true,true,true,true,true,true,true,true,false,false,false,false] rfl rfl (take_ofW HT_.out HW_.out (by kernel_rfl)) (fun _ _ _ h=>h) (Or.inl ⟨by rfl,?_⟩) hHeld ?_ ?_
                             rotate_left
                             ·rintro w' ⟨s0,s1,s2,s3⟩
                              go_simp
                              with_reducible rfl
                             rotate_left
                             ·simp only[Act.put,List.setIfInBounds_toArray,List.set_cons_zero,List.set_cons_succ,i64_w,i32_w]
                              rfl
                             refine pure_ (i:=9) (N:=some 306) (v:=?_) (a':=?_) #[true,true,true,true,true,true,true,true,true,true,false,false,false] rfl rfl (any_of HT_.out (by kernel_rfl)) (fun _ _ _ h=>h) (Or.inl ⟨by rfl,?_⟩) ?_ ?_
                             rotate_left
                             ·intro w'
                              go_simp
                              with_reducible rfl
                             rotate_left
                             ·simp only[Act.put,List.setIfInBounds_toArray,List.set_cons_zero,List.set_cons_succ,i64_w,i32_w]
                              rfl
                             refine take_ (i:=10) (N:=some 307) (v:=?_) (a':=?_) #[true,true,true,true,true,true,true,true,true,true,true,false,false] rfl rfl (take_ofW HT_.out HW_.out (by kernel_rfl)) (fun _ _ _ h=>h) (Or.inl ⟨by rfl,?_⟩) hHeld ?_ ?_
                             rotate_left
                             ·rintro w' ⟨s0,s1,s2,s3⟩
                              go_simp
                              with_reducible rfl
                             rotate_left
                             ·simp only[Act.put,List.setIfInBounds_toArray,List.set_cons_zero,List.set_cons_succ,i64_w,i32_w]
                              rfl
                             refine pure_ (i:=11) (N:=some 308) (v:=?_) (a':=?_) #[true,true,true,true,true,true,true,true,true,true,true,true,false] rfl rfl (any_of HT_.out (by kernel_rfl)) (fun _ _ _ h=>h) (Or.inl ⟨by rfl,?_⟩) ?_ ?_
                             rotate_left
                             ·intro w'
                              go_simp
                              with_reducible rfl
                             rotate_left
                             ·simp only[Act.put,List.setIfInBounds_toArray,List.set_cons_zero,List.set_cons_succ,i64_w,i32_w]
                              rfl
                             refine pure_ (i:=12) (N:=some 43) (v:=?_) (a':=?_) #[true,true,true,true,true,true,true,true,true,true,true,true,true] rfl rfl (any_of HT_.out (by kernel_rfl)) (fun _ _ _ h=>h) (Or.inl ⟨by rfl,?_⟩) ?_ ?_
                             rotate_left
                             ·intro w'
                              go_simp
                              with_reducible rfl
                             rotate_left
                             ·simp only[Act.put,List.setIfInBounds_toArray,List.set_cons_zero,List.set_cons_succ,i64_w,i32_w]
                              rfl
                             refine done_ (done_of HT_.out (by kernel_rfl)) ?_
                             try go_wp2
                             go_roundg k5
                             case measure=>have:=HJ9.out;have:=HJ58.out;have:=HJ178.out;have:=HJ217.out;have:=HK5.out;omega
                             case rel=>exact⟨(wrap64 (x42_5+1)),fin2,H',⟨by have:=HJ9.out;have:=HJ58.out;have:=HJ178.out;have:=HJ217.out;have:=HK5.out;omega⟩,⟨rup HO_417001.out⟩,⟨bup BK416.out⟩,⟨bl⟩⟩
                            ·rw[if_neg c237] at H
                             have c237b0:((wrap64 ((rd t412 x42_5) - (rd t412 (ji230)))) == (wrap64 ((wrap64 (Int.tdiv t404 t403))+1)))=false:=beq_eq_false_iff_ne.mpr c237
                             have c237b1:((wrap64 ((rd t412 x42_5) - (rd t412 (ji230)))) != (wrap64 ((wrap64 (Int.tdiv t404 t403))+1)))=true:=bne_iff_ne.mpr c237
                             obtain rfl:=Option.some.inj H
                             have hcz240_0:wr.cell? ⟨gb416,0,none⟩=some (.int .i64 t411):=(blk_cell BK416.out 0).trans rfl
                             have hcz240_1:wr.cell? ⟨gb416,1,none⟩=some (.slice Ao202 t412.length co202):=(blk_cell BK416.out 1).trans rfl
                             have hfz240_0:=blk_frozen BK416.out 0
                             have hfz240_1:=blk_frozen BK416.out 1
                             try go_wp2
                             have n0_:=am (Kd.R_drew HO_417001.out)
                             have n1_:=am (bD_ BK416.out)
                             have n2_:=am (below_drew1 HB.out)
                             clear HO_417001
                             clear BK416
                             clear HB
                             have HO_417001:=n0_
                             have BK416:=n1_
                             have HB:=n2_
                             clear n0_ n1_ n2_
                             have p419:0≤(x42_5:Int):=od
                             have q419:x42_5<(t412.length:Int):=od
                             obtain⟨ad419,e419,hx419_0⟩:=Kd.at_int (Kd.R_reads' HO_417001.out).2.2 x42_5 p419 q419
                             cases e419
                             replace p419:=eq_true p419
                             replace q419:=eq_true q419
                             have p420:0≤((ji230):Int):=od
                             have q420:(ji230)<(t412.length:Int):=od
                             obtain⟨ad420,e420,hx420_0⟩:=Kd.at_int (Kd.R_reads' HO_417001.out).2.2 (ji230) p420 q420
                             obtain rfl:ad419=ad420:=(by injection e420)
                             replace p420:=eq_true p420
                             replace q420:=eq_true q420
                             refine start_ (n:=13) (S:=fun w'=>w'.cell? ⟨gb416,0,none⟩=some (.int .i64 t411)∧w'.cell? ⟨gb416,1,none⟩=some (.slice (some ad419) t412.length co202)∧w'.cell? (ad419.add (x42_5).toNat)=some (.int .i64 (rd t412 x42_5))∧w'.cell? (ad419.add ((ji230)).toNat)=some (.int .i64 (rd t412 (ji230)))) (ds:=[]) #[false,false,false,false,false,false,false,false,false,false,false,false,false] (by kernel_rfl) rfl rfl ⟨(blk_cell BK416.out 0).trans rfl,(blk_cell BK416.out 1).trans rfl,hx419_0,hx420_0⟩ (fun hHeld=>?_);refine with_tabW laws_FnPatterns.tab42 laws_FnPatterns.bits42 (fun HT_ HW_=>?_)
                             generalize wr.drew=w241 at HO_417001 BK416 HB hx419_0 hx420_0 hHeld ⊢
                             refine pure_ (i:=0) (N:=some 297) (v:=?_) (a':=?_) #[true,false,false,false,false,false,false,false,false,false,false,false,false] rfl rfl (any_of HT_.out (by kernel_rfl)) (fun _ _ _ h=>h) (Or.inl ⟨by rfl,?_⟩) ?_ ?_
                             rotate_left
                             ·intro w'
                              go_simp
                              with_reducible rfl
                             rotate_left
                             ·simp only[Act.put,List.setIfInBounds_toArray,List.set_cons_zero,List.set_cons_succ,i64_w,i32_w]
                              rfl
                             refine pure_ (i:=2) (N:=some 299) (v:=?_) (a':=?_) #[true,false,true,false,false,false,false,false,false,false,false,false,false] rfl rfl (any_of HT_.out (by kernel_rfl)) (fun _ _ _ h=>h) (Or.inl ⟨by rfl,?_⟩) ?_ ?_
                             rotate_left
                             ·intro w'
                              go_simp
                              with_reducible rfl
                             rotate_left
                             ·simp only[Act.put,List.setIfInBounds_toArray,List.set_cons_zero,List.set_cons_succ,i64_w,i32_w]
                              rfl
                             refine pure_ (i:=5) (N:=some 302) (v:=?_) (a':=?_) #[true,false,true,false,false,true,false,false,false,false,false,false,false] rfl rfl (any_of HT_.out (by kernel_rfl)) (fun _ _ _ h=>h) (Or.inl ⟨by rfl,?_⟩) ?_ ?_
                             rotate_left
                             ·intro w'
                              go_simp
                              with_reducible rfl
                             rotate_left
                             ·simp only[Act.put,List.setIfInBounds_toArray,List.set_cons_zero,List.set_cons_succ,i64_w,i32_w]
                              rfl
                             refine pure_ (i:=7) (N:=some 304) (v:=?_) (a':=?_) #[true,false,true,false,false,true,false,true,false,false,false,false,false] rfl rfl (any_of HT_.out (by kernel_rfl)) (fun _ _ _ h=>h) (Or.inl ⟨by rfl,?_⟩) ?_ ?_
                             rotate_left
                             ·intro w'
                              go_simp
                              with_reducible rfl
                             rotate_left
                             ·simp only[Act.put,List.setIfInBounds_toArray,List.set_cons_zero,List.set_cons_succ,i64_w,i32_w]
                              rfl
                             refine pure_ (i:=8) (N:=some 305) (v:=?_) (a':=?_) #[true,false,true,false,false,true,false,true,true,false,false,false,false] rfl rfl (any_of HT_.out (by kernel_rfl)) (fun _ _ _ h=>h) (Or.inl ⟨by rfl,?_⟩) ?_ ?_
                             rotate_left
                             ·intro w'
                              go_simp
                              with_reducible rfl
                             rotate_left
                             ·simp only[Act.put,List.setIfInBounds_toArray,List.set_cons_zero,List.set_cons_succ,i64_w,i32_w]
                              rfl
                             refine take_ (i:=1) (N:=some 298) (v:=?_) (a':=?_) #[true,true,true,false,false,true,false,true,true,false,false,false,false] rfl rfl (take_ofW HT_.out HW_.out (by kernel_rfl)) (fun _ _ _ h=>h) (Or.inl ⟨by rfl,?_⟩) hHeld ?_ ?_
                             rotate_left
                             ·rintro w' ⟨s0,s1,s2,s3⟩
                              go_simp
                              with_reducible rfl
                             rotate_left
                             ·simp only[Act.put,List.setIfInBounds_toArray,List.set_cons_zero,List.set_cons_succ,i64_w,i32_w]
                              rfl
                             refine pure_ (i:=3) (N:=some 300) (v:=?_) (a':=?_) #[true,true,true,true,false,true,false,true,true,false,false,false,false] rfl rfl (any_of HT_.out (by kernel_rfl)) (fun _ _ _ h=>h) (Or.inl ⟨by rfl,?_⟩) ?_ ?_
                             rotate_left
                             ·intro w'
                              go_simp
                              with_reducible rfl
                             rotate_left
                             ·simp only[Act.put,List.setIfInBounds_toArray,List.set_cons_zero,List.set_cons_succ,i64_w,i32_w]
                              rfl
                             refine take_ (i:=4) (N:=some 301) (v:=?_) (a':=?_) #[true,true,true,true,true,true,false,true,true,false,false,false,false] rfl rfl (take_ofW HT_.out HW_.out (by kernel_rfl)) (fun _ _ _ h=>h) (Or.inl ⟨by rfl,?_⟩) hHeld ?_ ?_
                             rotate_left
                             ·rintro w' ⟨s0,s1,s2,s3⟩
                              go_simp
                              with_reducible rfl
                             rotate_left
                             ·simp only[Act.put,List.setIfInBounds_toArray,List.set_cons_zero,List.set_cons_succ,i64_w,i32_w]
                              rfl
                             refine take_ (i:=6) (N:=some 303) (v:=?_) (a':=?_) #[true,true,true,true,true,true,true,true,true,false,false,false,false] rfl rfl (take_ofW HT_.out HW_.out (by kernel_rfl)) (fun _ _ _ h=>h) (Or.inl ⟨by rfl,?_⟩) hHeld ?_ ?_
                             rotate_left
                             ·rintro w' ⟨s0,s1,s2,s3⟩
                              go_simp
                              with_reducible rfl
                             rotate_left
                             ·simp only[Act.put,List.setIfInBounds_toArray,List.set_cons_zero,List.set_cons_succ,i64_w,i32_w]
                              rfl
                             refine pure_ (i:=9) (N:=some 306) (v:=?_) (a':=?_) #[true,true,true,true,true,true,true,true,true,true,false,false,false] rfl rfl (any_of HT_.out (by kernel_rfl)) (fun _ _ _ h=>h) (Or.inl ⟨by rfl,?_⟩) ?_ ?_
                             rotate_left
                             ·intro w'
                              go_simp
                              with_reducible rfl
                             rotate_left
                             ·simp only[Act.put,List.setIfInBounds_toArray,List.set_cons_zero,List.set_cons_succ,i64_w,i32_w]
                              rfl
                             refine take_ (i:=10) (N:=some 307) (v:=?_) (a':=?_) #[true,true,true,true,true,true,true,true,true,true,true,false,false] rfl rfl (take_ofW HT_.out HW_.out (by kernel_rfl)) (fun _ _ _ h=>h) (Or.inl ⟨by rfl,?_⟩) hHeld ?_ ?_
                             rotate_left
                             ·rintro w' ⟨s0,s1,s2,s3⟩
                              go_simp
                              with_reducible rfl
                             rotate_left
                             ·simp only[Act.put,List.setIfInBounds_toArray,List.set_cons_zero,List.set_cons_succ,i64_w,i32_w]
                              rfl
                             refine pure_ (i:=11) (N:=some 308) (v:=?_) (a':=?_) #[true,true,true,true,true,true,true,true,true,true,true,true,false] rfl rfl (any_of HT_.out (by kernel_rfl)) (fun _ _ _ h=>h) (Or.inl ⟨by rfl,?_⟩) ?_ ?_
                             rotate_left
                             ·intro w'
                              go_simp
                              with_reducible rfl
                             rotate_left
                             ·simp only[Act.put,List.setIfInBounds_toArray,List.set_cons_zero,List.set_cons_succ,i64_w,i32_w]
                              rfl
                             refine pure_ (i:=12) (N:=some 43) (v:=?_) (a':=?_) #[true,true,true,true,true,true,true,true,true,true,true,true,true] rfl rfl (any_of HT_.out (by kernel_rfl)) (fun _ _ _ h=>h) (Or.inl ⟨by rfl,?_⟩) ?_ ?_
                             rotate_left
                             ·intro w'
                              go_simp
                              with_reducible rfl
                             rotate_left
                             ·simp only[Act.put,List.setIfInBounds_toArray,List.set_cons_zero,List.set_cons_succ,i64_w,i32_w]
                              rfl
                             refine done_ (done_of HT_.out (by kernel_rfl)) ?_
                             try go_wp2
                             go_ret
                             exact⟨by first|rfl|(simp [errW_none,errW_some]<;>rfl)|(simp only[← hji230];first|rfl|(simp [errW_none,errW_some]<;>rfl))|(simp [*,errW_none,errW_some]<;>rfl),bl⟩
                         ·rw[if_neg c232] at H
                          exact absurd H (by simp)
                        ·rw[if_neg c231] at H
                         exact absurd H (by simp)
                       ·rw[if_neg c229] at H
                        exact absurd H (by simp)
                      ·rw[if_neg c228] at H
                       have c228b0:decide (x42_5<(t412.length:Int))=false:=decide_eq_false c228
                       clear c228
                       have H':=am H
                       clear H
                       have hcz242_0:wr.cell? ⟨gb416,0,none⟩=some (.int .i64 t411):=(blk_cell BK416.out 0).trans rfl
                       have hcz242_1:wr.cell? ⟨gb416,1,none⟩=some (.slice Ao202 t412.length co202):=(blk_cell BK416.out 1).trans rfl
                       have hfz242_0:=blk_frozen BK416.out 0
                       have hfz242_1:=blk_frozen BK416.out 1
                       go_wp2
                       go_meet
                       case rel=>exact⟨_,H',⟨by have:=HJ9.out;have:=HJ58.out;have:=HJ178.out;have:=HJ217.out;have:=HK5.out;first|omega|exact Nat.le_refl _⟩,⟨bl⟩⟩
              ·replace c217:=Bool.eq_false_iff.mpr c217
               subst c217
               have H1:(laws_FnPatterns.j8 kj178 l1)=some r:=by rw[if_neg (show ¬ (false=true) by decide)] at H;exact H
               clear H
               have H:=H1
               clear H1
               have H':=am H
               clear H
               go_wp2
               go_meet
               case rel=>exact⟨_,H',⟨by have:=HJ9.out;have:=HJ58.out;have:=HJ178.out;first|omega|exact Nat.le_refl _⟩,⟨bl⟩⟩
             case rest =>
              as_aux_lemma =>
               clear HC216
               try clear c1
               try clear c2
               try clear p2
               try clear p4
               try clear q4
               try clear hx4
               try clear c6
               try clear p6
               try clear c14
               try clear c15
               try clear c16
               try clear c17
               try clear c18
               try clear c19
               try clear c20
               try clear c21
               try clear c22
               try clear c23
               try clear p41
               try clear q41
               try clear hx41
               try clear p42
               try clear q42
               try clear hx42
               try clear c60
               try clear p64
               try clear c142
               try clear c142b0
               try clear c154
               try clear c155
               try clear c155b0
               try clear c155b1
               try clear c167
               try clear c168
               try clear c169
               try clear c194
               try clear c199
               try clear c200
               try clear c203
               try clear c203b0
               try clear c203b1
               try clear c203b2
               try clear c204
               try clear c204b0
               try clear c204b1
               try clear c205
               try clear c205b0
               try clear c205b1
               try clear c205b2
               try clear c206
               try clear c206b0
               try clear c206b1
               try clear c206b2
               try clear c207
               try clear c207b0
               try clear c207b1
               try clear c207b2
               try clear c209
               try clear c210
               try clear c212
               try clear c215
               try clear c217
               try clear c219
               try clear c219b0
               try clear c219b1
               try clear c221
               try clear c225
               try clear c227
               try clear c228
               try clear c228b0
               try clear c229
               try clear c229b0
               try clear c231
               try clear c231b0
               try clear c232
               try clear c232b0
               try clear c233
               try clear c233b0
               try clear c233b1
               try clear c234
               try clear c234b0
               try clear c234b1
               try clear c237
               try clear c237b0
               try clear c237b1
               try clear hcz170_0
               try clear hcz170_1
               try clear hcz182_0
               try clear hcz182_1
               try clear hcz185_0
               try clear hcz185_1
               try clear hcz187_0
               try clear hcz187_1
               try clear hcz189_0
               try clear hcz189_1
               try clear hcz195_0
               try clear hcz195_1
               try clear hcz201_0
               try clear hcz201_1
               try clear hcz211_0
               try clear hcz211_1
               try clear hcz213_0
               try clear hcz213_1
               try clear hcz222_0
               try clear hcz222_1
               try clear hcz223_0
               try clear hcz223_1
               try clear hcz226_0
               try clear hcz226_1
               try clear hcz235_0
               try clear hcz235_1
               try clear hcz238_0
               try clear hcz238_1
               try clear hcz240_0
               try clear hcz240_1
               try clear hcz242_0
               try clear hcz242_1
               try clear hfz170_0
               try clear hfz170_1
               try clear hfz182_0
               try clear hfz182_1
               try clear hfz185_0
               try clear hfz185_1
               try clear hfz187_0
               try clear hfz187_1
               try clear hfz189_0
               try clear hfz189_1
               try clear hfz195_0
               try clear hfz195_1
               try clear hfz201_0
               try clear hfz201_1
               try clear hfz211_0
               try clear hfz211_1
               try clear hfz213_0
               try clear hfz213_1
               try clear hfz222_0
               try clear hfz222_1
               try clear hfz223_0
               try clear hfz223_1
               try clear hfz226_0
               try clear hfz226_1
               try clear hfz235_0
               try clear hfz235_1
               try clear hfz238_0
               try clear hfz238_1
               try clear hfz240_0
               try clear hfz240_1
               try clear hfz242_0
               try clear hfz242_1
               try clear hx419_0
               try clear hx420_0
               try clear p2
               try clear p419
               try clear p420
               try clear p6
               try clear p64
               try clear q419
               try clear q420
               obtain⟨kq,HA,HJ215,HB⟩:=hcut
               cases kq with
               | zero=>exact absurd HA.out (by simp [laws_FnPatterns.j8])
               | succ kj215 =>
                have H:=HA.out
                clear HA
                simp only[laws_FnPatterns.j8] at H
                replace H:=Option.bind_eq_some_iff.mp H
                obtain⟨t421,A2430,H⟩:=H
                replace H:((impl_ParsePattern.f kj215 t421).bind fun bt422=>((spec_ParsePattern.f kj215 t421).bind fun bt428=>(if(bt422.2.2 == bt428.2.2)=true then((laws_pSamePattern.f kj215 bt422.1 bt422.2.1 bt428.1 bt428.2.1).bind fun t434=>(some t434)) else(some false))))=some r:=H
                have A243:=am A2430
                clear A2430
                replace H:=Option.bind_eq_some_iff.mp H
                obtain⟨⟨t422,t423,t426⟩,A2440,H⟩:=H
                replace H:((spec_ParsePattern.f kj215 t421).bind fun bt428=>(if(t426 == bt428.2.2)=true then((laws_pSamePattern.f kj215 t422 t423 bt428.1 bt428.2.1).bind fun t434=>(some t434)) else(some false)))=some r:=H
                have A244:=am A2440
                clear A2440
                replace H:=Option.bind_eq_some_iff.mp H
                obtain⟨⟨t428,t429,t432⟩,A2450,H⟩:=H
                replace H:(if(t426 == t432)=true then((laws_pSamePattern.f kj215 t422 t423 t428 t429).bind fun t434=>(some t434)) else(some false))=some r:=H
                have A245:=am A2450
                clear A2450
                by_cases c246:(t426 == t432)=true
                ·rw[if_pos c246] at H
                 have c246b0:(t426 == t432)=true:=c246
                 (try(have c246b1:decide (t426=t432)=true:=by simpa using c246))
                 (try(have c246b2:(t426 == t432)=true:=by simpa using c246))
                 clear c246
                 replace H:=Option.bind_eq_some_iff.mp H
                 obtain⟨t434,A2470,H⟩:=H
                 replace H:(some t434)=some r:=H
                 have A247:=am A2470
                 clear A2470
                 obtain rfl:=Option.some.inj H
                 go_wp2_with (first|((with_reducible refine gate_callee (f:=22) rfl ?_);refine goesL_ (some 323) rfl rfl Try.func22 (by kernel_rfl) rfl #[.slice A1 l1.length c1] rfl tl ?_;(with_reducible refine(spec_DrawParsePattern.calls kj215 _ _ l1 t421 _ ?side1 ?side2 A243.out).mono ?_);(case side1=>exact cup (Kd.C_below HR1.out HB.out));(case side2=>exact HC1.out);rintro e w248 ⟨rfl,hb⟩;refine⟨_,rfl,?_⟩;have n0_:=am (below_step bl hb);clear HB;have HB:=n0_;clear n0_;(try clear hb);(try clear hb2);(try clear hk);(try clear hi))|((with_reducible refine gate_callee (f:=12) rfl ?_);refine goesL_ (some 326) rfl rfl Try.func12 (by kernel_rfl) rfl #[.string t421] rfl tl ?_;(with_reducible refine(impl_ParsePattern.calls kj215 t421 t422 t423 t426 _ A244.out).mono ?_);rintro e w249 ⟨v424,rfl,ho0,hb⟩;refine⟨_,rfl,?_⟩;have n0_:=am (Kd.R_lower ho0 (below_size bl));have n1_:=am (below_step bl hb);clear HB;have HO425:=n0_;have HB:=n1_;clear n0_ n1_;(try clear hb);(try clear hb2);(try clear hk);(try clear hi);(try clear ho0))|((with_reducible refine gate_dst (N:=45) rfl ?_);(try(refine gate_guard (by rfl) ?_;dsimp only));refine box_event ?hg (N:=45) ?hd (cs := #[.int .i64 0,.slice none 0 0]) (t:=26) ?hr ?_;(case hd=>rfl);(case hg=>rfl);(case hr=>first|(go_simp;done)|(go_simp;rfl));intro gb427 hg w250 hbox hb;have n0_:=am (Kd.R_below (rup HO425.out) hb);have n1_:=am (below_step bl hb);have n2_:=am (hbox);have n3_:=am (ge_ bl hg);have n4_:=am (ge_ bl hg);clear HO425 HB;have HO425:=n0_;have HB:=n1_;have BK427:=n2_;have GW427:=n3_;have GE427:=n4_;clear n0_ n1_ n2_ n3_ n4_ hb hbox hg;have hcz251_0:w250.cell? ⟨gb427,0,none⟩=some (.int .i64 0):=(blk_cell BK427.out 0).trans rfl;have hcz251_1:w250.cell? ⟨gb427,1,none⟩=some (.slice none 0 0):=(blk_cell BK427.out 1).trans rfl;have hfz251_0:=blk_frozen BK427.out 0;have hfz251_1:=blk_frozen BK427.out 1;obtain⟨Ao252,co252,eo252⟩:=Kd.R_slice HO425.out;subst eo252)|((with_reducible refine gate_callee (f:=23) rfl ?_);refine goesL_ (some 331) rfl rfl Try.func23 (by kernel_rfl) rfl #[.string t421] rfl tl ?_;(with_reducible refine(spec_ParsePattern.calls kj215 t421 t428 t429 t432 _ A245.out).mono ?_);rintro e w253 ⟨v430,rfl,ho0,hb⟩;refine⟨_,rfl,?_⟩;have n0_:=am (Kd.R_elder' (by(with_reducible repeat(first|apply Kd.R_alloc|apply Kd.R_drewN|apply Kd.R_drew));exact(Kd.R_mono (Kd.R_far (p:=⟨gb427,1,none⟩) (Kd.R_far (p:=⟨gb427,0,none⟩) (Kd.R_types HO425.out BK427.out (by decide)) (fun _ hk=>hk.2) (.int .i64 t422)) (fun _ hk=>hk.2) (.slice Ao252 t423.length co252)) (fun _ h_=>h_.1))) (Kd.R_base ho0) hb);have n1_:=am (Kd.R_lower (Kd.R_new' ho0 (Kd.R_lt (by(with_reducible repeat(first|apply Kd.R_alloc|apply Kd.R_drewN|apply Kd.R_drew));exact(Kd.R_mono (Kd.R_far (p:=⟨gb427,1,none⟩) (Kd.R_far (p:=⟨gb427,0,none⟩) (Kd.R_types HO425.out BK427.out (by decide)) (fun _ hk=>hk.2) (.int .i64 t422)) (fun _ hk=>hk.2) (.slice Ao252 t423.length co252)) (fun _ h_=>h_.1))))) (below_size bl));have n2_:=am (blk_below (g:=gb427) (o := .cells #[.int .i64 t422,.slice Ao252 t423.length co252] 26 (0,0)) (by(with_reducible repeat(first|refine bN_ ?_ _|refine bD_ ?_|refine bA_ ?_ _));refine blk_put (cs := #[.int .i64 t422,.slice none 0 0]) ?_ 1 _ rfl;(with_reducible repeat(first|refine bN_ ?_ _|refine bD_ ?_|refine bA_ ?_ _));refine blk_put (cs := #[.int .i64 0,.slice none 0 0]) ?_ 0 _ rfl;exact bup BK427.out) hb);have n3_:=am (below_step bl hb);clear HO425 BK427 HB;have HO425:=n0_;have HO431:=n1_;have BK427:=n2_;have HB:=n3_;clear n0_ n1_ n2_ n3_;(try clear hb);(try clear hb2);(try clear hk);(try clear hi);(try clear ho0))|((with_reducible refine gate_dst (N:=47) rfl ?_);(try(refine gate_guard (by rfl) ?_;dsimp only));refine box_event ?hg (N:=47) ?hd (cs := #[.int .i64 0,.slice none 0 0]) (t:=26) ?hr ?_;(case hd=>rfl);(case hg=>rfl);(case hr=>first|(go_simp;done)|(go_simp;rfl));intro gb433 hg w254 hbox hb;have n0_:=am (Kd.R_below (rup HO425.out) hb);have n1_:=am (Kd.R_below (rup HO431.out) hb);have n2_:=am (blk_below (bup BK427.out) hb);have n3_:=am (below_step bl hb);have n4_:=am (hbox);have n5_:=am (ge_ bl hg);have n6_:=am (ge_ bl hg);have n7_:=am (nl (bup BK427.out) hg);have n8_:=am (ng (bup BK427.out) hg);clear HO425 HO431 BK427 HB;have HO425:=n0_;have HO431:=n1_;have BK427:=n2_;have HB:=n3_;have BK433:=n4_;have GW433:=n5_;have GE433:=n6_;have NB427_433:=n7_;have NB433_427:=n8_;clear n0_ n1_ n2_ n3_ n4_ n5_ n6_ n7_ n8_ hb hbox hg;have hnb255:=NB433_427.out;have hnc255:=NB427_433.out;have hcz256_0:w254.cell? ⟨gb433,0,none⟩=some (.int .i64 0):=(blk_cell BK433.out 0).trans rfl;have hcz256_1:w254.cell? ⟨gb433,1,none⟩=some (.slice none 0 0):=(blk_cell BK433.out 1).trans rfl;have hfz256_0:=blk_frozen BK433.out 0;have hfz256_1:=blk_frozen BK433.out 1;obtain⟨Ao257,co257,eo257⟩:=Kd.R_slice HO431.out;subst eo257;have hcz258_0:w254.cell? ⟨gb427,0,none⟩=some (.int .i64 t422):=(blk_cell BK427.out 0).trans rfl;have hcz258_1:w254.cell? ⟨gb427,1,none⟩=some (.slice Ao252 t423.length co252):=(blk_cell BK427.out 1).trans rfl;have hfz258_0:=blk_frozen BK427.out 0;have hfz258_1:=blk_frozen BK427.out 1)|(go_at_call 10;(with_reducible refine(laws_pSamePattern.calls kj215 t422 _ _ t423 t428 _ _ t429 t434 _ ?side1 ?side2 ?side3 ?side4 A247.out).mono ?_);(case side1=>refine(Kd.R_reads' (e:=3) (base:=w.heap.size) (ok:=fun k_=>(True∧some k_≠(.slice Ao257 t429.length co257:Value).ownBlock)) (n:=t423.length) (c:=co252) ?_).2.2;exact(by(with_reducible repeat(first|apply Kd.R_alloc|apply Kd.R_drewN|apply Kd.R_drew));exact(Kd.R_mono (Kd.R_far (p:=⟨gb433,1,none⟩) (Kd.R_far (p:=⟨gb433,0,none⟩) (Kd.R_types HO425.out BK433.out (by decide)) (fun _ hk=>hk.2) (.int .i64 t428)) (fun _ hk=>hk.2) (.slice Ao257 t429.length co257)) (fun _ h_=>h_.1))));(case side2=>exact(Kd.R_reads' HO425.out).2.1);(case side3=>refine(Kd.R_reads' (e:=3) (base:=w.heap.size) (ok:=fun k_=>(True∧some k_≠(.slice Ao252 t423.length co252:Value).ownBlock)) (n:=t429.length) (c:=co257) ?_).2.2;exact(by(with_reducible repeat(first|apply Kd.R_alloc|apply Kd.R_drewN|apply Kd.R_drew));exact(Kd.R_mono (Kd.R_far (p:=⟨gb433,1,none⟩) (Kd.R_far (p:=⟨gb433,0,none⟩) (Kd.R_types HO431.out BK433.out (by decide)) (fun _ hk=>hk.2) (.int .i64 t428)) (fun _ hk=>hk.2) (.slice Ao257 t429.length co257)) (fun _ h_=>h_.1))));(case side4=>exact(Kd.R_reads' HO431.out).2.1);rintro e w259 ⟨rfl,hb⟩;have n0_:=am (Kd.R_below (by(with_reducible repeat(first|apply Kd.R_alloc|apply Kd.R_drewN|apply Kd.R_drew));exact(Kd.R_mono (Kd.R_far (p:=⟨gb433,1,none⟩) (Kd.R_far (p:=⟨gb433,0,none⟩) (Kd.R_types HO425.out BK433.out (by decide)) (fun _ hk=>hk.2) (.int .i64 t428)) (fun _ hk=>hk.2) (.slice Ao257 t429.length co257)) (fun _ h_=>h_.1))) hb);have n1_:=am (Kd.R_below (by(with_reducible repeat(first|apply Kd.R_alloc|apply Kd.R_drewN|apply Kd.R_drew));exact(Kd.R_mono (Kd.R_far (p:=⟨gb433,1,none⟩) (Kd.R_far (p:=⟨gb433,0,none⟩) (Kd.R_types HO431.out BK433.out (by decide)) (fun _ hk=>hk.2) (.int .i64 t428)) (fun _ hk=>hk.2) (.slice Ao257 t429.length co257)) (fun _ h_=>h_.1))) hb);have n2_:=am (blk_below (g:=gb427) (o := .cells #[.int .i64 t422,.slice Ao252 t423.length co252] 26 (0,0)) (by(with_reducible repeat(first|refine bN_ ?_ _|refine bD_ ?_|refine bA_ ?_ _));refine blk_far ?_ NB427_433.out _;(with_reducible repeat(first|refine bN_ ?_ _|refine bD_ ?_|refine bA_ ?_ _));refine blk_far ?_ NB427_433.out _;exact bup BK427.out) hb);have n3_:=am (blk_below (g:=gb433) (o := .cells #[.int .i64 t428,.slice Ao257 t429.length co257] 26 (0,0)) (by(with_reducible repeat(first|refine bN_ ?_ _|refine bD_ ?_|refine bA_ ?_ _));refine blk_put (cs := #[.int .i64 t428,.slice none 0 0]) ?_ 1 _ rfl;(with_reducible repeat(first|refine bN_ ?_ _|refine bD_ ?_|refine bA_ ?_ _));refine blk_put (cs := #[.int .i64 0,.slice none 0 0]) ?_ 0 _ rfl;exact bup BK433.out) hb);have n4_:=am (below_step bl hb);clear HO425 HO431 BK427 BK433 HB;have HO425:=n0_;have HO431:=n1_;have BK427:=n2_;have BK433:=n3_;have HB:=n4_;clear n0_ n1_ n2_ n3_ n4_;(try clear hb);(try clear hb2);(try clear hk);(try clear hi)))
                 go_ret
                 exact⟨fin1,bl⟩
                ·rw[if_neg c246] at H
                 have c246b0:(t426 == t432)=false:=by simpa using c246
                 (try(have c246b1:decide (t426=t432)=false:=by simpa using c246))
                 (try(have c246b2:(t426 == t432)=false:=by simpa using c246))
                 (try(have c246b3:¬ (t426=t432):=by simpa using c246))
                 clear c246
                 obtain rfl:=Option.some.inj H
                 go_wp2_with (first|((with_reducible refine gate_callee (f:=22) rfl ?_);refine goesL_ (some 323) rfl rfl Try.func22 (by kernel_rfl) rfl #[.slice A1 l1.length c1] rfl tl ?_;(with_reducible refine(spec_DrawParsePattern.calls kj215 _ _ l1 t421 _ ?side1 ?side2 A243.out).mono ?_);(case side1=>exact cup (Kd.C_below HR1.out HB.out));(case side2=>exact HC1.out);rintro e w260 ⟨rfl,hb⟩;refine⟨_,rfl,?_⟩;have n0_:=am (below_step bl hb);clear HB;have HB:=n0_;clear n0_;(try clear hb);(try clear hb2);(try clear hk);(try clear hi))|((with_reducible refine gate_callee (f:=12) rfl ?_);refine goesL_ (some 326) rfl rfl Try.func12 (by kernel_rfl) rfl #[.string t421] rfl tl ?_;(with_reducible refine(impl_ParsePattern.calls kj215 t421 t422 t423 t426 _ A244.out).mono ?_);rintro e w261 ⟨v424,rfl,ho0,hb⟩;refine⟨_,rfl,?_⟩;have n0_:=am (Kd.R_lower ho0 (below_size bl));have n1_:=am (below_step bl hb);clear HB;have HO425:=n0_;have HB:=n1_;clear n0_ n1_;(try clear hb);(try clear hb2);(try clear hk);(try clear hi);(try clear ho0))|((with_reducible refine gate_dst (N:=45) rfl ?_);(try(refine gate_guard (by rfl) ?_;dsimp only));refine box_event ?hg (N:=45) ?hd (cs := #[.int .i64 0,.slice none 0 0]) (t:=26) ?hr ?_;(case hd=>rfl);(case hg=>rfl);(case hr=>first|(go_simp;done)|(go_simp;rfl));intro gb427 hg w262 hbox hb;have n0_:=am (Kd.R_below (rup HO425.out) hb);have n1_:=am (below_step bl hb);have n2_:=am (hbox);have n3_:=am (ge_ bl hg);have n4_:=am (ge_ bl hg);clear HO425 HB;have HO425:=n0_;have HB:=n1_;have BK427:=n2_;have GW427:=n3_;have GE427:=n4_;clear n0_ n1_ n2_ n3_ n4_ hb hbox hg;have hcz263_0:w262.cell? ⟨gb427,0,none⟩=some (.int .i64 0):=(blk_cell BK427.out 0).trans rfl;have hcz263_1:w262.cell? ⟨gb427,1,none⟩=some (.slice none 0 0):=(blk_cell BK427.out 1).trans rfl;have hfz263_0:=blk_frozen BK427.out 0;have hfz263_1:=blk_frozen BK427.out 1;obtain⟨Ao264,co264,eo264⟩:=Kd.R_slice HO425.out;subst eo264)|((with_reducible refine gate_callee (f:=23) rfl ?_);refine goesL_ (some 331) rfl rfl Try.func23 (by kernel_rfl) rfl #[.string t421] rfl tl ?_;(with_reducible refine(spec_ParsePattern.calls kj215 t421 t428 t429 t432 _ A245.out).mono ?_);rintro e w265 ⟨v430,rfl,ho0,hb⟩;refine⟨_,rfl,?_⟩;have n0_:=am (Kd.R_elder' (by(with_reducible repeat(first|apply Kd.R_alloc|apply Kd.R_drewN|apply Kd.R_drew));exact(Kd.R_mono (Kd.R_far (p:=⟨gb427,1,none⟩) (Kd.R_far (p:=⟨gb427,0,none⟩) (Kd.R_types HO425.out BK427.out (by decide)) (fun _ hk=>hk.2) (.int .i64 t422)) (fun _ hk=>hk.2) (.slice Ao264 t423.length co264)) (fun _ h_=>h_.1))) (Kd.R_base ho0) hb);have n1_:=am (Kd.R_lower (Kd.R_new' ho0 (Kd.R_lt (by(with_reducible repeat(first|apply Kd.R_alloc|apply Kd.R_drewN|apply Kd.R_drew));exact(Kd.R_mono (Kd.R_far (p:=⟨gb427,1,none⟩) (Kd.R_far (p:=⟨gb427,0,none⟩) (Kd.R_types HO425.out BK427.out (by decide)) (fun _ hk=>hk.2) (.int .i64 t422)) (fun _ hk=>hk.2) (.slice Ao264 t423.length co264)) (fun _ h_=>h_.1))))) (below_size bl));have n2_:=am (blk_below (g:=gb427) (o := .cells #[.int .i64 t422,.slice Ao264 t423.length co264] 26 (0,0)) (by(with_reducible repeat(first|refine bN_ ?_ _|refine bD_ ?_|refine bA_ ?_ _));refine blk_put (cs := #[.int .i64 t422,.slice none 0 0]) ?_ 1 _ rfl;(with_reducible repeat(first|refine bN_ ?_ _|refine bD_ ?_|refine bA_ ?_ _));refine blk_put (cs := #[.int .i64 0,.slice none 0 0]) ?_ 0 _ rfl;exact bup BK427.out) hb);have n3_:=am (below_step bl hb);clear HO425 BK427 HB;have HO425:=n0_;have HO431:=n1_;have BK427:=n2_;have HB:=n3_;clear n0_ n1_ n2_ n3_;(try clear hb);(try clear hb2);(try clear hk);(try clear hi);(try clear ho0))|((with_reducible refine gate_dst (N:=47) rfl ?_);(try(refine gate_guard (by rfl) ?_;dsimp only));refine box_event ?hg (N:=47) ?hd (cs := #[.int .i64 0,.slice none 0 0]) (t:=26) ?hr ?_;(case hd=>rfl);(case hg=>rfl);(case hr=>first|(go_simp;done)|(go_simp;rfl));intro gb433 hg w266 hbox hb;have n0_:=am (Kd.R_below (rup HO425.out) hb);have n1_:=am (Kd.R_below (rup HO431.out) hb);have n2_:=am (blk_below (bup BK427.out) hb);have n3_:=am (below_step bl hb);have n4_:=am (hbox);have n5_:=am (ge_ bl hg);have n6_:=am (ge_ bl hg);have n7_:=am (nl (bup BK427.out) hg);have n8_:=am (ng (bup BK427.out) hg);clear HO425 HO431 BK427 HB;have HO425:=n0_;have HO431:=n1_;have BK427:=n2_;have HB:=n3_;have BK433:=n4_;have GW433:=n5_;have GE433:=n6_;have NB427_433:=n7_;have NB433_427:=n8_;clear n0_ n1_ n2_ n3_ n4_ n5_ n6_ n7_ n8_ hb hbox hg;have hnb267:=NB433_427.out;have hnc267:=NB427_433.out;have hcz268_0:w266.cell? ⟨gb433,0,none⟩=some (.int .i64 0):=(blk_cell BK433.out 0).trans rfl;have hcz268_1:w266.cell? ⟨gb433,1,none⟩=some (.slice none 0 0):=(blk_cell BK433.out 1).trans rfl;have hfz268_0:=blk_frozen BK433.out 0;have hfz268_1:=blk_frozen BK433.out 1;obtain⟨Ao269,co269,eo269⟩:=Kd.R_slice HO431.out;subst eo269))
                 go_ret
                 exact⟨fin1,bl⟩

end Go.Proofs.Ytlhjjpdlfddflab.PFnPatterns
