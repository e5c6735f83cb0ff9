/- The walks of functions that FnExactFaultsOf reaches: what they return is what the plain functions of the same names say. Laid by a program of this session after the kit's print. No conditions beyond the arguments' being read. -/
import Derived.Test.YtipklbjbgbbgpaaSFaultsOf0
import Derived.Test.YtipklbjbgbbgpaaSFaultsOf19
namespace Go.Proofs.Ytipklbjbgbbgpaa.PFnExactFaultsOf
open Go.RowKit Go.Proofs.YtipklbjbgbbgpaaW.PrintWords Go.Proofs.YtipklbjbgbbgpaaW.PrintLast Go.Proofs.YtipklbjbgbbgpaaW.PrintMore
attribute [local go_sem] max2_int min2_int max_two min_two max_three min_three max_four min_four   -- for this text's walks alone
set_option linter.unusedVariables false
set_option linter.unusedSimpArgs false

def laws_heldIntSS.l0:Nat→List (List Int)→Int→Int→Option (Int)
 | 0,_,_,_=>none
 | k+1,x0,x1,x5=>if x5<(x0.length:Int) then(if 0≤x5 then((laws_heldIntS.f k (rd_L7 x0 x5) x1).bind fun t462=>(if t462<0 then(some (-1)) else(laws_heldIntSS.l0 k x0 t462 (wrap64 (x5+1))))) else(none)) else(some x1)
def laws_heldIntSS.f (k:Nat) (l0:List (List Int)) (a1:Int):Option (Int):=laws_heldIntSS.l0 k l0 a1 0
set_option maxHeartbeats 8000000 in
set_option maxRecDepth 100000 in
theorem laws_heldIntSS.calls (k:Nat) (A0:Option Addr) (c0:Nat) (l0:List (List Int)) (a1:Int) (r:Int) (w:World) (hr0:Kd.C (Kd.slice 3 (Kd.int .i64)) w A0 l0.length l0) (hc0:l0.length≤c0) (h:laws_heldIntSS.f k l0 a1=some r) :
  Calls Try.prog 27 #[.slice A0 l0.length c0,.int .i64 a1] w fun e w'=>e = .returned (.int .i64 r)∧Drawn0 w w':=by
 have HR0:=am hr0
 have HC0:=am hc0
 clear hr0 hc0
 have H:(laws_heldIntSS.l0 k l0 a1 0)=some r:=h
 clear h
 have H':=am H
 clear H
 go_enter Try.func27,Try.ntmps27
 go_wp2
 go_loopg [1,5] k (fun kq v1 v5 w'=>∃(x1_1:Int) (x5_1:Int),v1 = .int .i64 x1_1∧v5 = .int .i64 x5_1∧Aside0 (laws_heldIntSS.l0 kq l0 x1_1 x5_1=some r)∧Aside0 (kq≤k)∧Drawn0 w w')
 case atStart=>exact⟨(a1),(0),fin2,fin2,H',⟨Nat.le_refl _⟩,by repeat(first|exact Drawn0.refl _|apply Drawn0.step)⟩
 case round =>
  clear H'
  try clear c2
  try clear p2
  obtain⟨x1_1,x5_1,rfl,rfl,HA,HK1,⟨m1,rfl⟩⟩:=hrel
  cases gk with
  | zero=>exact absurd HA.out (by simp [laws_heldIntSS.l0])
  | succ k1 =>
   have H:=HA.out
   clear HA
   simp only[laws_heldIntSS.l0] at H
   rcases itc H with⟨c3,H⟩|⟨c3,H⟩
   ·have c3b0:=decide_eq_true c3
    clear c3
    obtain⟨c4b0,H⟩:=ifb H
    obtain⟨t462,A5,H⟩:=bnd H
    rcases itc H with⟨c6,H⟩|⟨c6,H⟩
    ·have c6b0:=decide_eq_true c6
     clear c6
     obtain rfl:=Option.some.inj H
     have p461:0≤(x5_1:Int):=od
     have q461:x5_1<(l0.length:Int):=od
     obtain⟨ad461,A461_0,c461_0,e461,hx461_0,hl461_0,hi461_0⟩:=at_L7 HR0.out x5_1 p461 q461
     cases e461
     have HR461_0:=am hi461_0
     have HC461_0:=am hl461_0
     clear hi461_0 hl461_0
     replace p461:=eq_true p461
     replace q461:=eq_true q461
     go_wp2_with (first|((with_reducible refine gate_callee (f:=42) rfl ?_);refine goesL_ (some 17) rfl rfl Try.func42 (by kernel_rfl) rfl #[.slice A461_0 (rd_L7 l0 x5_1).length c461_0,.int .i64 x1_1] rfl tl ?_;(with_reducible refine(laws_heldIntS.calls k1 _ _ (rd_L7 l0 x5_1) x1_1 t462 _ ?side1 ?side2 A5.out).mono ?_);(case side1=>repeat(first|exact HR461_0.out|(with_reducible refine Kd.C_alloc ?_ _)|(with_reducible refine Kd.C_drewN ?_ _)|(with_reducible refine Kd.C_drew ?_)));(case side2=>exact HC461_0.out);rintro e w' ⟨rfl,⟨nd,rfl⟩⟩;refine⟨_,rfl,?_⟩))
     go_ret
     exact⟨by first|rfl|(simp;done)|(simp [*];done),by repeat(first|exact Drawn0.refl _|apply Drawn0.step)⟩
    ·have c6b0:=decide_eq_false c6
     clear c6
     have H':=am H
     clear H
     have p461:0≤(x5_1:Int):=od
     have q461:x5_1<(l0.length:Int):=od
     obtain⟨ad461,A461_0,c461_0,e461,hx461_0,hl461_0,hi461_0⟩:=at_L7 HR0.out x5_1 p461 q461
     cases e461
     have HR461_0:=am hi461_0
     have HC461_0:=am hl461_0
     clear hi461_0 hl461_0
     replace p461:=eq_true p461
     replace q461:=eq_true q461
     go_wp2_with (first|((with_reducible refine gate_callee (f:=42) rfl ?_);refine goesL_ (some 17) rfl rfl Try.func42 (by kernel_rfl) rfl #[.slice A461_0 (rd_L7 l0 x5_1).length c461_0,.int .i64 x1_1] rfl tl ?_;(with_reducible refine(laws_heldIntS.calls k1 _ _ (rd_L7 l0 x5_1) x1_1 t462 _ ?side1 ?side2 A5.out).mono ?_);(case side1=>repeat(first|exact HR461_0.out|(with_reducible refine Kd.C_alloc ?_ _)|(with_reducible refine Kd.C_drewN ?_ _)|(with_reducible refine Kd.C_drew ?_)));(case side2=>exact HC461_0.out);rintro e w' ⟨rfl,⟨nd,rfl⟩⟩;refine⟨_,rfl,?_⟩))
     go_roundg k1
     case measure=>have:=HK1.out;omega
     case rel=>exact⟨(t462),(wrap64 (x5_1+1)),fin2,fin2,H',⟨by have:=HK1.out;omega⟩,by repeat(first|exact Drawn0.refl _|apply Drawn0.step)⟩
   ·have c3b0:=decide_eq_false c3
    clear c3
    obtain rfl:=Option.some.inj H
    go_wp2
    go_ret
    exact⟨by first|rfl|(simp;done)|(simp [*];done),by repeat(first|exact Drawn0.refl _|apply Drawn0.step)⟩

-- NOT PRINTED: function 5 (laws_FnExactFaultsOf)

end Go.Proofs.Ytipklbjbgbbgpaa.PFnExactFaultsOf
