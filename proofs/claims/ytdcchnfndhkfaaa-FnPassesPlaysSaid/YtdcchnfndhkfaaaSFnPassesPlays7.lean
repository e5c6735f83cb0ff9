/- Walks of functions that FnPassesPlays reaches. No conditions beyond the arguments' being read. -/
import Derived.Test.YtdcchnfndhkfaaaSFnPassesPlays0
import Derived.Test.YtdcchnfndhkfaaaSFnPassesPlays6
namespace Go.Proofs.Ytdcchnfndhkfaaa.PFnPassesPlays
open Go.RowKit Go.Proofs.YtdcchnfndhkfaaaW.PrintWords Go.Proofs.YtdcchnfndhkfaaaW.PrintLast Go.Proofs.YtdcchnfndhkfaaaW.PrintMore
attribute [local go_sem] max2_int min2_int max_two min_two max_three min_three max_four min_four
set_option linter.unusedVariables false
set_option linter.unusedSimpArgs false

def cmp_Compare_int.f (a0:Int) (a1:Int):Option (Int):=(cmp_isNaN_int.f a0).bind fun t175=>((cmp_isNaN_int.f a1).bind fun t176=>(if t175=true then(if t176=true then(some 0) else(some (-1))) else(if t176=true then(some 1) else(if a0<a1 then(some (-1)) else(if a0>a1 then(some 1) else(some 0))))))
set_option maxHeartbeats 8000000 in
set_option maxRecDepth 100000 in
theorem cmp_Compare_int.calls (a0:Int) (a1:Int) (r:Int) (w:World) (h:cmp_Compare_int.f a0 a1=some r) :
  Calls Try.prog 47 #[.int .i64 a0,.int .i64 a1] w fun e w'=>e = .returned (.int .i64 r)∧Drawn0 w w':=by
 have H:((cmp_isNaN_int.f a0).bind fun t175=>((cmp_isNaN_int.f a1).bind fun t176=>(if t175=true then(if t176=true then(some 0) else(some (-1))) else(if t176=true then(some 1) else(if a0<a1 then(some (-1)) else(if a0>a1 then(some 1) else(some 0)))))))=some r:=h
 clear h
 obtain⟨t175,A3,H⟩:=bnd H
 obtain⟨t176,A4,H⟩:=bnd H
 by_cases c5:t175=true
 ·subst c5
  replace H:=(if_pos rfl).symm.trans H
  by_cases c6:t176=true
  ·subst c6
   replace H:=(if_pos rfl).symm.trans H
   obtain rfl:=Option.some.inj H
   go_enter Try.func47,Try.ntmps47
   go_wp2_with (first|((with_reducible refine gate_callee (f:=63) rfl ?_);refine goesL_ (some 8) rfl rfl Try.func63 (by kernel_rfl) rfl #[.int .i64 a0] rfl tl ?_;(with_reducible refine(cmp_isNaN_int.calls a0 true _ A3.out).mono ?_);rintro e w' ⟨rfl,⟨nd,rfl⟩⟩;refine⟨_,rfl,?_⟩)|((with_reducible refine gate_callee (f:=63) rfl ?_);refine goesL_ (some 10) rfl rfl Try.func63 (by kernel_rfl) rfl #[.int .i64 a1] rfl tl ?_;(with_reducible refine(cmp_isNaN_int.calls a1 true _ A4.out).mono ?_);rintro e w' ⟨rfl,⟨nd,rfl⟩⟩;refine⟨_,rfl,?_⟩))
   go_ret
   exact⟨by first|rfl|(simp;done)|(simp [*];done),by repeat(first|exact Drawn0.refl _|apply Drawn0.step)⟩
  ·replace c6:=Bool.eq_false_iff.mpr c6
   subst c6
   replace H:=(if_neg Bool.false_ne_true).symm.trans H
   obtain rfl:=Option.some.inj H
   go_enter Try.func47,Try.ntmps47
   go_wp2_with (first|((with_reducible refine gate_callee (f:=63) rfl ?_);refine goesL_ (some 8) rfl rfl Try.func63 (by kernel_rfl) rfl #[.int .i64 a0] rfl tl ?_;(with_reducible refine(cmp_isNaN_int.calls a0 true _ A3.out).mono ?_);rintro e w' ⟨rfl,⟨nd,rfl⟩⟩;refine⟨_,rfl,?_⟩)|((with_reducible refine gate_callee (f:=63) rfl ?_);refine goesL_ (some 10) rfl rfl Try.func63 (by kernel_rfl) rfl #[.int .i64 a1] rfl tl ?_;(with_reducible refine(cmp_isNaN_int.calls a1 false _ A4.out).mono ?_);rintro e w' ⟨rfl,⟨nd,rfl⟩⟩;refine⟨_,rfl,?_⟩))
   go_ret
   exact⟨by first|rfl|(simp;done)|(simp [*];done),by repeat(first|exact Drawn0.refl _|apply Drawn0.step)⟩
 ·replace c5:=Bool.eq_false_iff.mpr c5
  subst c5
  replace H:=(if_neg Bool.false_ne_true).symm.trans H
  by_cases c7:t176=true
  ·subst c7
   replace H:=(if_pos rfl).symm.trans H
   obtain rfl:=Option.some.inj H
   go_enter Try.func47,Try.ntmps47
   go_wp2_with (first|((with_reducible refine gate_callee (f:=63) rfl ?_);refine goesL_ (some 8) rfl rfl Try.func63 (by kernel_rfl) rfl #[.int .i64 a0] rfl tl ?_;(with_reducible refine(cmp_isNaN_int.calls a0 false _ A3.out).mono ?_);rintro e w' ⟨rfl,⟨nd,rfl⟩⟩;refine⟨_,rfl,?_⟩)|((with_reducible refine gate_callee (f:=63) rfl ?_);refine goesL_ (some 10) rfl rfl Try.func63 (by kernel_rfl) rfl #[.int .i64 a1] rfl tl ?_;(with_reducible refine(cmp_isNaN_int.calls a1 true _ A4.out).mono ?_);rintro e w' ⟨rfl,⟨nd,rfl⟩⟩;refine⟨_,rfl,?_⟩))
   go_ret
   exact⟨by first|rfl|(simp;done)|(simp [*];done),by repeat(first|exact Drawn0.refl _|apply Drawn0.step)⟩
  ·replace c7:=Bool.eq_false_iff.mpr c7
   subst c7
   replace H:=(if_neg Bool.false_ne_true).symm.trans H
   rcases itc H with⟨c8,H⟩|⟨c8,H⟩
   ·have c8b0:=decide_eq_true c8
    clear c8
    obtain rfl:=Option.some.inj H
    go_enter Try.func47,Try.ntmps47
    go_wp2_with (first|((with_reducible refine gate_callee (f:=63) rfl ?_);refine goesL_ (some 8) rfl rfl Try.func63 (by kernel_rfl) rfl #[.int .i64 a0] rfl tl ?_;(with_reducible refine(cmp_isNaN_int.calls a0 false _ A3.out).mono ?_);rintro e w' ⟨rfl,⟨nd,rfl⟩⟩;refine⟨_,rfl,?_⟩)|((with_reducible refine gate_callee (f:=63) rfl ?_);refine goesL_ (some 10) rfl rfl Try.func63 (by kernel_rfl) rfl #[.int .i64 a1] rfl tl ?_;(with_reducible refine(cmp_isNaN_int.calls a1 false _ A4.out).mono ?_);rintro e w' ⟨rfl,⟨nd,rfl⟩⟩;refine⟨_,rfl,?_⟩))
    go_ret
    exact⟨by first|rfl|(simp;done)|(simp [*];done),by repeat(first|exact Drawn0.refl _|apply Drawn0.step)⟩
   ·have c8b0:=decide_eq_false c8
    clear c8
    rcases itc H with⟨c9,H⟩|⟨c9,H⟩
    ·have c9b0:decide (a1<a0)=true:=decide_eq_true c9
     clear c9
     obtain rfl:=Option.some.inj H
     go_enter Try.func47,Try.ntmps47
     go_wp2_with (first|((with_reducible refine gate_callee (f:=63) rfl ?_);refine goesL_ (some 8) rfl rfl Try.func63 (by kernel_rfl) rfl #[.int .i64 a0] rfl tl ?_;(with_reducible refine(cmp_isNaN_int.calls a0 false _ A3.out).mono ?_);rintro e w' ⟨rfl,⟨nd,rfl⟩⟩;refine⟨_,rfl,?_⟩)|((with_reducible refine gate_callee (f:=63) rfl ?_);refine goesL_ (some 10) rfl rfl Try.func63 (by kernel_rfl) rfl #[.int .i64 a1] rfl tl ?_;(with_reducible refine(cmp_isNaN_int.calls a1 false _ A4.out).mono ?_);rintro e w' ⟨rfl,⟨nd,rfl⟩⟩;refine⟨_,rfl,?_⟩))
     go_ret
     exact⟨by first|rfl|(simp;done)|(simp [*];done),by repeat(first|exact Drawn0.refl _|apply Drawn0.step)⟩
    ·have c9b0:decide (a1<a0)=false:=decide_eq_false c9
     clear c9
     obtain rfl:=Option.some.inj H
     go_enter Try.func47,Try.ntmps47
     go_wp2_with (first|((with_reducible refine gate_callee (f:=63) rfl ?_);refine goesL_ (some 8) rfl rfl Try.func63 (by kernel_rfl) rfl #[.int .i64 a0] rfl tl ?_;(with_reducible refine(cmp_isNaN_int.calls a0 false _ A3.out).mono ?_);rintro e w' ⟨rfl,⟨nd,rfl⟩⟩;refine⟨_,rfl,?_⟩)|((with_reducible refine gate_callee (f:=63) rfl ?_);refine goesL_ (some 10) rfl rfl Try.func63 (by kernel_rfl) rfl #[.int .i64 a1] rfl tl ?_;(with_reducible refine(cmp_isNaN_int.calls a1 false _ A4.out).mono ?_);rintro e w' ⟨rfl,⟨nd,rfl⟩⟩;refine⟨_,rfl,?_⟩))
     go_ret
     exact⟨by first|rfl|(simp;done)|(simp [*];done),by repeat(first|exact Drawn0.refl _|apply Drawn0.step)⟩

def slices_Compare_int_int.l0:Nat→List Int→List Int→List Int→Int→Int→Option (Int)
 | 0,_,_,_,_,_=>none
 | k+1,x0,x1,x9,x10,x11=>if x11<x10 then(if 0≤x11 then(if x11<(x9.length:Int) then(if x11≥(x1.length:Int) then(some 1) else(if x11<(x1.length:Int) then((cmp_Compare_int.f (rd x9 x11) (rd x1 x11)).bind fun t179=>(if t179=0 then(slices_Compare_int_int.l0 k x0 x1 x9 x10 (wrap64 (x11+1))) else(some t179))) else(none))) else(none)) else(none)) else(if(x0.length:Int)<(x1.length:Int) then(some (-1)) else(some 0))
def slices_Compare_int_int.f (k:Nat) (l0:List Int) (l1:List Int):Option (Int):=slices_Compare_int_int.l0 k l0 l1 l0 (l0.length:Int) 0
set_option maxHeartbeats 8000000 in
set_option maxRecDepth 100000 in
theorem slices_Compare_int_int.calls (k:Nat) (A0:Option Addr) (c0:Nat) (l0:List Int) (A1:Option Addr) (c1:Nat) (l1:List Int) (r:Int) (w:World) (hr0:Kd.C (Kd.int .i64) w A0 l0.length l0) (hc0:l0.length≤c0) (hr1:Kd.C (Kd.int .i64) w A1 l1.length l1) (hc1:l1.length≤c1) (h:slices_Compare_int_int.f k l0 l1=some r) :
  Calls Try.prog 32 #[.slice A0 l0.length c0,.slice A1 l1.length c1] w fun e w'=>e = .returned (.int .i64 r)∧Drawn0 w w':=by
 have HR0:=am hr0
 have HC0:=am hc0
 clear hr0 hc0
 have HR1:=am hr1
 have HC1:=am hc1
 clear hr1 hc1
 have H:(slices_Compare_int_int.l0 k l0 l1 l0 (l0.length:Int) 0)=some r:=h
 clear h
 have H':=am H
 clear H
 go_enter Try.func32,Try.ntmps32
 go_wp2
 go_loopg [11] k (fun kq v11 w'=>∃(x11_1:Int),v11 = .int .i64 x11_1∧Aside0 (slices_Compare_int_int.l0 kq l0 l1 l0 (l0.length:Int) x11_1=some r)∧Aside0 (kq≤k)∧Drawn0 w w')
 case atStart=>exact⟨(0),fin2,H',⟨Nat.le_refl _⟩,by repeat(first|exact Drawn0.refl _|apply Drawn0.step)⟩
 case round =>
  clear H'
  obtain⟨x11_1,rfl,HA,HK1,⟨m1,rfl⟩⟩:=hrel
  cases gk with
  | zero=>exact absurd HA.out (by simp [slices_Compare_int_int.l0])
  | succ k1 =>
   have H:=HA.out
   clear HA
   simp only[slices_Compare_int_int.l0] at H
   rcases itc H with⟨c3,H⟩|⟨c3,H⟩
   ·have c3b0:=decide_eq_true c3
    clear c3
    obtain⟨c4b0,H⟩:=ifb H
    obtain⟨c5b0,H⟩:=ifb H
    rcases itc H with⟨c6,H⟩|⟨c6,H⟩
    ·have c6b0:decide ((l1.length:Int)≤x11_1)=true:=decide_eq_true c6
     clear c6
     obtain rfl:=Option.some.inj H
     have p177:0≤(x11_1:Int):=od
     have q177:x11_1<(l0.length:Int):=od
     obtain⟨ad177,e177,hx177_0⟩:=Kd.at_int HR0.out x11_1 p177 q177
     cases e177
     replace p177:=eq_true p177
     replace q177:=eq_true q177
     go_wp2
     go_ret
     exact⟨by first|rfl|(simp;done)|(simp [*];done),by repeat(first|exact Drawn0.refl _|apply Drawn0.step)⟩
    ·have c6b0:decide ((l1.length:Int)≤x11_1)=false:=decide_eq_false c6
     clear c6
     obtain⟨c7b0,H⟩:=ifb H
     obtain⟨t179,A8,H⟩:=bnd H
     rcases itc H with⟨c9,H⟩|⟨c9,H⟩
     ·have c9b0:(t179 == 0)=true:=beq_iff_eq.mpr c9
      have c9b1:(t179 != 0)=false:=bne_eq_false_iff_eq.mpr c9
      clear c9
      have H':=am H
      clear H
      have p177:0≤(x11_1:Int):=od
      have q177:x11_1<(l0.length:Int):=od
      obtain⟨ad177,e177,hx177_0⟩:=Kd.at_int HR0.out x11_1 p177 q177
      cases e177
      replace p177:=eq_true p177
      replace q177:=eq_true q177
      have p178:0≤(x11_1:Int):=od
      have q178:x11_1<(l1.length:Int):=od
      obtain⟨ad178,e178,hx178_0⟩:=Kd.at_int HR1.out x11_1 p178 q178
      cases e178
      replace p178:=eq_true p178
      replace q178:=eq_true q178
      go_wp2_with (first|((with_reducible refine gate_callee (f:=47) rfl ?_);refine goesL_ (some 26) rfl rfl Try.func47 (by kernel_rfl) rfl #[.int .i64 (rd l0 x11_1),.int .i64 (rd l1 x11_1)] rfl tl ?_;(with_reducible refine(cmp_Compare_int.calls (rd l0 x11_1) (rd l1 x11_1) t179 _ A8.out).mono ?_);rintro e w' ⟨rfl,⟨nd,rfl⟩⟩;refine⟨_,rfl,?_⟩))
      go_roundg k1
      case measure=>have:=HK1.out;omega
      case rel=>exact⟨(wrap64 (x11_1+1)),fin2,H',⟨by have:=HK1.out;omega⟩,by repeat(first|exact Drawn0.refl _|apply Drawn0.step)⟩
     ·have c9b0:(t179 == 0)=false:=beq_eq_false_iff_ne.mpr c9
      have c9b1:(t179 != 0)=true:=bne_iff_ne.mpr c9
      obtain rfl:=Option.some.inj H
      have p177:0≤(x11_1:Int):=od
      have q177:x11_1<(l0.length:Int):=od
      obtain⟨ad177,e177,hx177_0⟩:=Kd.at_int HR0.out x11_1 p177 q177
      cases e177
      replace p177:=eq_true p177
      replace q177:=eq_true q177
      have p178:0≤(x11_1:Int):=od
      have q178:x11_1<(l1.length:Int):=od
      obtain⟨ad178,e178,hx178_0⟩:=Kd.at_int HR1.out x11_1 p178 q178
      cases e178
      replace p178:=eq_true p178
      replace q178:=eq_true q178
      go_wp2_with (first|((with_reducible refine gate_callee (f:=47) rfl ?_);refine goesL_ (some 26) rfl rfl Try.func47 (by kernel_rfl) rfl #[.int .i64 (rd l0 x11_1),.int .i64 (rd l1 x11_1)] rfl tl ?_;(with_reducible refine(cmp_Compare_int.calls (rd l0 x11_1) (rd l1 x11_1) t179 _ A8.out).mono ?_);rintro e w' ⟨rfl,⟨nd,rfl⟩⟩;refine⟨_,rfl,?_⟩))
      go_ret
      exact⟨by first|rfl|(simp;done)|(simp [*];done),by repeat(first|exact Drawn0.refl _|apply Drawn0.step)⟩
   ·have c3b0:=decide_eq_false c3
    clear c3
    rcases itc H with⟨c10,H⟩|⟨c10,H⟩
    ·have c10b0:=decide_eq_true c10
     have c10b1:decide (l0.length<l1.length)=true:=decide_eq_true (Int.ofNat_lt.mp c10)
     clear c10
     obtain rfl:=Option.some.inj H
     go_wp2
     go_ret
     exact⟨by first|rfl|(simp;done)|(simp [*];done),by repeat(first|exact Drawn0.refl _|apply Drawn0.step)⟩
    ·have c10b0:=decide_eq_false c10
     have c10b1:decide (l0.length<l1.length)=false:=decide_eq_false (fun h=>c10 (Int.ofNat_lt.mpr h))
     clear c10
     obtain rfl:=Option.some.inj H
     go_wp2
     go_ret
     exact⟨by first|rfl|(simp;done)|(simp [*];done),by repeat(first|exact Drawn0.refl _|apply Drawn0.step)⟩

namespace srt
open Go.Shelf Go.Sort Go.Lib Go.Proofs
open Go.Shelf in
shelf_lay_g SlLaysF.n6 Slsf 6 at Try 31 as layd
/-- The order of rows of numbers: the first place where they differ tells. -/
def lexC:List Int→List Int→Int
 | [],[]=>0
 | [],_ :: _ => -1
 | _ :: _,[]=>1
 | x :: xs,y :: ys=>if x<y then -1 else if y<x then 1 else lexC xs ys
def lexLt (x y:List Int):Bool:=decide (lexC x y<0)
def lexLe (x y:List Int):Bool:=!lexLt y x
theorem lex_self:∀ x:List Int,lexC x x=0
 | []=>rfl
 | x :: xs=>by rw[lexC,if_neg (by omega),if_neg (by omega)];exact lex_self xs
theorem lex_flip:∀ x y:List Int,lexC x y = - lexC y x
 | [],[]=>rfl
 | [],_ :: _=>rfl
 | _ :: _,[]=>rfl
 | x :: xs,y :: ys=>by
  rw[lexC,lexC]
  by_cases h1:x<y
  ·rw[if_pos h1,if_neg (by omega),if_pos h1]
  ·by_cases h2:y<x
   ·rw[if_neg h1,if_pos h2,if_pos h2];rfl
   ·rw[if_neg h1,if_neg h2,if_neg h2,if_neg h1];exact lex_flip xs ys
theorem lex_zero:∀ x y:List Int,lexC x y=0→x=y
 | [],[],_=>rfl
 | [],_ :: _,h=>by cases h
 | _ :: _,[],h=>by cases h
 | x :: xs,y :: ys,h=>by
  rw[lexC] at h
  by_cases h1:x<y
  ·rw[if_pos h1] at h;omega
  ·by_cases h2:y<x
   ·rw[if_neg h1,if_pos h2] at h;omega
   ·rw[if_neg h1,if_neg h2] at h
    rw[lex_zero xs ys h,show x=y by omega]
theorem lex_trans:∀ x y z:List Int,lexC x y≤0→lexC y z≤0→lexC x z≤0∧(lexC x y<0∨lexC y z<0→lexC x z<0)
 | [],_,[],h1,h2=>by
  cases ‹List Int› with
  | nil=>exact⟨Int.le_refl _,fun h=>by simp [lexC] at h⟩
  | cons y ys=>simp [lexC] at h2
 | [],_,_ :: _,_,_=>⟨by simp [lexC],fun _=>by simp [lexC]⟩
 | _ :: _,[],_,h,_=>by simp [lexC] at h
 | _ :: _,_ :: _,[],_,h=>by simp [lexC] at h
 | x :: xs,y :: ys,z :: zs,h1,h2=>by
  have ih:=lex_trans xs ys zs
  simp only[lexC] at h1 h2 ⊢
  by_cases a1:x<y
  ·by_cases b1:y<z
   ·rw[if_pos (by omega)];exact⟨by decide,fun _=>by decide⟩
   ·by_cases b2:z<y
    ·rw[if_neg b1,if_pos b2] at h2;omega
    ·rw[if_pos (by omega)];exact⟨by decide,fun _=>by decide⟩
  ·by_cases a2:y<x
   ·rw[if_neg a1,if_pos a2] at h1;omega
   ·rw[if_neg a1,if_neg a2] at h1 ⊢
    by_cases b1:y<z
    ·rw[if_pos (by omega)];exact⟨by decide,fun _=>by decide⟩
    ·by_cases b2:z<y
     ·rw[if_neg b1,if_pos b2] at h2;omega
     ·rw[if_neg b1,if_neg b2] at h2 ⊢
      rw[if_neg (by omega),if_neg (by omega)]
      exact ih h1 h2
theorem swo:SWO lexLt where
 irrefl x:=by unfold lexLt;rw[lex_self];rfl
 trans x y z h1 h2:=by
  unfold lexLt at *
  have h1:=of_decide_eq_true h1
  have h2:=of_decide_eq_true h2
  exact decide_eq_true ((lex_trans x y z (by omega) (by omega)).2 (.inl h1))
 ntrans x y z h1 h2:=by
  unfold lexLt at *
  have h1:=of_decide_eq_false h1
  have h2:=of_decide_eq_false h2
  have f1:=lex_flip x y
  have f2:=lex_flip y z
  have f3:=lex_flip x z
  have:=(lex_trans z y x (by omega) (by omega)).1
  exact decide_eq_false (by omega)
theorem tot (x y:List Int) (h1:lexLt x y=false) (h2:lexLt y x=false):x=y:=by
 unfold lexLt at *
 have h1:=of_decide_eq_false h1
 have h2:=of_decide_eq_false h2
 have f1:=lex_flip x y
 exact lex_zero x y (by omega)
/-- Two sorted permutations of one row are one. -/
theorem uniq:∀ {a b:List (List Int)},a.Perm b→a.Pairwise (fun x y=>lexLt y x=false)→b.Pairwise (fun x y=>lexLt y x=false)→a=b:=by
 intro a b hp ha hb
 exact List.Perm.eq_of_pairwise (le:=fun x y=>lexLt y x=false) (fun x y _ _ h1 h2=>tot x y h2 h1) ha hb hp
theorem le_trans (a b c:List Int) (h1:lexLe a b=true) (h2:lexLe b c=true):lexLe a c=true:=by
 unfold lexLe at *
 rw[Bool.not_eq_true'] at *
 exact swo.ntrans c b a h2 h1
theorem le_total (a b:List Int):(lexLe a b||lexLe b a)=true:=by
 unfold lexLe
 cases h1:lexLt b a with
 | false=>rfl
 | true=>cases h2:lexLt a b with
  | false=>rfl
  | true=>have:=swo.trans b a b h1 h2;rw[swo.irrefl] at this;cases this
end srt
def slices_SortFunc_int_int.f (l0:List (List Int)):Option (List (List Int)):=if l0.length<4611686018427387904∧∀ x∈l0,x.length<4611686018427387904 then some (l0.mergeSort srt.lexLe) else none
namespace srt
open Go.Shelf Go.Sort Go.Lib Go.Proofs
section
variable {α:Type} [Inhabited α] {enc:α→Value}
theorem holds_of_block {w:World} {g:Nat} {cur:Array Value} {e:TypeId} {ss:List α} (hb:w.heap[g]?=some (.cells cur e (0,0))) (ht:cur.toList.take ss.length=ss.map enc):Holds enc w g 0 ss.toArray:=by
 intro j hj
 have hj':j<ss.length:=by simpa using hj
 refine⟨?_,by simp [World.frozen?,hb]⟩
 have h1:(cur.toList.take ss.length)[j]?=(ss.map enc)[j]?:=by rw[ht]
 rw[List.getElem?_take_of_lt hj'] at h1
 simp only[World.cell?,hb,Nat.zero_add]
 simp only[Option.isSome_none,Bool.false_eq_true,if_false]
 rw[← Array.getElem?_toList,h1]
 simp [hj']
theorem heap_sorted {w:World} {g n:Nat} {os:Array Obj} {cur:Array Value} {e:TypeId} {fr:Nat×Nat} (d:Array α) (hb:w.heap[g]?=some (.cells cur e fr)) :
  (sortWorld enc w g 0 n d os).heap[g]?=some (.cells (putCells enc 0 d cur) e fr):=by
 have hg:g<w.heap.size:=(Array.getElem?_eq_some_iff.1 hb).1
 unfold sortWorld
 rw[heap_grow_old _ _ (by simpa using hg)]
 simp [putRow,mapBlock,Sort.ahead,Array.getElem?_modify,hb,onCells]
theorem grownBy_sorted {w:World} {g n:Nat} {os:Array Obj} (d:Array α):w.grownBy (sortWorld enc w g 0 n d os) (some g):=by
 refine⟨rfl,rfl,rfl,by simp [sortWorld],fun k hk hne=>?_⟩
 unfold sortWorld
 rw[heap_grow_old _ _ (by simpa using hk)]
 have:g≠k:=fun e=>hne (by rw[e])
 simp [putRow,mapBlock,Sort.ahead,Array.getElem?_modify,this]
theorem take_putCells (cur:Array Value) (ts:List α) (h:ts.length≤cur.size):(putCells enc 0 ts.toArray cur).toList.take ts.length=ts.map enc:=by
 apply List.ext_getElem?
 intro j
 by_cases hj:j<ts.length
 ·rw[List.getElem?_take_of_lt hj,Array.getElem?_toList]
  simp [putCells,hj,show j<cur.size by omega]
 ·rw[List.getElem?_take_eq_none (by omega),List.getElem?_eq_none (by simp;omega)]
theorem ownsRow_sorted {w:World} {base g cap n:Nat} {e:TypeId} {os:Array Obj} {cur:Array Value} {m:Nat} {ts:List α} (hl:ts.length=m) (hbase:base≤g) (hb:w.heap[g]?=some (.cells cur e (0,0)))
  (h1:m≤cap) (h2:cap≤maxLen) (h3:cur.size=cap*1) :
  (sortWorld enc w g 0 n ts.toArray os).ownsRow base e 1 (.slice (some ⟨g,0,none⟩) m cap) m (ts.map enc) :=
 ⟨by simp [hl],.inr ⟨g,cap,_,rfl,hbase,heap_sorted _ hb,h1,h2,by simp [putCells,h3],by rw[Nat.mul_one,← hl];exact take_putCells cur ts (by omega)⟩⟩
end
/-- A row's header with what it holds, whose it is, and that it is the call's own. -/
structure RowV (w:World) (base:Nat) (ok:Nat→Prop) (f:Nat→Nat) where
 v:Value
 l:List Int
 t:Nat
 h:Kd.R (Kd.int .i64) 3 w base (fun k=>ok k∧f k=t) v l
 s:l.length<4611686018427387904
instance (w:World) (base:Nat) (ok:Nat→Prop) (f:Nat→Nat):Inhabited (RowV w base ok f):=⟨⟨.slice none 0 0,[],0,Kd.R_nil _ _ _ _ _,by decide⟩⟩
theorem rows_of {w:World} {base:Nat} {ok:Nat→Prop} {f:Nat→Nat}:∀ {ps:List (List Int)} {cs:List Value} {n:Nat},Reps ((Kd.tag f (Kd.slice 3 (Kd.int .i64))).M w base ok) 1 (ps.zipIdx n) cs→(∀ x∈ps,x.length<4611686018427387904)→∃ d:List (RowV w base ok f),d.map (·.l)=ps∧d.map (·.v)=cs∧d.map (·.t)=List.range' n ps.length
 | [],cs,n,h,_=>⟨[],rfl,(List.eq_nil_of_length_eq_zero (by rw[h.1];rfl)).symm,rfl⟩
 | p :: ps,[],n,h,_=>by have:=h.1;simp at this
 | p :: ps,c :: cs,n,h,hs=>by
  obtain⟨v,hv,hR⟩:=h.2 0 (p,n) rfl
  have hv':[c]=[v]:=hv
  obtain⟨d,h1,h2,h3⟩:=rows_of (ps:=ps) (cs:=cs) (n:=n+1) ⟨by have:=h.1;simp at this;simp;omega,fun j q hq=>by
   have:=h.2 (j+1) q (by rw[List.zipIdx_cons,List.getElem?_cons_succ];exact hq)
   rw[Nat.mul_one] at this ⊢
   exact this⟩ (fun x hx=>hs x (List.mem_cons_of_mem _ hx))
  refine⟨⟨v,p,n,hR,hs p List.mem_cons_self⟩ :: d,by rw[List.map_cons,h1],?_,?_⟩
  ·rw[List.map_cons,h2,List.singleton_inj.1 hv']
  ·rw[List.map_cons,h3,List.length_cons,List.range'_succ]
theorem row_one {w:World} {base:Nat} {ok:Nat→Prop} {f:Nat→Nat}:OneCell (fun x:RowV w base ok f=>x.v):=fun x=>by
 obtain⟨A,c,e⟩:=Kd.R_slice x.h
 show(x.v).oneCell'=true
 rw[e]
 rfl
end srt
namespace srt
theorem cmp_one (x y:Int):cmp_Compare_int.f x y=some (if x<y then -1 else if y<x then 1 else 0):=by
 unfold cmp_Compare_int.f cmp_isNaN_int.f
 simp
 split
 ·rfl
 ·split<;>rfl
theorem cmp_loop (x y:List Int) (hx:x.length<4611686018427387904):∀ n i:Nat,x.length - i=n→i≤x.length→∃ k,slices_Compare_int_int.l0 k x y x (x.length:Int) (i:Int)=some (lexC (x.drop i) (y.drop i)):=by
 intro n
 induction n with
 | zero =>
  intro i h1 h2
  have e:x.drop i=[]:=List.drop_eq_nil_of_le (by omega)
  refine⟨1,?_⟩
  simp only[slices_Compare_int_int.l0]
  rw[if_neg (by omega),e]
  by_cases c:(x.length:Int)<(y.length:Int)
  ·rw[if_pos c,List.drop_eq_getElem_cons (show i<y.length by omega)]
   rfl
  ·rw[if_neg c,List.drop_eq_nil_of_le (show y.length≤i by omega)]
   rfl
 | succ n ih =>
  intro i h1 h2
  have hi:i<x.length:=by omega
  obtain⟨k,hk⟩:=ih (i+1) (by omega) (by omega)
  have e1:wrap64 ((i:Int)+1)=((i+1:Nat):Int):=by unfold wrap64;omega
  have er:rd x (i:Int)=x[i]:=by unfold rd;rw[Int.toNat_natCast,List.getD_eq_getElem?_getD,List.getElem?_eq_getElem hi];rfl
  refine⟨k+1,?_⟩
  simp only[slices_Compare_int_int.l0,e1,cmp_one,Option.bind_some]
  rw[if_pos (by omega),if_pos (by omega),if_pos (by omega),List.drop_eq_getElem_cons hi]
  by_cases c:(i:Int)≥(y.length:Int)
  ·rw[if_pos c,List.drop_eq_nil_of_le (show y.length≤i by omega)]
   rfl
  ·have hy:i<y.length:=by omega
   have ey:rd y (i:Int)=y[i]:=by unfold rd;rw[Int.toNat_natCast,List.getD_eq_getElem?_getD,List.getElem?_eq_getElem hy];rfl
   rw[if_neg c,if_pos (by omega),List.drop_eq_getElem_cons hy,lexC,er,ey]
   by_cases d1:x[i]<y[i]
   ·rw[if_pos d1,if_pos d1,if_neg (by omega)]
   ·by_cases d2:y[i]<x[i]
    ·rw[if_neg d1,if_pos d2,if_neg d1,if_pos d2,if_neg (by omega)]
    ·rw[if_neg d1,if_neg d2,if_neg d1,if_neg d2,if_pos rfl,hk]
theorem cmp_ev (x y:List Int) (hx:x.length<4611686018427387904):∃ k,slices_Compare_int_int.f k x y=some (lexC x y):=cmp_loop x y hx _ 0 rfl (Nat.zero_le _)
end srt
open Go.Sort Go.Proofs in
set_option maxHeartbeats 8000000 in
set_option maxRecDepth 100000 in
theorem slices_SortFunc_int_int.calls (P0_:Nat→Prop) (u9000_:Value) (l0:List (List Int)) (r:List (List Int)) (w0 w:World) (hB:Below w0.heap.size w0 w) (ho0:Kd.S (Kd.slice 3 (Kd.int .i64)) 22 w w0.heap.size P0_ u9000_ l0) (h:slices_SortFunc_int_int.f l0=some r) :
  Calls Try.prog 31 #[u9000_,.func (.func 32) #[] #[]] w fun e w'=>e = .returned (.tuple #[])∧Kd.S (Kd.slice 3 (Kd.int .i64)) 22 w' w0.heap.size (fun k_=>(P0_ k_∨w.heap.size≤k_)) u9000_ r∧Below w0.heap.size w0 w'∧Kept w w' (fun k_=>P0_ k_):=by
 have hlt:l0.length<4611686018427387904∧∀ x∈l0,x.length<4611686018427387904:=by
  by_cases c:l0.length<4611686018427387904∧∀ x∈l0,x.length<4611686018427387904
  ·exact c
  ·rw[slices_SortFunc_int_int.f,if_neg c] at h;cases h
 rw[slices_SortFunc_int_int.f,if_pos hlt] at h
 obtain rfl:=Option.some.inj h
 clear h
 obtain⟨f,hok,inner,hown,hreps⟩:=ho0
 rw[List.length_zipIdx] at hown
 rcases hown.2 with⟨rfl,hn⟩|⟨g,cap,cur,rfl,hbase,hb,h1,h2,h3,h4⟩
 ·obtain rfl:l0=[]:=List.eq_nil_of_length_eq_zero hn
  have hS:=AnyF.slices_SortFunc_none (P:=Try.prog) (ρ:=srt.layd_ren) { srt.layd with } none 0 (.func (.func 32) #[] #[]) w
  change Calls Try.prog 31 _ _ _ at hS
  refine hS.mono ?_
  rintro e w' ⟨rfl,rfl⟩
  rw[show([]:List (List Int)).mergeSort srt.lexLe=[] from List.mergeSort_nil]
  exact⟨rfl,Kd.S_nil _ _ _ _ _,hB,Kept.refl _ _⟩
 ·have hg:g<w.heap.size:=(Array.getElem?_eq_some_iff.1 hb).1
  have hgo:(Value.slice (some ⟨g,0,none⟩) l0.length cap).ownBlock=some g:=by simp [Value.ownBlock]
  rw[hgo] at hreps
  obtain⟨d,hd1,hd2,hd3⟩:=srt.rows_of (w:=w) (base:=w0.heap.size) (ok:=fun k=>P0_ k∧some k≠some g) (f:=f) (n:=0) hreps hlt.2
  have hdl:d.length=l0.length:=by rw[← hd1,List.length_map]
  have hH:Holds (fun x:srt.RowV w w0.heap.size (fun k=>P0_ k∧some k≠some g) f=>x.v) w g 0 d.toArray:=srt.holds_of_block hb (by
   rw[hd2,hdl,← h4]
   exact congrArg (fun n=>List.take n cur.toList) (Nat.mul_one _).symm)
  have hmv:∀(m:Nat) (os:Array Obj) (dk:Array (srt.RowV w w0.heap.size (fun k=>P0_ k∧some k≠some g) f)) (k:Nat),(P0_ k∧some k≠some g)→k<w.heap.size→(sortWorld (fun x=>x.v) w g 0 m dk os).heap[k]?=w.heap[k]?:=fun m os dk k hk hl=>(srt.grownBy_sorted dk).block k hl hk.2
  have hcmp:CmpLays1 Try.prog 32 #[] (fun x:srt.RowV w w0.heap.size (fun k=>P0_ k∧some k≠some g) f=>x.v) (fun x y=>srt.lexC x.l y.l) g 0 d.toArray.size w:=by
   intro m os dk hs x y
   obtain⟨A,c,ex,lx,cx⟩:=Kd.R_reads (Kd.R_step x.h (fun k hk=>hmv m os dk k hk.1))
   obtain⟨A',c',ey,ly,cy⟩:=Kd.R_reads (Kd.R_step y.h (fun k hk=>hmv m os dk k hk.1))
   obtain⟨k,hk⟩:=srt.cmp_ev x.l y.l x.s
   have hc:=slices_Compare_int_int.calls k A c x.l A' c' y.l _ _ cx lx cy ly hk
   show Calls Try.prog 32 (#[x.v,y.v] ++ #[]) _ _
   rw[ex,ey]
   refine hc.mono ?_
   rintro e w' ⟨rfl,⟨n,rfl⟩⟩
   exact⟨rfl,n,#[],by rw[grow_empty]⟩
  have hO:SWO (ltOf (fun x y:srt.RowV w w0.heap.size (fun k=>P0_ k∧some k≠some g) f=>srt.lexC x.l y.l)):=⟨fun x=>srt.swo.irrefl x.l,fun x y z=>srt.swo.trans x.l y.l z.l,fun x y z=>srt.swo.ntrans x.l y.l z.l⟩
  have eg:∀ args w,(callFunc 32 args).run Try.prog w = .ok (.enter 32 args) w:=enters_of Try.func32 (by kernel_rfl) rfl
  have hS:=Any.slices_SortFunc srt.layd (fun x:srt.RowV w w0.heap.size (fun k=>P0_ k∧some k≠some g) f=>x.v) srt.row_one (fun x y=>srt.lexC x.l y.l) hO 32 #[] g 0 cap d.toArray w eg hcmp hH hg (by rw[List.size_toArray,hdl];exact hlt.1)
  change Calls Try.prog 31 _ _ _ at hS
  rw[List.size_toArray,hdl] at hS
  refine hS.mono ?_
  rintro e w' ⟨rfl,d',n,os,hp,hs,rfl⟩
  have hsz:d'.size=l0.length:=by rw[hp.1,List.size_toArray,hdl]
  have hpe:d'.toList.Perm d:=by
   have h0:=hp.2.2
   have q:d.toArray.size=l0.length:=by rw[List.size_toArray,hdl]
   have e1:d'.extract 0 l0.length=d':=by rw[← hsz];exact Array.extract_size
   have e2:d.toArray.extract 0 l0.length=d.toArray:=by rw[← q];exact Array.extract_size
   rw[e1,e2] at h0
   exact h0
  have hr:d'.toList.map (fun x=>x.l)=l0.mergeSort srt.lexLe:=by
   refine srt.uniq ((hpe.map _).trans ?_) ?_ ?_
   ·rw[hd1]
    exact(List.mergeSort_perm _ _).symm
   ·refine List.pairwise_map.2 (List.pairwise_iff_getElem.2 (fun i j hi hj hij=>?_))
    rw[Array.length_toList] at hi hj
    have h0:=hs i j (Nat.zero_le _) hij (by omega)
    rw[getElem!_pos d' i hi,getElem!_pos d' j hj] at h0
    rw[Array.getElem_toList,Array.getElem_toList]
    exact h0
   ·refine(List.pairwise_mergeSort (le:=srt.lexLe) srt.le_trans srt.le_total l0).imp (fun {a b} h=>?_)
    unfold srt.lexLe at h
    simpa using h
  have hl:(l0.mergeSort srt.lexLe).length=l0.length:=List.length_mergeSort _
  have hgr:=srt.grownBy_sorted (enc:=fun x:srt.RowV w w0.heap.size (fun k=>P0_ k∧some k≠some g) f=>x.v) (n:=n) (os:=os) (w:=w) (g:=g) d'
  have hP:P0_ g:=hok g hgo
  have hnd:(d'.toList.map (fun x=>x.t)).Nodup:=by
   rw[(hpe.map (fun x=>x.t)).nodup_iff,hd3]
   exact List.nodup_range'
  refine⟨rfl,⟨fun k=>d'.toList.findIdx (fun x=>x.t == f k),?_,d'.toList.map (fun x=>x.v),?_,?_⟩,?_,?_⟩
  ·intro k hk
   obtain rfl:g=k:=by simpa [Value.ownBlock] using hk
   exact .inl hP
  ·rw[List.length_zipIdx,hl]
   have h0:=srt.ownsRow_sorted (enc:=fun x:srt.RowV w w0.heap.size (fun k=>P0_ k∧some k≠some g) f=>x.v) (n:=n) (os:=os) (base:=w0.heap.size) (m:=l0.length) (ts:=d'.toList) (by rw[Array.length_toList,hsz]) hbase hb h1 h2 h3
   exact h0
  ·refine⟨by rw[List.length_map,Array.length_toList,hsz,List.length_zipIdx,hl];exact(Nat.mul_one _).symm,fun j p hp=>?_⟩
   rw[List.getElem?_zipIdx,← hr,List.getElem?_map,Option.map_map] at hp
   obtain⟨x,hx,rfl⟩:=Option.map_eq_some_iff.1 hp
   refine⟨x.v,?_,?_⟩
   ·show((d'.toList.map (fun x=>x.v)).drop (j*1)).take 1=[x.v]
    rw[Nat.mul_one]
    apply List.ext_getElem?
    intro i
    by_cases hi:i<1
    ·obtain rfl:i=0:=by omega
     rw[List.getElem?_take_of_lt (by omega),List.getElem?_drop,Nat.add_zero,List.getElem?_map,hx]
     rfl
    ·rw[List.getElem?_take_eq_none (by omega),List.getElem?_eq_none (by simp;omega)]
   ·refine Kd.R_mono (Kd.R_step x.h (fun k hk=>hmv n os d' k hk.1)) (fun k hk=>⟨⟨.inl hk.1.1,by rw[hgo];exact hk.1.2⟩,?_⟩)
    obtain⟨hj,ej⟩:=List.getElem?_eq_some_iff.1 hx
    show d'.toList.findIdx (fun x=>x.t == f k)=0+j
    rw[Nat.zero_add,List.findIdx_eq hj,ej,hk.2]
    refine⟨by simp,fun i hi=>?_⟩
    have h0:=List.pairwise_iff_getElem.1 hnd i j (by rw[List.length_map];omega) (by rw[List.length_map];exact hj) hi
    rw[List.getElem_map,List.getElem_map,ej] at h0
    simpa using h0
  ·exact hB.grown hgr hB.size (fun k hk=>by cases hk;exact hbase)
  ·exact Kept.of_grown hgr (Kept.refl _ _) (fun k hk=>by cases hk;exact .inl hP)

end Go.Proofs.Ytdcchnfndhkfaaa.PFnPassesPlays
