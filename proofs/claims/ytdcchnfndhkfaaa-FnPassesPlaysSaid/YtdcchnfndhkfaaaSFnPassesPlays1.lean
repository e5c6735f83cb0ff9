/- Walks of functions that FnPassesPlays reaches. No conditions beyond the arguments' being read. -/
import Derived.Test.YtdcchnfndhkfaaaSFnPassesPlays0
namespace Go.Proofs.Ytdcchnfndhkfaaa.PFnPassesPlays
open Go.RowKit Go.Proofs.YtdcchnfndhkfaaaW.PrintWords Go.Proofs.YtdcchnfndhkfaaaW.PrintLast Go.Proofs.YtdcchnfndhkfaaaW.PrintMore
attribute [local go_sem] max2_int min2_int max_two min_two max_three min_three max_four min_four
set_option linter.unusedVariables false
set_option linter.unusedSimpArgs false

def impl_isPitch.f (a0:Int):Option (Bool):=if a0≥24 then(some (decide (a0≤96))) else(some false)
set_option maxHeartbeats 8000000 in
set_option maxRecDepth 100000 in
theorem impl_isPitch.calls (a0:Int) (r:Bool) (w:World) (h:impl_isPitch.f a0=some r) :
  Calls Try.prog 38 #[.int .i64 a0] w fun e w'=>e = .returned (.bool r)∧Drawn0 w w':=by
 have H:(if a0≥24 then(some (decide (a0≤96))) else(some false))=some r:=h
 clear h
 rcases itc H with⟨c2,H⟩|⟨c2,H⟩
 ·have c2b0:decide (24≤a0)=true:=decide_eq_true c2
  clear c2
  obtain rfl:=Option.some.inj H
  go_enter Try.func38,Try.ntmps38
  go_wp2
  go_ret
  exact⟨by first|rfl|(simp;done)|(simp [*];done),by repeat(first|exact Drawn0.refl _|apply Drawn0.step)⟩
 ·have c2b0:decide (24≤a0)=false:=decide_eq_false c2
  clear c2
  obtain rfl:=Option.some.inj H
  go_enter Try.func38,Try.ntmps38
  go_wp2
  go_ret
  exact⟨by first|rfl|(simp;done)|(simp [*];done),by repeat(first|exact Drawn0.refl _|apply Drawn0.step)⟩

mutual
def impl_IsInstrument.j0:Nat→Bool→List Int→Int→Option (Bool)
 | 0,_,_,_=>none
 | k+1,x24,x102000,x102001=>if x24=true then(some false) else(impl_IsInstrument.l0 k x102000 (x102000.length:Int) 0 x102000 x102001)
def impl_IsInstrument.l0:Nat→List Int→Int→Int→List Int→Int→Option (Bool)
 | 0,_,_,_,_,_=>none
 | k+1,x26,x27,x28,x102000,x102001=>if x28<x27 then(if 0≤x28 then(if x28<(x26.length:Int) then((impl_isPitch.f (rd x26 x28)).bind fun t103=>(if t103=true then(if x28>0 then(if 0≤(wrap64 (x28 - 1)) then(if(wrap64 (x28 - 1))<(x102000.length:Int) then(if(rd x26 x28)≤(rd x102000 (wrap64 (x28 - 1))) then(some false) else(impl_IsInstrument.l0 k x26 x27 (wrap64 (x28+1)) x102000 x102001)) else(none)) else(none)) else(impl_IsInstrument.l0 k x26 x27 (wrap64 (x28+1)) x102000 x102001)) else(some false))) else(none)) else(none)) else(some true)
end
def impl_IsInstrument.f (k:Nat) (l0_0:List Int) (a0_1:Int):Option (Bool):=if(l0_0.length:Int)<1 then(impl_IsInstrument.j0 k true l0_0 a0_1) else(if(l0_0.length:Int)>20 then(impl_IsInstrument.j0 k true l0_0 a0_1) else(if a0_1<1 then(impl_IsInstrument.j0 k true l0_0 a0_1) else(impl_IsInstrument.j0 k (decide (a0_1>20)) l0_0 a0_1)))
set_option maxHeartbeats 8000000 in
set_option maxRecDepth 100000 in
theorem impl_IsInstrument.calls (k:Nat) (A0_0:Option Addr) (c0_0:Nat) (l0_0:List Int) (a0_1:Int) (r:Bool) (w:World) (hr0_0:Kd.C (Kd.int .i64) w A0_0 l0_0.length l0_0) (hc0_0:l0_0.length≤c0_0) (h:impl_IsInstrument.f k l0_0 a0_1=some r) :
  Calls Try.prog 25 #[.agg #[.slice A0_0 l0_0.length c0_0,.int .i64 a0_1]] w fun e w'=>e = .returned (.bool r)∧Below w.heap.size w w':=by
 have hu24:=Try.underlying24
 have HR0_0:=am hr0_0
 have HC0_0:=am hc0_0
 clear hr0_0 hc0_0
 have HB:=am (Below.refl w.heap.size w)
 have H:(if(l0_0.length:Int)<1 then(impl_IsInstrument.j0 k true l0_0 a0_1) else(if(l0_0.length:Int)>20 then(impl_IsInstrument.j0 k true l0_0 a0_1) else(if a0_1<1 then(impl_IsInstrument.j0 k true l0_0 a0_1) else(impl_IsInstrument.j0 k (decide (a0_1>20)) l0_0 a0_1))))=some r:=h
 clear h
 have HC2:=am H
 clear H
 go_enter Try.func25,Try.ntmps25
 go_upto_region 1 with(first|((with_reducible refine gate_dst (N:=1) rfl ?_);(try(refine gate_guard (by rfl) ?_;dsimp only));refine box_event ?hg (N:=1) ?hd (cs := #[.slice A0_0 l0_0.length c0_0,.int .i64 a0_1]) (t:=24) ?hr ?_;(case hd=>rfl);(case hg=>rfl);(case hr=>first|(go_simp;done)|(go_simp;rfl));intro gb101 hg w3 hbox hb;have BK101:=am (hbox);have GW101:=am (ge_ bl hg);have GE101:=am (ge_ bl hg);replace HB:=am (below_step bl hb);clear hb hbox hg))
 (try simp only[Act.put,List.setIfInBounds_toArray,List.set_cons_zero,List.set_cons_succ])
 go_cut [24] (fun v24 wc=>∃(kq:Nat) (x24_1:Bool),v24 = .bool x24_1∧Aside0 (impl_IsInstrument.j0 kq x24_1 l0_0 a0_1=some r)∧Aside0 (kq≤k)∧Aside0 (wc.heap[gb101]?=some (.cells #[(.slice A0_0 l0_0.length c0_0),.int .i64 a0_1] 24 (0,0)))∧Aside0 (Below w.heap.size w wc))
 case first =>
  have H:=HC2.out
  clear HC2
  rcases itc H with⟨c4,H⟩|⟨c4,H⟩
  ·have c4b0:=decide_eq_true c4
   have c4b1:decide (l0_0.length<1)=true:=decide_eq_true (by omega)
   clear c4
   (first|rw[c4b0]|(simp only[i64_w,i32_w];rw[c4b0])|skip)
   have H':=am H
   clear H
   have hcz5_0:=bc BK101.out 0
   have hcz5_1:=bc BK101.out 1
   have hfz5_0:=blk_frozen BK101.out 0
   have hfz5_1:=blk_frozen BK101.out 1
   go_wp2
   go_meet
   case rel=>exact⟨_,(true),fin2,H',⟨by first|omega|exact Nat.le_refl _⟩,⟨bup BK101.out⟩,⟨bl⟩⟩
  ·have c4b0:=decide_eq_false c4
   have c4b1:decide (l0_0.length<1)=false:=decide_eq_false (by omega)
   clear c4
   (first|rw[c4b0]|(simp only[i64_w,i32_w];rw[c4b0])|skip)
   rcases itc H with⟨c6,H⟩|⟨c6,H⟩
   ·have c6b0:decide (20<(l0_0.length:Int))=true:=decide_eq_true c6
    have c6b1:decide (20<l0_0.length)=true:=decide_eq_true (by omega)
    clear c6
    have H':=am H
    clear H
    have hcz7_0:=bc BK101.out 0
    have hcz7_1:=bc BK101.out 1
    have hfz7_0:=blk_frozen BK101.out 0
    have hfz7_1:=blk_frozen BK101.out 1
    go_wp2
    go_meet
    case rel=>exact⟨_,(true),fin2,H',⟨by first|omega|exact Nat.le_refl _⟩,⟨bup BK101.out⟩,⟨bl⟩⟩
   ·have c6b0:decide (20<(l0_0.length:Int))=false:=decide_eq_false c6
    have c6b1:decide (20<l0_0.length)=false:=decide_eq_false (by omega)
    clear c6
    rcases itc H with⟨c8,H⟩|⟨c8,H⟩
    ·have c8b0:=decide_eq_true c8
     clear c8
     have H':=am H
     clear H
     have hcz9_0:=bc BK101.out 0
     have hcz9_1:=bc BK101.out 1
     have hfz9_0:=blk_frozen BK101.out 0
     have hfz9_1:=blk_frozen BK101.out 1
     go_wp2
     go_meet
     case rel=>exact⟨_,(true),fin2,H',⟨by first|omega|exact Nat.le_refl _⟩,⟨bup BK101.out⟩,⟨bl⟩⟩
    ·have c8b0:=decide_eq_false c8
     clear c8
     have H':=am H
     clear H
     have hcz10_0:=bc BK101.out 0
     have hcz10_1:=bc BK101.out 1
     have hfz10_0:=blk_frozen BK101.out 0
     have hfz10_1:=blk_frozen BK101.out 1
     go_wp2
     go_meet
     case rel=>exact⟨_,(decide (a0_1>20)),fin2,H',⟨by first|omega|exact Nat.le_refl _⟩,⟨bup BK101.out⟩,⟨bl⟩⟩
 case rest =>
  clear HC2
  obtain⟨kq,x24_1,rfl,HA,HJ1,BK101,HB⟩:=hcut
  cases kq with
  | zero=>exact absurd HA.out (by simp [impl_IsInstrument.j0])
  | succ kj1 =>
   have H:=HA.out
   clear HA
   simp only[impl_IsInstrument.j0] at H
   by_cases c11:x24_1=true
   ·subst c11
    replace H:=(if_pos rfl).symm.trans H
    obtain rfl:=Option.some.inj H
    go_wp2
    go_ret
    exact⟨fin1,bl⟩
   ·replace c11:=Bool.eq_false_iff.mpr c11
    subst c11
    replace H:=(if_neg Bool.false_ne_true).symm.trans H
    have H':=am H
    clear H
    have hcz12_0:=bc BK101.out 0
    have hcz12_1:=bc BK101.out 1
    have hfz12_0:=blk_frozen BK101.out 0
    have hfz12_1:=blk_frozen BK101.out 1
    go_wp2
    go_loopg [28] kj1 (fun kq v28 w'=>∃(x28_2:Int),v28 = .int .i64 x28_2∧Aside0 (impl_IsInstrument.l0 kq l0_0 (l0_0.length:Int) x28_2 l0_0 a0_1=some r)∧Aside0 (kq≤kj1)∧Aside0 (w'.heap[gb101]?=some (.cells #[(.slice A0_0 l0_0.length c0_0),.int .i64 a0_1] 24 (0,0)))∧Aside0 (Below w.heap.size w w'))
    case atStart=>exact⟨(0),fin2,H',⟨Nat.le_refl _⟩,⟨bup BK101.out⟩,⟨bl⟩⟩
    case round =>
     clear H'
     try clear c11
     try clear hcz12_0
     try clear hcz12_1
     try clear hfz12_0
     try clear hfz12_1
     obtain⟨x28_2,rfl,HA,HK2,BK101,HB⟩:=hrel
     cases gk with
     | zero=>exact absurd HA.out (by simp [impl_IsInstrument.l0])
     | succ k2 =>
      have H:=HA.out
      clear HA
      simp only[impl_IsInstrument.l0] at H
      rcases itc H with⟨c13,H⟩|⟨c13,H⟩
      ·have c13b0:=decide_eq_true c13
       clear c13
       obtain⟨c14b0,H⟩:=ifb H
       obtain⟨c15b0,H⟩:=ifb H
       obtain⟨t103,A16,H⟩:=bnd H
       by_cases c17:t103=true
       ·subst c17
        replace H:=(if_pos rfl).symm.trans H
        rcases itc H with⟨c18,H⟩|⟨c18,H⟩
        ·have c18b0:decide (0<x28_2)=true:=decide_eq_true c18
         clear c18
         obtain⟨ji19,hji19⟩:∃ j_:Int,(wrap64 (x28_2 - 1))=j_:=⟨_,rfl⟩
         replace H:(if 0≤(ji19) then(if(ji19)<(l0_0.length:Int) then(if(rd l0_0 x28_2)≤(rd l0_0 (ji19)) then(some false) else(impl_IsInstrument.l0 k2 l0_0 (l0_0.length:Int) (wrap64 (x28_2+1)) l0_0 a0_1)) else(none)) else(none))=some r:=by first|(rw[hji19] at H;exact H)|(simp only[hji19] at H ⊢;exact H)
         (try rw[hji19] at A16)
         have hji19w:(IntKind.i64.wrap (x28_2 - 1))=ji19:=(i64_w _).trans hji19
         obtain⟨c20b0,H⟩:=ifb H
         obtain⟨c21b0,H⟩:=ifb H
         rcases itc H with⟨c22,H⟩|⟨c22,H⟩
         ·have c22b0:=decide_eq_true c22
          clear c22
          obtain rfl:=Option.some.inj H
          have p102:0≤(x28_2:Int):=od
          have q102:x28_2<(l0_0.length:Int):=od
          obtain⟨ad102,e102,hx102_0⟩:=Kd.at_int HR0_0.out x28_2 p102 q102
          cases e102
          replace hx102_0:=(HB.out.cell (World.block_lt_of_cell? w _ hx102_0)).trans hx102_0
          replace p102:=eq_true p102
          replace q102:=eq_true q102
          go_wp2_with (first|((with_reducible refine gate_callee (f:=38) rfl ?_);refine goesL_ (some 34) rfl rfl Try.func38 (by kernel_rfl) rfl #[.int .i64 (rd l0_0 x28_2)] rfl tl ?_;(with_reducible refine(impl_isPitch.calls (rd l0_0 x28_2) true _ A16.out).mono ?_);rintro e w' ⟨rfl,⟨nd,rfl⟩⟩;refine⟨_,rfl,?_⟩;have hcz23_0:=bc BK101.out 0;have hcz23_1:=bc BK101.out 1;have hfz23_0:=blk_frozen BK101.out 0;have hfz23_1:=blk_frozen BK101.out 1;have p104:0≤((ji19):Int):=od;have q104:(ji19)<(l0_0.length:Int):=od;obtain⟨ad104,e104,hx104_0⟩:=Kd.at_int HR0_0.out (ji19) p104 q104;obtain rfl:ad102=ad104:=(by injection e104);replace hx104_0:=(HB.out.cell (World.block_lt_of_cell? w _ hx104_0)).trans hx104_0;replace p104:=eq_true p104;replace q104:=eq_true q104))
          go_ret
          exact⟨by first|rfl|(simp [errW_none,errW_some]<;>rfl)|(simp only[← hji19];first|rfl|(simp [errW_none,errW_some]<;>rfl))|(simp [*,errW_none,errW_some]<;>rfl),bl⟩
         ·have c22b0:=decide_eq_false c22
          clear c22
          have H':=am H
          clear H
          have p102:0≤(x28_2:Int):=od
          have q102:x28_2<(l0_0.length:Int):=od
          obtain⟨ad102,e102,hx102_0⟩:=Kd.at_int HR0_0.out x28_2 p102 q102
          cases e102
          replace hx102_0:=(HB.out.cell (World.block_lt_of_cell? w _ hx102_0)).trans hx102_0
          replace p102:=eq_true p102
          replace q102:=eq_true q102
          go_wp2_with (first|((with_reducible refine gate_callee (f:=38) rfl ?_);refine goesL_ (some 34) rfl rfl Try.func38 (by kernel_rfl) rfl #[.int .i64 (rd l0_0 x28_2)] rfl tl ?_;(with_reducible refine(impl_isPitch.calls (rd l0_0 x28_2) true _ A16.out).mono ?_);rintro e w' ⟨rfl,⟨nd,rfl⟩⟩;refine⟨_,rfl,?_⟩;have hcz24_0:=bc BK101.out 0;have hcz24_1:=bc BK101.out 1;have hfz24_0:=blk_frozen BK101.out 0;have hfz24_1:=blk_frozen BK101.out 1;have p104:0≤((ji19):Int):=od;have q104:(ji19)<(l0_0.length:Int):=od;obtain⟨ad104,e104,hx104_0⟩:=Kd.at_int HR0_0.out (ji19) p104 q104;obtain rfl:ad102=ad104:=(by injection e104);replace hx104_0:=(HB.out.cell (World.block_lt_of_cell? w _ hx104_0)).trans hx104_0;replace p104:=eq_true p104;replace q104:=eq_true q104))
          go_roundg k2
          case measure=>have:=HJ1.out;have:=HK2.out;omega
          case rel=>exact⟨(wrap64 (x28_2+1)),fin2,H',⟨by have:=HJ1.out;have:=HK2.out;omega⟩,⟨bup BK101.out⟩,⟨bl⟩⟩
        ·have c18b0:decide (0<x28_2)=false:=decide_eq_false c18
         clear c18
         have H':=am H
         clear H
         have p102:0≤(x28_2:Int):=od
         have q102:x28_2<(l0_0.length:Int):=od
         obtain⟨ad102,e102,hx102_0⟩:=Kd.at_int HR0_0.out x28_2 p102 q102
         cases e102
         replace hx102_0:=(HB.out.cell (World.block_lt_of_cell? w _ hx102_0)).trans hx102_0
         replace p102:=eq_true p102
         replace q102:=eq_true q102
         go_wp2_with (first|((with_reducible refine gate_callee (f:=38) rfl ?_);refine goesL_ (some 34) rfl rfl Try.func38 (by kernel_rfl) rfl #[.int .i64 (rd l0_0 x28_2)] rfl tl ?_;(with_reducible refine(impl_isPitch.calls (rd l0_0 x28_2) true _ A16.out).mono ?_);rintro e w' ⟨rfl,⟨nd,rfl⟩⟩;refine⟨_,rfl,?_⟩))
         go_roundg k2
         case measure=>have:=HJ1.out;have:=HK2.out;omega
         case rel=>exact⟨(wrap64 (x28_2+1)),fin2,H',⟨by have:=HJ1.out;have:=HK2.out;omega⟩,⟨bup BK101.out⟩,⟨bl⟩⟩
       ·replace c17:=Bool.eq_false_iff.mpr c17
        subst c17
        replace H:=(if_neg Bool.false_ne_true).symm.trans H
        obtain rfl:=Option.some.inj H
        have p102:0≤(x28_2:Int):=od
        have q102:x28_2<(l0_0.length:Int):=od
        obtain⟨ad102,e102,hx102_0⟩:=Kd.at_int HR0_0.out x28_2 p102 q102
        cases e102
        replace hx102_0:=(HB.out.cell (World.block_lt_of_cell? w _ hx102_0)).trans hx102_0
        replace p102:=eq_true p102
        replace q102:=eq_true q102
        go_wp2_with (first|((with_reducible refine gate_callee (f:=38) rfl ?_);refine goesL_ (some 34) rfl rfl Try.func38 (by kernel_rfl) rfl #[.int .i64 (rd l0_0 x28_2)] rfl tl ?_;(with_reducible refine(impl_isPitch.calls (rd l0_0 x28_2) false _ A16.out).mono ?_);rintro e w' ⟨rfl,⟨nd,rfl⟩⟩;refine⟨_,rfl,?_⟩))
        go_ret
        exact⟨fin1,bl⟩
      ·have c13b0:=decide_eq_false c13
       clear c13
       obtain rfl:=Option.some.inj H
       go_wp2
       go_ret
       exact⟨fin1,bl⟩

def impl_IsNote.f (a0_0:Int) (a0_1:Int) (a0_2:Int):Option (Bool):=if a0_0≥24 then(if a0_0≤96 then(if a0_1≥0 then(if a0_1≤999 then(if a0_2≥1 then(some (decide (a0_2≤99))) else(some false)) else(some false)) else(some false)) else(some false)) else(some false)
set_option maxHeartbeats 8000000 in
set_option maxRecDepth 100000 in
theorem impl_IsNote.calls (a0_0:Int) (a0_1:Int) (a0_2:Int) (r:Bool) (w:World) (h:impl_IsNote.f a0_0 a0_1 a0_2=some r) :
  Calls Try.prog 39 #[.agg #[.int .i64 a0_0,.int .i64 a0_1,.int .i64 a0_2]] w fun e w'=>e = .returned (.bool r)∧Below w.heap.size w w':=by
 have hu35:=Try.underlying35
 have HB:=am (Below.refl w.heap.size w)
 have H:(if a0_0≥24 then(if a0_0≤96 then(if a0_1≥0 then(if a0_1≤999 then(if a0_2≥1 then(some (decide (a0_2≤99))) else(some false)) else(some false)) else(some false)) else(some false)) else(some false))=some r:=h
 clear h
 rcases itc H with⟨c2,H⟩|⟨c2,H⟩
 ·have c2b0:decide (24≤a0_0)=true:=decide_eq_true c2
  clear c2
  rcases itc H with⟨c3,H⟩|⟨c3,H⟩
  ·have c3b0:=decide_eq_true c3
   clear c3
   rcases itc H with⟨c4,H⟩|⟨c4,H⟩
   ·have c4b0:decide (0≤a0_1)=true:=decide_eq_true c4
    clear c4
    rcases itc H with⟨c5,H⟩|⟨c5,H⟩
    ·have c5b0:=decide_eq_true c5
     clear c5
     rcases itc H with⟨c6,H⟩|⟨c6,H⟩
     ·have c6b0:decide (1≤a0_2)=true:=decide_eq_true c6
      clear c6
      obtain rfl:=Option.some.inj H
      go_enter Try.func39,Try.ntmps39
      go_wp2_with (first|((with_reducible refine gate_dst (N:=1) rfl ?_);refine box_event ?hg (N:=1) ?hd (cs := #[.int .i64 a0_0,.int .i64 a0_1,.int .i64 a0_2]) (t:=35) ?hr ?_;(case hd=>rfl);(case hg=>rfl);(case hr=>first|(go_simp;done)|(go_simp;rfl));intro gb105 hg w7 hbox hb;have BK105:=am (hbox);have GW105:=am (ge_ bl hg);have GE105:=am (ge_ bl hg);replace HB:=am (below_step bl hb);clear hb hbox hg;have hcz8_0:=bc BK105.out 0;have hcz8_1:=bc BK105.out 1;have hcz8_2:=bc BK105.out 2;have hfz8_0:=blk_frozen BK105.out 0;have hfz8_1:=blk_frozen BK105.out 1;have hfz8_2:=blk_frozen BK105.out 2))
      go_ret
      exact⟨fin1,bl⟩
     ·have c6b0:decide (1≤a0_2)=false:=decide_eq_false c6
      clear c6
      obtain rfl:=Option.some.inj H
      go_enter Try.func39,Try.ntmps39
      go_wp2_with (first|((with_reducible refine gate_dst (N:=1) rfl ?_);refine box_event ?hg (N:=1) ?hd (cs := #[.int .i64 a0_0,.int .i64 a0_1,.int .i64 a0_2]) (t:=35) ?hr ?_;(case hd=>rfl);(case hg=>rfl);(case hr=>first|(go_simp;done)|(go_simp;rfl));intro gb105 hg w9 hbox hb;have BK105:=am (hbox);have GW105:=am (ge_ bl hg);have GE105:=am (ge_ bl hg);replace HB:=am (below_step bl hb);clear hb hbox hg;have hcz10_0:=bc BK105.out 0;have hcz10_1:=bc BK105.out 1;have hcz10_2:=bc BK105.out 2;have hfz10_0:=blk_frozen BK105.out 0;have hfz10_1:=blk_frozen BK105.out 1;have hfz10_2:=blk_frozen BK105.out 2))
      go_ret
      exact⟨fin1,bl⟩
    ·have c5b0:=decide_eq_false c5
     clear c5
     obtain rfl:=Option.some.inj H
     go_enter Try.func39,Try.ntmps39
     go_wp2_with (first|((with_reducible refine gate_dst (N:=1) rfl ?_);refine box_event ?hg (N:=1) ?hd (cs := #[.int .i64 a0_0,.int .i64 a0_1,.int .i64 a0_2]) (t:=35) ?hr ?_;(case hd=>rfl);(case hg=>rfl);(case hr=>first|(go_simp;done)|(go_simp;rfl));intro gb105 hg w11 hbox hb;have BK105:=am (hbox);have GW105:=am (ge_ bl hg);have GE105:=am (ge_ bl hg);replace HB:=am (below_step bl hb);clear hb hbox hg;have hcz12_0:=bc BK105.out 0;have hcz12_1:=bc BK105.out 1;have hcz12_2:=bc BK105.out 2;have hfz12_0:=blk_frozen BK105.out 0;have hfz12_1:=blk_frozen BK105.out 1;have hfz12_2:=blk_frozen BK105.out 2))
     go_ret
     exact⟨fin1,bl⟩
   ·have c4b0:decide (0≤a0_1)=false:=decide_eq_false c4
    clear c4
    obtain rfl:=Option.some.inj H
    go_enter Try.func39,Try.ntmps39
    go_wp2_with (first|((with_reducible refine gate_dst (N:=1) rfl ?_);refine box_event ?hg (N:=1) ?hd (cs := #[.int .i64 a0_0,.int .i64 a0_1,.int .i64 a0_2]) (t:=35) ?hr ?_;(case hd=>rfl);(case hg=>rfl);(case hr=>first|(go_simp;done)|(go_simp;rfl));intro gb105 hg w13 hbox hb;have BK105:=am (hbox);have GW105:=am (ge_ bl hg);have GE105:=am (ge_ bl hg);replace HB:=am (below_step bl hb);clear hb hbox hg;have hcz14_0:=bc BK105.out 0;have hcz14_1:=bc BK105.out 1;have hcz14_2:=bc BK105.out 2;have hfz14_0:=blk_frozen BK105.out 0;have hfz14_1:=blk_frozen BK105.out 1;have hfz14_2:=blk_frozen BK105.out 2))
    go_ret
    exact⟨fin1,bl⟩
  ·have c3b0:=decide_eq_false c3
   clear c3
   obtain rfl:=Option.some.inj H
   go_enter Try.func39,Try.ntmps39
   go_wp2_with (first|((with_reducible refine gate_dst (N:=1) rfl ?_);refine box_event ?hg (N:=1) ?hd (cs := #[.int .i64 a0_0,.int .i64 a0_1,.int .i64 a0_2]) (t:=35) ?hr ?_;(case hd=>rfl);(case hg=>rfl);(case hr=>first|(go_simp;done)|(go_simp;rfl));intro gb105 hg w15 hbox hb;have BK105:=am (hbox);have GW105:=am (ge_ bl hg);have GE105:=am (ge_ bl hg);replace HB:=am (below_step bl hb);clear hb hbox hg;have hcz16_0:=bc BK105.out 0;have hcz16_1:=bc BK105.out 1;have hcz16_2:=bc BK105.out 2;have hfz16_0:=blk_frozen BK105.out 0;have hfz16_1:=blk_frozen BK105.out 1;have hfz16_2:=blk_frozen BK105.out 2))
   go_ret
   exact⟨fin1,bl⟩
 ·have c2b0:decide (24≤a0_0)=false:=decide_eq_false c2
  clear c2
  obtain rfl:=Option.some.inj H
  go_enter Try.func39,Try.ntmps39
  go_wp2_with (first|((with_reducible refine gate_dst (N:=1) rfl ?_);refine box_event ?hg (N:=1) ?hd (cs := #[.int .i64 a0_0,.int .i64 a0_1,.int .i64 a0_2]) (t:=35) ?hr ?_;(case hd=>rfl);(case hg=>rfl);(case hr=>first|(go_simp;done)|(go_simp;rfl));intro gb105 hg w17 hbox hb;have BK105:=am (hbox);have GW105:=am (ge_ bl hg);have GE105:=am (ge_ bl hg);replace HB:=am (below_step bl hb);clear hb hbox hg;have hcz18_0:=bc BK105.out 0;have hcz18_1:=bc BK105.out 1;have hcz18_2:=bc BK105.out 2;have hfz18_0:=blk_frozen BK105.out 0;have hfz18_1:=blk_frozen BK105.out 1;have hfz18_2:=blk_frozen BK105.out 2))
  go_ret
  exact⟨fin1,bl⟩

def impl_noteLess.f (a0_0:Int) (a0_1:Int) (a0_2:Int) (a1_0:Int) (a1_1:Int) (a1_2:Int):Option (Bool):=if a0_1=a1_1 then(some (decide (a0_0<a1_0))) else(some (decide (a0_1<a1_1)))
set_option maxHeartbeats 8000000 in
set_option maxRecDepth 100000 in
theorem impl_noteLess.calls (a0_0:Int) (a0_1:Int) (a0_2:Int) (a1_0:Int) (a1_1:Int) (a1_2:Int) (r:Bool) (w:World) (h:impl_noteLess.f a0_0 a0_1 a0_2 a1_0 a1_1 a1_2=some r) :
  Calls Try.prog 40 #[.agg #[.int .i64 a0_0,.int .i64 a0_1,.int .i64 a0_2],.agg #[.int .i64 a1_0,.int .i64 a1_1,.int .i64 a1_2]] w fun e w'=>e = .returned (.bool r)∧Below w.heap.size w w':=by
 have hu35:=Try.underlying35
 have HB:=am (Below.refl w.heap.size w)
 have H:(if a0_1=a1_1 then(some (decide (a0_0<a1_0))) else(some (decide (a0_1<a1_1))))=some r:=h
 clear h
 rcases itc H with⟨c3,H⟩|⟨c3,H⟩
 ·have c3b0:(a0_1 == a1_1)=true:=beq_iff_eq.mpr c3
  have c3b1:(a0_1 != a1_1)=false:=bne_eq_false_iff_eq.mpr c3
  clear c3
  obtain rfl:=Option.some.inj H
  go_enter Try.func40,Try.ntmps40
  go_wp2_with (first|((with_reducible refine gate_dst (N:=2) rfl ?_);refine box_event ?hg (N:=2) ?hd (cs := #[.int .i64 a0_0,.int .i64 a0_1,.int .i64 a0_2]) (t:=35) ?hr ?_;(case hd=>rfl);(case hg=>rfl);(case hr=>first|(go_simp;done)|(go_simp;rfl));intro gb106 hg w4 hbox hb;have BK106:=am (hbox);have GW106:=am (ge_ bl hg);have GE106:=am (ge_ bl hg);replace HB:=am (below_step bl hb);clear hb hbox hg)|((with_reducible refine gate_dst (N:=3) rfl ?_);refine box_event ?hg (N:=3) ?hd (cs := #[.int .i64 a1_0,.int .i64 a1_1,.int .i64 a1_2]) (t:=35) ?hr ?_;(case hd=>rfl);(case hg=>rfl);(case hr=>first|(go_simp;done)|(go_simp;rfl));intro gb107 hg w5 hbox hb;have BK107:=am (hbox);have GW107:=am (ge_ bl hg);have GE107:=am (ge_ bl hg);replace HB:=am (below_step bl hb);have NB106_107:=am (nl (bup BK106.out) hg);have NB107_106:=am (ng (bup BK106.out) hg);replace BK106:=am (blk_below (bup BK106.out) hb);clear hb hbox hg;have hnb6:=NB106_107.out;have hnc6:=NB107_106.out;have hcz7_0:=bc BK106.out 0;have hcz7_1:=bc BK106.out 1;have hcz7_2:=bc BK106.out 2;have hfz7_0:=blk_frozen BK106.out 0;have hfz7_1:=blk_frozen BK106.out 1;have hfz7_2:=blk_frozen BK106.out 2;have hcz8_0:=bc BK107.out 0;have hcz8_1:=bc BK107.out 1;have hcz8_2:=bc BK107.out 2;have hfz8_0:=blk_frozen BK107.out 0;have hfz8_1:=blk_frozen BK107.out 1;have hfz8_2:=blk_frozen BK107.out 2))
  go_ret
  exact⟨fin1,bl⟩
 ·have c3b0:(a0_1 == a1_1)=false:=beq_eq_false_iff_ne.mpr c3
  have c3b1:(a0_1 != a1_1)=true:=bne_iff_ne.mpr c3
  obtain rfl:=Option.some.inj H
  go_enter Try.func40,Try.ntmps40
  go_wp2_with (first|((with_reducible refine gate_dst (N:=2) rfl ?_);refine box_event ?hg (N:=2) ?hd (cs := #[.int .i64 a0_0,.int .i64 a0_1,.int .i64 a0_2]) (t:=35) ?hr ?_;(case hd=>rfl);(case hg=>rfl);(case hr=>first|(go_simp;done)|(go_simp;rfl));intro gb106 hg w9 hbox hb;have BK106:=am (hbox);have GW106:=am (ge_ bl hg);have GE106:=am (ge_ bl hg);replace HB:=am (below_step bl hb);clear hb hbox hg)|((with_reducible refine gate_dst (N:=3) rfl ?_);refine box_event ?hg (N:=3) ?hd (cs := #[.int .i64 a1_0,.int .i64 a1_1,.int .i64 a1_2]) (t:=35) ?hr ?_;(case hd=>rfl);(case hg=>rfl);(case hr=>first|(go_simp;done)|(go_simp;rfl));intro gb107 hg w10 hbox hb;have BK107:=am (hbox);have GW107:=am (ge_ bl hg);have GE107:=am (ge_ bl hg);replace HB:=am (below_step bl hb);have NB106_107:=am (nl (bup BK106.out) hg);have NB107_106:=am (ng (bup BK106.out) hg);replace BK106:=am (blk_below (bup BK106.out) hb);clear hb hbox hg;have hnb11:=NB106_107.out;have hnc11:=NB107_106.out;have hcz12_0:=bc BK106.out 0;have hcz12_1:=bc BK106.out 1;have hcz12_2:=bc BK106.out 2;have hfz12_0:=blk_frozen BK106.out 0;have hfz12_1:=blk_frozen BK106.out 1;have hfz12_2:=blk_frozen BK106.out 2;have hcz13_0:=bc BK107.out 0;have hcz13_1:=bc BK107.out 1;have hcz13_2:=bc BK107.out 2;have hfz13_0:=blk_frozen BK107.out 0;have hfz13_1:=blk_frozen BK107.out 1;have hfz13_2:=blk_frozen BK107.out 2))
  go_ret
  exact⟨fin1,bl⟩

def impl_noteEnd.f (a0_0:Int) (a0_1:Int) (a0_2:Int):Option (Int):=some (wrap64 (a0_1+a0_2))
set_option maxHeartbeats 8000000 in
set_option maxRecDepth 100000 in
theorem impl_noteEnd.calls (a0_0:Int) (a0_1:Int) (a0_2:Int) (r:Int) (w:World) (h:impl_noteEnd.f a0_0 a0_1 a0_2=some r) :
  Calls Try.prog 41 #[.agg #[.int .i64 a0_0,.int .i64 a0_1,.int .i64 a0_2]] w fun e w'=>e = .returned (.int .i64 r)∧Below w.heap.size w w':=by
 have hu35:=Try.underlying35
 have HB:=am (Below.refl w.heap.size w)
 have H:(some (wrap64 (a0_1+a0_2)))=some r:=h
 clear h
 obtain rfl:=Option.some.inj H
 go_enter Try.func41,Try.ntmps41
 go_wp2_with (first|((with_reducible refine gate_dst (N:=1) rfl ?_);refine box_event ?hg (N:=1) ?hd (cs := #[.int .i64 a0_0,.int .i64 a0_1,.int .i64 a0_2]) (t:=35) ?hr ?_;(case hd=>rfl);(case hg=>rfl);(case hr=>first|(go_simp;done)|(go_simp;rfl));intro gb108 hg w2 hbox hb;have BK108:=am (hbox);have GW108:=am (ge_ bl hg);have GE108:=am (ge_ bl hg);replace HB:=am (below_step bl hb);clear hb hbox hg;have hcz3_0:=bc BK108.out 0;have hcz3_1:=bc BK108.out 1;have hcz3_2:=bc BK108.out 2;have hfz3_0:=blk_frozen BK108.out 0;have hfz3_1:=blk_frozen BK108.out 1;have hfz3_2:=blk_frozen BK108.out 2))
 go_ret
 exact⟨fin1,bl⟩

end Go.Proofs.Ytdcchnfndhkfaaa.PFnPassesPlays
