/- The walks of functions that FnExactPlaysAsPromised reaches: what they return is what the plain functions of the same names say. Made by a program of this session after the kit's print. No conditions beyond the arguments' being read. -/
import Derived.Test.YtjniaiobnbdhhabSPlaysAsPromised0
namespace Go.Proofs.Ytjniaiobnbdhhab.PFnExactPlaysAsPromised
open Go.RowKit Go.Proofs.YtjniaiobnbdhhabW.PrintWords Go.Proofs.YtjniaiobnbdhhabW.PrintLast Go.Proofs.YtjniaiobnbdhhabW.PrintMore
attribute [local go_sem] max2_int min2_int max_two min_two max_three min_three max_four min_four   -- for this text's walks alone
set_option linter.unusedVariables false
set_option linter.unusedSimpArgs false

/-! ### laws_eqIntS: function 33 -/
def laws_eqIntS.l0:Nat→List Int→List Int→Int→Option (Bool)
 | 0,_,_,_=>none
 | k+1,x0,x1,x5=>if x5<(x0.length:Int) then(if 0≤x5 then(if x5<(x1.length:Int) then(if(rd x0 x5)=(rd x1 x5) then(laws_eqIntS.l0 k x0 x1 (wrap64 (x5+1))) else(some false)) else(none)) else(none)) else(some true)
def laws_eqIntS.f (k:Nat) (l0:List Int) (l1:List Int):Option (Bool):=if(l0.length:Int)=(l1.length:Int) then(laws_eqIntS.l0 k l0 l1 0) else(some false)
set_option maxHeartbeats 8000000 in
set_option maxRecDepth 100000 in
theorem laws_eqIntS.calls (k:Nat) (A0:Option Addr) (c0:Nat) (l0:List Int) (A1:Option Addr) (c1:Nat) (l1:List Int) (r:Bool) (w:World) (hr0:Kd.C (Kd.int .i64) w A0 l0.length l0) (hc0:l0.length≤c0) (hr1:Kd.C (Kd.int .i64) w A1 l1.length l1) (hc1:l1.length≤c1) (h:laws_eqIntS.f k l0 l1=some r) :
  Calls Try.prog 33 #[.slice A0 l0.length c0,.slice A1 l1.length c1] w fun e w'=>e = .returned (.bool r)∧Drawn0 w w':=by
 have HR0:=am hr0
 have HC0:=am hc0
 clear hr0 hc0
 have HR1:=am hr1
 have HC1:=am hc1
 clear hr1 hc1
 have H:(if(l0.length:Int)=(l1.length:Int) then(laws_eqIntS.l0 k l0 l1 0) else(some false))=some r:=h
 clear h
 by_cases c3:(l0.length:Int)=(l1.length:Int)
 ·rw[if_pos c3] at H
  have c3b0:((l0.length:Int) == (l1.length:Int))=true:=beq_iff_eq.mpr c3
  have c3b1:((l0.length:Int) != (l1.length:Int))=false:=bne_eq_false_iff_eq.mpr c3
  have c3b2:(l0.length == l1.length)=true:=by first|simpa using c3|(simp at c3 ⊢;omega)
  clear c3
  have H':=am H
  clear H
  go_enter Try.func33,Try.ntmps33
  go_wp2
  repeat(go_quiet (fail);try go_wp2)
  go_loopg [5] k (fun kq v5 w'=>∃(x5_1:Int),v5 = .int .i64 x5_1∧Aside0 (laws_eqIntS.l0 kq l0 l1 x5_1=some r)∧Aside0 (kq≤k)∧Drawn0 w w')
  case atStart=>exact⟨(0),fin2,H',⟨Nat.le_refl _⟩,by repeat(first|exact Drawn0.refl _|apply Drawn0.step)⟩
  case round =>
   clear H'
   try clear c1
   try clear p2
   try clear c3
   try clear c3b0
   try clear c3b1
   try clear c3b2
   obtain⟨x5_1,rfl,HA,HK1,⟨m1,rfl⟩⟩:=hrel
   cases gk with
   | zero=>exact absurd HA.out (by simp [laws_eqIntS.l0])
   | succ k1 =>
    have H:=HA.out
    clear HA
    simp only[laws_eqIntS.l0] at H
    by_cases c4:x5_1<(l0.length:Int)
    ·rw[if_pos c4] at H
     have c4b0:decide (x5_1<(l0.length:Int))=true:=decide_eq_true c4
     clear c4
     by_cases c5:0≤x5_1
     ·rw[if_pos c5] at H
      have c5b0:decide (0≤x5_1)=true:=decide_eq_true c5
      clear c5
      by_cases c6:x5_1<(l1.length:Int)
      ·rw[if_pos c6] at H
       have c6b0:decide (x5_1<(l1.length:Int))=true:=decide_eq_true c6
       clear c6
       by_cases c7:(rd l0 x5_1)=(rd l1 x5_1)
       ·rw[if_pos c7] at H
        have c7b0:((rd l0 x5_1) == (rd l1 x5_1))=true:=beq_iff_eq.mpr c7
        have c7b1:((rd l0 x5_1) != (rd l1 x5_1))=false:=bne_eq_false_iff_eq.mpr c7
        clear c7
        have H':=am H
        clear H
        have p346:0≤(x5_1:Int):=od
        have q346:x5_1<(l0.length:Int):=od
        obtain⟨ad346,e346,hx346_0⟩:=Kd.at_int HR0.out x5_1 p346 q346
        cases e346
        replace p346:=eq_true p346
        replace q346:=eq_true q346
        have p347:0≤(x5_1:Int):=od
        have q347:x5_1<(l1.length:Int):=od
        obtain⟨ad347,e347,hx347_0⟩:=Kd.at_int HR1.out x5_1 p347 q347
        cases e347
        replace p347:=eq_true p347
        replace q347:=eq_true q347
        go_wp2
        repeat(go_quiet (fail);try go_wp2)
        go_roundg k1
        case measure=>have:=HK1.out;omega
        case rel=>exact⟨(wrap64 (x5_1+1)),fin2,H',⟨by have:=HK1.out;omega⟩,by repeat(first|exact Drawn0.refl _|apply Drawn0.step)⟩
       ·rw[if_neg c7] at H
        have c7b0:((rd l0 x5_1) == (rd l1 x5_1))=false:=beq_eq_false_iff_ne.mpr c7
        have c7b1:((rd l0 x5_1) != (rd l1 x5_1))=true:=bne_iff_ne.mpr c7
        obtain rfl:=Option.some.inj H
        have p346:0≤(x5_1:Int):=od
        have q346:x5_1<(l0.length:Int):=od
        obtain⟨ad346,e346,hx346_0⟩:=Kd.at_int HR0.out x5_1 p346 q346
        cases e346
        replace p346:=eq_true p346
        replace q346:=eq_true q346
        have p347:0≤(x5_1:Int):=od
        have q347:x5_1<(l1.length:Int):=od
        obtain⟨ad347,e347,hx347_0⟩:=Kd.at_int HR1.out x5_1 p347 q347
        cases e347
        replace p347:=eq_true p347
        replace q347:=eq_true q347
        go_wp2
        repeat(go_quiet (fail);try go_wp2)
        go_ret
        exact⟨by first|rfl|(simp;done)|(simp [*];done),by repeat(first|exact Drawn0.refl _|apply Drawn0.step)⟩
      ·rw[if_neg c6] at H
       exact absurd H (by simp)
     ·rw[if_neg c5] at H
      exact absurd H (by simp)
    ·rw[if_neg c4] at H
     have c4b0:decide (x5_1<(l0.length:Int))=false:=decide_eq_false c4
     clear c4
     obtain rfl:=Option.some.inj H
     go_wp2
     repeat(go_quiet (fail);try go_wp2)
     go_ret
     exact⟨by first|rfl|(simp;done)|(simp [*];done),by repeat(first|exact Drawn0.refl _|apply Drawn0.step)⟩
 ·rw[if_neg c3] at H
  have c3b0:((l0.length:Int) == (l1.length:Int))=false:=beq_eq_false_iff_ne.mpr c3
  have c3b1:((l0.length:Int) != (l1.length:Int))=true:=bne_iff_ne.mpr c3
  have c3b2:(l0.length == l1.length)=false:=by first|simpa using c3|(simp at c3 ⊢;omega)
  obtain rfl:=Option.some.inj H
  go_enter Try.func33,Try.ntmps33
  go_wp2
  repeat(go_quiet (fail);try go_wp2)
  go_ret
  exact⟨by first|rfl|(simp;done)|(simp [*];done),by repeat(first|exact Drawn0.refl _|apply Drawn0.step)⟩

/-! ### laws_eqInstrument: function 29 -/
def laws_eqInstrument.f (k:Nat) (l0_0:List Int) (a0_1:Int) (l1_0:List Int) (a1_1:Int):Option (Bool):=(laws_eqIntS.f k l0_0 l1_0).bind fun t350=>(if t350=true then(if a0_1=a1_1 then(some true) else(some false)) else(some false))
set_option maxHeartbeats 8000000 in
set_option maxRecDepth 100000 in
theorem laws_eqInstrument.calls (k:Nat) (A0_0:Option Addr) (c0_0:Nat) (l0_0:List Int) (a0_1:Int) (A1_0:Option Addr) (c1_0:Nat) (l1_0:List Int) (a1_1:Int) (r:Bool) (w:World) (hr0_0:Kd.C (Kd.int .i64) w A0_0 l0_0.length l0_0) (hc0_0:l0_0.length≤c0_0) (hr1_0:Kd.C (Kd.int .i64) w A1_0 l1_0.length l1_0) (hc1_0:l1_0.length≤c1_0) (h:laws_eqInstrument.f k l0_0 a0_1 l1_0 a1_1=some r) :
  Calls Try.prog 29 #[.agg #[.slice A0_0 l0_0.length c0_0,.int .i64 a0_1],.agg #[.slice A1_0 l1_0.length c1_0,.int .i64 a1_1]] w fun e w'=>e = .returned (.bool r)∧Below w.heap.size w w':=by
 have hu44:=Try.underlying44
 have HR0_0:=am hr0_0
 have HC0_0:=am hc0_0
 clear hr0_0 hc0_0
 have HR1_0:=am hr1_0
 have HC1_0:=am hc1_0
 clear hr1_0 hc1_0
 have HB:=am (Below.refl w.heap.size w)
 have H:((laws_eqIntS.f k l0_0 l1_0).bind fun t350=>(if t350=true then(if a0_1=a1_1 then(some true) else(some false)) else(some false)))=some r:=h
 clear h
 replace H:=Option.bind_eq_some_iff.mp H
 obtain⟨t350,A30,H⟩:=H
 replace H:(if t350=true then(if a0_1=a1_1 then(some true) else(some false)) else(some false))=some r:=H
 have A3:=am A30
 clear A30
 by_cases c4:t350=true
 ·subst c4
  have H1:(if a0_1=a1_1 then(some true) else(some false))=some r:=by rw[if_pos rfl] at H;exact H
  clear H
  have H:=H1
  clear H1
  by_cases c5:a0_1=a1_1
  ·rw[if_pos c5] at H
   have c5b0:(a0_1 == a1_1)=true:=beq_iff_eq.mpr c5
   have c5b1:(a0_1 != a1_1)=false:=bne_eq_false_iff_eq.mpr c5
   clear c5
   obtain rfl:=Option.some.inj H
   go_enter Try.func29,Try.ntmps29
   go_wp2_with (first|((with_reducible refine gate_dst (N:=2) rfl ?_);refine box_event ?hg (N:=2) ?hd (cs := #[.slice A0_0 l0_0.length c0_0,.int .i64 a0_1]) (t:=44) ?hr ?_;(case hd=>rfl);(case hg=>rfl);(case hr=>first|(go_simp;done)|(go_simp;rfl));intro gb348 hg w6 hbox hb;have n0_:=am (below_step bl hb);have n1_:=am (hbox);have n2_:=am ((by rw[hg];exact(below_size bl):w.heap.size≤gb348));have n3_:=am ((by rw[hg];exact(below_size bl):w.heap.size≤gb348));clear HB;have HB:=n0_;have BK348:=n1_;have GW348:=n2_;have GE348:=n3_;clear n0_ n1_ n2_ n3_ hb hbox hg)|((with_reducible refine gate_dst (N:=3) rfl ?_);refine box_event ?hg (N:=3) ?hd (cs := #[.slice A1_0 l1_0.length c1_0,.int .i64 a1_1]) (t:=44) ?hr ?_;(case hd=>rfl);(case hg=>rfl);(case hr=>first|(go_simp;done)|(go_simp;rfl));intro gb349 hg w7 hbox hb;have n0_:=am (blk_below (g:=gb348) (o := .cells #[.slice A0_0 l0_0.length c0_0,.int .i64 a0_1] 44 (0,0)) (bup BK348.out) hb);have n1_:=am (below_step bl hb);have n2_:=am (hbox);have n3_:=am ((by rw[hg];exact(below_size bl):w.heap.size≤gb349));have n4_:=am ((by rw[hg];exact(below_size bl):w.heap.size≤gb349));have n5_:=am ((by rw[hg];exact Nat.ne_of_lt (blk_lt (g:=gb348) (o := .cells #[.slice A0_0 l0_0.length c0_0,.int .i64 a0_1] 44 (0,0)) (bup BK348.out)):gb348≠gb349));have n6_:=am ((by rw[hg];exact Nat.ne_of_gt (blk_lt (g:=gb348) (o := .cells #[.slice A0_0 l0_0.length c0_0,.int .i64 a0_1] 44 (0,0)) (bup BK348.out)):gb349≠gb348));clear BK348 HB;have BK348:=n0_;have HB:=n1_;have BK349:=n2_;have GW349:=n3_;have GE349:=n4_;have NB348_349:=n5_;have NB349_348:=n6_;clear n0_ n1_ n2_ n3_ n4_ n5_ n6_ hb hbox hg;have hnb8:=NB348_349.out;have hnc8:=NB349_348.out;have hcz9_0:w7.cell? ⟨gb348,0,none⟩=some (.slice A0_0 l0_0.length c0_0):=(blk_cell BK348.out 0).trans rfl;have hcz9_1:w7.cell? ⟨gb348,1,none⟩=some (.int .i64 a0_1):=(blk_cell BK348.out 1).trans rfl;have hfz9_0:=blk_frozen BK348.out 0;have hfz9_1:=blk_frozen BK348.out 1;have hcz10_0:w7.cell? ⟨gb349,0,none⟩=some (.slice A1_0 l1_0.length c1_0):=(blk_cell BK349.out 0).trans rfl;have hcz10_1:w7.cell? ⟨gb349,1,none⟩=some (.int .i64 a1_1):=(blk_cell BK349.out 1).trans rfl;have hfz10_0:=blk_frozen BK349.out 0;have hfz10_1:=blk_frozen BK349.out 1)|((with_reducible refine gate_callee (f:=33) rfl ?_);refine goesL_ (some 9) rfl rfl Try.func33 (by kernel_rfl) rfl #[.slice A0_0 l0_0.length c0_0,.slice A1_0 l1_0.length c1_0] rfl (by(try simp only[List.map_toArray,List.map_cons,List.map_nil]);first|done|rfl|(simp only[List.length_drop,List.length_take];rfl)) ?_;(with_reducible refine(laws_eqIntS.calls k _ _ l0_0 _ _ l1_0 true _ ?side1 ?side2 ?side3 ?side4 A3.out).mono ?_);(case side1=>repeat(first|exact(Kd.C_below HR0_0.out HB.out)|(with_reducible refine Kd.C_alloc ?_ _)|(with_reducible refine Kd.C_drewN ?_ _)|(with_reducible refine Kd.C_drew ?_)));(case side2=>exact HC0_0.out);(case side3=>repeat(first|exact(Kd.C_below HR1_0.out HB.out)|(with_reducible refine Kd.C_alloc ?_ _)|(with_reducible refine Kd.C_drewN ?_ _)|(with_reducible refine Kd.C_drew ?_)));(case side4=>exact HC1_0.out);rintro e w' ⟨rfl,⟨nd,rfl⟩⟩;refine⟨_,rfl,?_⟩))
   go_ret
   exact⟨fin1,bl⟩
  ·rw[if_neg c5] at H
   have c5b0:(a0_1 == a1_1)=false:=beq_eq_false_iff_ne.mpr c5
   have c5b1:(a0_1 != a1_1)=true:=bne_iff_ne.mpr c5
   obtain rfl:=Option.some.inj H
   go_enter Try.func29,Try.ntmps29
   go_wp2_with (first|((with_reducible refine gate_dst (N:=2) rfl ?_);refine box_event ?hg (N:=2) ?hd (cs := #[.slice A0_0 l0_0.length c0_0,.int .i64 a0_1]) (t:=44) ?hr ?_;(case hd=>rfl);(case hg=>rfl);(case hr=>first|(go_simp;done)|(go_simp;rfl));intro gb348 hg w11 hbox hb;have n0_:=am (below_step bl hb);have n1_:=am (hbox);have n2_:=am ((by rw[hg];exact(below_size bl):w.heap.size≤gb348));have n3_:=am ((by rw[hg];exact(below_size bl):w.heap.size≤gb348));clear HB;have HB:=n0_;have BK348:=n1_;have GW348:=n2_;have GE348:=n3_;clear n0_ n1_ n2_ n3_ hb hbox hg)|((with_reducible refine gate_dst (N:=3) rfl ?_);refine box_event ?hg (N:=3) ?hd (cs := #[.slice A1_0 l1_0.length c1_0,.int .i64 a1_1]) (t:=44) ?hr ?_;(case hd=>rfl);(case hg=>rfl);(case hr=>first|(go_simp;done)|(go_simp;rfl));intro gb349 hg w12 hbox hb;have n0_:=am (blk_below (g:=gb348) (o := .cells #[.slice A0_0 l0_0.length c0_0,.int .i64 a0_1] 44 (0,0)) (bup BK348.out) hb);have n1_:=am (below_step bl hb);have n2_:=am (hbox);have n3_:=am ((by rw[hg];exact(below_size bl):w.heap.size≤gb349));have n4_:=am ((by rw[hg];exact(below_size bl):w.heap.size≤gb349));have n5_:=am ((by rw[hg];exact Nat.ne_of_lt (blk_lt (g:=gb348) (o := .cells #[.slice A0_0 l0_0.length c0_0,.int .i64 a0_1] 44 (0,0)) (bup BK348.out)):gb348≠gb349));have n6_:=am ((by rw[hg];exact Nat.ne_of_gt (blk_lt (g:=gb348) (o := .cells #[.slice A0_0 l0_0.length c0_0,.int .i64 a0_1] 44 (0,0)) (bup BK348.out)):gb349≠gb348));clear BK348 HB;have BK348:=n0_;have HB:=n1_;have BK349:=n2_;have GW349:=n3_;have GE349:=n4_;have NB348_349:=n5_;have NB349_348:=n6_;clear n0_ n1_ n2_ n3_ n4_ n5_ n6_ hb hbox hg;have hnb13:=NB348_349.out;have hnc13:=NB349_348.out;have hcz14_0:w12.cell? ⟨gb348,0,none⟩=some (.slice A0_0 l0_0.length c0_0):=(blk_cell BK348.out 0).trans rfl;have hcz14_1:w12.cell? ⟨gb348,1,none⟩=some (.int .i64 a0_1):=(blk_cell BK348.out 1).trans rfl;have hfz14_0:=blk_frozen BK348.out 0;have hfz14_1:=blk_frozen BK348.out 1;have hcz15_0:w12.cell? ⟨gb349,0,none⟩=some (.slice A1_0 l1_0.length c1_0):=(blk_cell BK349.out 0).trans rfl;have hcz15_1:w12.cell? ⟨gb349,1,none⟩=some (.int .i64 a1_1):=(blk_cell BK349.out 1).trans rfl;have hfz15_0:=blk_frozen BK349.out 0;have hfz15_1:=blk_frozen BK349.out 1)|((with_reducible refine gate_callee (f:=33) rfl ?_);refine goesL_ (some 9) rfl rfl Try.func33 (by kernel_rfl) rfl #[.slice A0_0 l0_0.length c0_0,.slice A1_0 l1_0.length c1_0] rfl (by(try simp only[List.map_toArray,List.map_cons,List.map_nil]);first|done|rfl|(simp only[List.length_drop,List.length_take];rfl)) ?_;(with_reducible refine(laws_eqIntS.calls k _ _ l0_0 _ _ l1_0 true _ ?side1 ?side2 ?side3 ?side4 A3.out).mono ?_);(case side1=>repeat(first|exact(Kd.C_below HR0_0.out HB.out)|(with_reducible refine Kd.C_alloc ?_ _)|(with_reducible refine Kd.C_drewN ?_ _)|(with_reducible refine Kd.C_drew ?_)));(case side2=>exact HC0_0.out);(case side3=>repeat(first|exact(Kd.C_below HR1_0.out HB.out)|(with_reducible refine Kd.C_alloc ?_ _)|(with_reducible refine Kd.C_drewN ?_ _)|(with_reducible refine Kd.C_drew ?_)));(case side4=>exact HC1_0.out);rintro e w' ⟨rfl,⟨nd,rfl⟩⟩;refine⟨_,rfl,?_⟩))
   go_ret
   exact⟨fin1,bl⟩
 ·replace c4:=Bool.eq_false_iff.mpr c4
  subst c4
  have H1:(some false)=some r:=by rw[if_neg (show ¬ (false=true) by decide)] at H;exact H
  clear H
  have H:=H1
  clear H1
  obtain rfl:=Option.some.inj H
  go_enter Try.func29,Try.ntmps29
  go_wp2_with (first|((with_reducible refine gate_dst (N:=2) rfl ?_);refine box_event ?hg (N:=2) ?hd (cs := #[.slice A0_0 l0_0.length c0_0,.int .i64 a0_1]) (t:=44) ?hr ?_;(case hd=>rfl);(case hg=>rfl);(case hr=>first|(go_simp;done)|(go_simp;rfl));intro gb348 hg w16 hbox hb;have n0_:=am (below_step bl hb);have n1_:=am (hbox);have n2_:=am ((by rw[hg];exact(below_size bl):w.heap.size≤gb348));have n3_:=am ((by rw[hg];exact(below_size bl):w.heap.size≤gb348));clear HB;have HB:=n0_;have BK348:=n1_;have GW348:=n2_;have GE348:=n3_;clear n0_ n1_ n2_ n3_ hb hbox hg)|((with_reducible refine gate_dst (N:=3) rfl ?_);refine box_event ?hg (N:=3) ?hd (cs := #[.slice A1_0 l1_0.length c1_0,.int .i64 a1_1]) (t:=44) ?hr ?_;(case hd=>rfl);(case hg=>rfl);(case hr=>first|(go_simp;done)|(go_simp;rfl));intro gb349 hg w17 hbox hb;have n0_:=am (blk_below (g:=gb348) (o := .cells #[.slice A0_0 l0_0.length c0_0,.int .i64 a0_1] 44 (0,0)) (bup BK348.out) hb);have n1_:=am (below_step bl hb);have n2_:=am (hbox);have n3_:=am ((by rw[hg];exact(below_size bl):w.heap.size≤gb349));have n4_:=am ((by rw[hg];exact(below_size bl):w.heap.size≤gb349));have n5_:=am ((by rw[hg];exact Nat.ne_of_lt (blk_lt (g:=gb348) (o := .cells #[.slice A0_0 l0_0.length c0_0,.int .i64 a0_1] 44 (0,0)) (bup BK348.out)):gb348≠gb349));have n6_:=am ((by rw[hg];exact Nat.ne_of_gt (blk_lt (g:=gb348) (o := .cells #[.slice A0_0 l0_0.length c0_0,.int .i64 a0_1] 44 (0,0)) (bup BK348.out)):gb349≠gb348));clear BK348 HB;have BK348:=n0_;have HB:=n1_;have BK349:=n2_;have GW349:=n3_;have GE349:=n4_;have NB348_349:=n5_;have NB349_348:=n6_;clear n0_ n1_ n2_ n3_ n4_ n5_ n6_ hb hbox hg;have hnb18:=NB348_349.out;have hnc18:=NB349_348.out;have hcz19_0:w17.cell? ⟨gb348,0,none⟩=some (.slice A0_0 l0_0.length c0_0):=(blk_cell BK348.out 0).trans rfl;have hcz19_1:w17.cell? ⟨gb348,1,none⟩=some (.int .i64 a0_1):=(blk_cell BK348.out 1).trans rfl;have hfz19_0:=blk_frozen BK348.out 0;have hfz19_1:=blk_frozen BK348.out 1;have hcz20_0:w17.cell? ⟨gb349,0,none⟩=some (.slice A1_0 l1_0.length c1_0):=(blk_cell BK349.out 0).trans rfl;have hcz20_1:w17.cell? ⟨gb349,1,none⟩=some (.int .i64 a1_1):=(blk_cell BK349.out 1).trans rfl;have hfz20_0:=blk_frozen BK349.out 0;have hfz20_1:=blk_frozen BK349.out 1)|((with_reducible refine gate_callee (f:=33) rfl ?_);refine goesL_ (some 9) rfl rfl Try.func33 (by kernel_rfl) rfl #[.slice A0_0 l0_0.length c0_0,.slice A1_0 l1_0.length c1_0] rfl (by(try simp only[List.map_toArray,List.map_cons,List.map_nil]);first|done|rfl|(simp only[List.length_drop,List.length_take];rfl)) ?_;(with_reducible refine(laws_eqIntS.calls k _ _ l0_0 _ _ l1_0 false _ ?side1 ?side2 ?side3 ?side4 A3.out).mono ?_);(case side1=>repeat(first|exact(Kd.C_below HR0_0.out HB.out)|(with_reducible refine Kd.C_alloc ?_ _)|(with_reducible refine Kd.C_drewN ?_ _)|(with_reducible refine Kd.C_drew ?_)));(case side2=>exact HC0_0.out);(case side3=>repeat(first|exact(Kd.C_below HR1_0.out HB.out)|(with_reducible refine Kd.C_alloc ?_ _)|(with_reducible refine Kd.C_drewN ?_ _)|(with_reducible refine Kd.C_drew ?_)));(case side4=>exact HC1_0.out);rintro e w' ⟨rfl,⟨nd,rfl⟩⟩;refine⟨_,rfl,?_⟩))
  go_ret
  exact⟨fin1,bl⟩

/-! ### laws_eqNote: function 73 -/
def laws_eqNote.f (a0_0:Int) (a0_1:Int) (a0_2:Int) (a1_0:Int) (a1_1:Int) (a1_2:Int):Option (Bool):=if a0_0=a1_0 then(if a0_1=a1_1 then(if a0_2=a1_2 then(some true) else(some false)) else(some false)) else(some false)
set_option maxHeartbeats 8000000 in
set_option maxRecDepth 100000 in
theorem laws_eqNote.calls (a0_0:Int) (a0_1:Int) (a0_2:Int) (a1_0:Int) (a1_1:Int) (a1_2:Int) (r:Bool) (w:World) (h:laws_eqNote.f a0_0 a0_1 a0_2 a1_0 a1_1 a1_2=some r) :
  Calls Try.prog 73 #[.agg #[.int .i64 a0_0,.int .i64 a0_1,.int .i64 a0_2],.agg #[.int .i64 a1_0,.int .i64 a1_1,.int .i64 a1_2]] w fun e w'=>e = .returned (.bool r)∧Below w.heap.size w w':=by
 have hu95:=Try.underlying95
 have HB:=am (Below.refl w.heap.size w)
 have H:(if a0_0=a1_0 then(if a0_1=a1_1 then(if a0_2=a1_2 then(some true) else(some false)) else(some false)) else(some false))=some r:=h
 clear h
 by_cases c3:a0_0=a1_0
 ·rw[if_pos c3] at H
  have c3b0:(a0_0 == a1_0)=true:=beq_iff_eq.mpr c3
  have c3b1:(a0_0 != a1_0)=false:=bne_eq_false_iff_eq.mpr c3
  clear c3
  by_cases c4:a0_1=a1_1
  ·rw[if_pos c4] at H
   have c4b0:(a0_1 == a1_1)=true:=beq_iff_eq.mpr c4
   have c4b1:(a0_1 != a1_1)=false:=bne_eq_false_iff_eq.mpr c4
   clear c4
   by_cases c5:a0_2=a1_2
   ·rw[if_pos c5] at H
    have c5b0:(a0_2 == a1_2)=true:=beq_iff_eq.mpr c5
    have c5b1:(a0_2 != a1_2)=false:=bne_eq_false_iff_eq.mpr c5
    clear c5
    obtain rfl:=Option.some.inj H
    go_enter Try.func73,Try.ntmps73
    go_wp2_with (first|((with_reducible refine gate_dst (N:=2) rfl ?_);refine box_event ?hg (N:=2) ?hd (cs := #[.int .i64 a0_0,.int .i64 a0_1,.int .i64 a0_2]) (t:=95) ?hr ?_;(case hd=>rfl);(case hg=>rfl);(case hr=>first|(go_simp;done)|(go_simp;rfl));intro gb351 hg w6 hbox hb;have n0_:=am (below_step bl hb);have n1_:=am (hbox);have n2_:=am ((by rw[hg];exact(below_size bl):w.heap.size≤gb351));have n3_:=am ((by rw[hg];exact(below_size bl):w.heap.size≤gb351));clear HB;have HB:=n0_;have BK351:=n1_;have GW351:=n2_;have GE351:=n3_;clear n0_ n1_ n2_ n3_ hb hbox hg)|((with_reducible refine gate_dst (N:=3) rfl ?_);refine box_event ?hg (N:=3) ?hd (cs := #[.int .i64 a1_0,.int .i64 a1_1,.int .i64 a1_2]) (t:=95) ?hr ?_;(case hd=>rfl);(case hg=>rfl);(case hr=>first|(go_simp;done)|(go_simp;rfl));intro gb352 hg w7 hbox hb;have n0_:=am (blk_below (g:=gb351) (o := .cells #[.int .i64 a0_0,.int .i64 a0_1,.int .i64 a0_2] 95 (0,0)) (bup BK351.out) hb);have n1_:=am (below_step bl hb);have n2_:=am (hbox);have n3_:=am ((by rw[hg];exact(below_size bl):w.heap.size≤gb352));have n4_:=am ((by rw[hg];exact(below_size bl):w.heap.size≤gb352));have n5_:=am ((by rw[hg];exact Nat.ne_of_lt (blk_lt (g:=gb351) (o := .cells #[.int .i64 a0_0,.int .i64 a0_1,.int .i64 a0_2] 95 (0,0)) (bup BK351.out)):gb351≠gb352));have n6_:=am ((by rw[hg];exact Nat.ne_of_gt (blk_lt (g:=gb351) (o := .cells #[.int .i64 a0_0,.int .i64 a0_1,.int .i64 a0_2] 95 (0,0)) (bup BK351.out)):gb352≠gb351));clear BK351 HB;have BK351:=n0_;have HB:=n1_;have BK352:=n2_;have GW352:=n3_;have GE352:=n4_;have NB351_352:=n5_;have NB352_351:=n6_;clear n0_ n1_ n2_ n3_ n4_ n5_ n6_ hb hbox hg;have hnb8:=NB351_352.out;have hnc8:=NB352_351.out;have hcz9_0:w7.cell? ⟨gb351,0,none⟩=some (.int .i64 a0_0):=(blk_cell BK351.out 0).trans rfl;have hcz9_1:w7.cell? ⟨gb351,1,none⟩=some (.int .i64 a0_1):=(blk_cell BK351.out 1).trans rfl;have hcz9_2:w7.cell? ⟨gb351,2,none⟩=some (.int .i64 a0_2):=(blk_cell BK351.out 2).trans rfl;have hfz9_0:=blk_frozen BK351.out 0;have hfz9_1:=blk_frozen BK351.out 1;have hfz9_2:=blk_frozen BK351.out 2;have hcz10_0:w7.cell? ⟨gb352,0,none⟩=some (.int .i64 a1_0):=(blk_cell BK352.out 0).trans rfl;have hcz10_1:w7.cell? ⟨gb352,1,none⟩=some (.int .i64 a1_1):=(blk_cell BK352.out 1).trans rfl;have hcz10_2:w7.cell? ⟨gb352,2,none⟩=some (.int .i64 a1_2):=(blk_cell BK352.out 2).trans rfl;have hfz10_0:=blk_frozen BK352.out 0;have hfz10_1:=blk_frozen BK352.out 1;have hfz10_2:=blk_frozen BK352.out 2))
    go_ret
    exact⟨fin1,bl⟩
   ·rw[if_neg c5] at H
    have c5b0:(a0_2 == a1_2)=false:=beq_eq_false_iff_ne.mpr c5
    have c5b1:(a0_2 != a1_2)=true:=bne_iff_ne.mpr c5
    obtain rfl:=Option.some.inj H
    go_enter Try.func73,Try.ntmps73
    go_wp2_with (first|((with_reducible refine gate_dst (N:=2) rfl ?_);refine box_event ?hg (N:=2) ?hd (cs := #[.int .i64 a0_0,.int .i64 a0_1,.int .i64 a0_2]) (t:=95) ?hr ?_;(case hd=>rfl);(case hg=>rfl);(case hr=>first|(go_simp;done)|(go_simp;rfl));intro gb351 hg w11 hbox hb;have n0_:=am (below_step bl hb);have n1_:=am (hbox);have n2_:=am ((by rw[hg];exact(below_size bl):w.heap.size≤gb351));have n3_:=am ((by rw[hg];exact(below_size bl):w.heap.size≤gb351));clear HB;have HB:=n0_;have BK351:=n1_;have GW351:=n2_;have GE351:=n3_;clear n0_ n1_ n2_ n3_ hb hbox hg)|((with_reducible refine gate_dst (N:=3) rfl ?_);refine box_event ?hg (N:=3) ?hd (cs := #[.int .i64 a1_0,.int .i64 a1_1,.int .i64 a1_2]) (t:=95) ?hr ?_;(case hd=>rfl);(case hg=>rfl);(case hr=>first|(go_simp;done)|(go_simp;rfl));intro gb352 hg w12 hbox hb;have n0_:=am (blk_below (g:=gb351) (o := .cells #[.int .i64 a0_0,.int .i64 a0_1,.int .i64 a0_2] 95 (0,0)) (bup BK351.out) hb);have n1_:=am (below_step bl hb);have n2_:=am (hbox);have n3_:=am ((by rw[hg];exact(below_size bl):w.heap.size≤gb352));have n4_:=am ((by rw[hg];exact(below_size bl):w.heap.size≤gb352));have n5_:=am ((by rw[hg];exact Nat.ne_of_lt (blk_lt (g:=gb351) (o := .cells #[.int .i64 a0_0,.int .i64 a0_1,.int .i64 a0_2] 95 (0,0)) (bup BK351.out)):gb351≠gb352));have n6_:=am ((by rw[hg];exact Nat.ne_of_gt (blk_lt (g:=gb351) (o := .cells #[.int .i64 a0_0,.int .i64 a0_1,.int .i64 a0_2] 95 (0,0)) (bup BK351.out)):gb352≠gb351));clear BK351 HB;have BK351:=n0_;have HB:=n1_;have BK352:=n2_;have GW352:=n3_;have GE352:=n4_;have NB351_352:=n5_;have NB352_351:=n6_;clear n0_ n1_ n2_ n3_ n4_ n5_ n6_ hb hbox hg;have hnb13:=NB351_352.out;have hnc13:=NB352_351.out;have hcz14_0:w12.cell? ⟨gb351,0,none⟩=some (.int .i64 a0_0):=(blk_cell BK351.out 0).trans rfl;have hcz14_1:w12.cell? ⟨gb351,1,none⟩=some (.int .i64 a0_1):=(blk_cell BK351.out 1).trans rfl;have hcz14_2:w12.cell? ⟨gb351,2,none⟩=some (.int .i64 a0_2):=(blk_cell BK351.out 2).trans rfl;have hfz14_0:=blk_frozen BK351.out 0;have hfz14_1:=blk_frozen BK351.out 1;have hfz14_2:=blk_frozen BK351.out 2;have hcz15_0:w12.cell? ⟨gb352,0,none⟩=some (.int .i64 a1_0):=(blk_cell BK352.out 0).trans rfl;have hcz15_1:w12.cell? ⟨gb352,1,none⟩=some (.int .i64 a1_1):=(blk_cell BK352.out 1).trans rfl;have hcz15_2:w12.cell? ⟨gb352,2,none⟩=some (.int .i64 a1_2):=(blk_cell BK352.out 2).trans rfl;have hfz15_0:=blk_frozen BK352.out 0;have hfz15_1:=blk_frozen BK352.out 1;have hfz15_2:=blk_frozen BK352.out 2))
    go_ret
    exact⟨fin1,bl⟩
  ·rw[if_neg c4] at H
   have c4b0:(a0_1 == a1_1)=false:=beq_eq_false_iff_ne.mpr c4
   have c4b1:(a0_1 != a1_1)=true:=bne_iff_ne.mpr c4
   obtain rfl:=Option.some.inj H
   go_enter Try.func73,Try.ntmps73
   go_wp2_with (first|((with_reducible refine gate_dst (N:=2) rfl ?_);refine box_event ?hg (N:=2) ?hd (cs := #[.int .i64 a0_0,.int .i64 a0_1,.int .i64 a0_2]) (t:=95) ?hr ?_;(case hd=>rfl);(case hg=>rfl);(case hr=>first|(go_simp;done)|(go_simp;rfl));intro gb351 hg w16 hbox hb;have n0_:=am (below_step bl hb);have n1_:=am (hbox);have n2_:=am ((by rw[hg];exact(below_size bl):w.heap.size≤gb351));have n3_:=am ((by rw[hg];exact(below_size bl):w.heap.size≤gb351));clear HB;have HB:=n0_;have BK351:=n1_;have GW351:=n2_;have GE351:=n3_;clear n0_ n1_ n2_ n3_ hb hbox hg)|((with_reducible refine gate_dst (N:=3) rfl ?_);refine box_event ?hg (N:=3) ?hd (cs := #[.int .i64 a1_0,.int .i64 a1_1,.int .i64 a1_2]) (t:=95) ?hr ?_;(case hd=>rfl);(case hg=>rfl);(case hr=>first|(go_simp;done)|(go_simp;rfl));intro gb352 hg w17 hbox hb;have n0_:=am (blk_below (g:=gb351) (o := .cells #[.int .i64 a0_0,.int .i64 a0_1,.int .i64 a0_2] 95 (0,0)) (bup BK351.out) hb);have n1_:=am (below_step bl hb);have n2_:=am (hbox);have n3_:=am ((by rw[hg];exact(below_size bl):w.heap.size≤gb352));have n4_:=am ((by rw[hg];exact(below_size bl):w.heap.size≤gb352));have n5_:=am ((by rw[hg];exact Nat.ne_of_lt (blk_lt (g:=gb351) (o := .cells #[.int .i64 a0_0,.int .i64 a0_1,.int .i64 a0_2] 95 (0,0)) (bup BK351.out)):gb351≠gb352));have n6_:=am ((by rw[hg];exact Nat.ne_of_gt (blk_lt (g:=gb351) (o := .cells #[.int .i64 a0_0,.int .i64 a0_1,.int .i64 a0_2] 95 (0,0)) (bup BK351.out)):gb352≠gb351));clear BK351 HB;have BK351:=n0_;have HB:=n1_;have BK352:=n2_;have GW352:=n3_;have GE352:=n4_;have NB351_352:=n5_;have NB352_351:=n6_;clear n0_ n1_ n2_ n3_ n4_ n5_ n6_ hb hbox hg;have hnb18:=NB351_352.out;have hnc18:=NB352_351.out;have hcz19_0:w17.cell? ⟨gb351,0,none⟩=some (.int .i64 a0_0):=(blk_cell BK351.out 0).trans rfl;have hcz19_1:w17.cell? ⟨gb351,1,none⟩=some (.int .i64 a0_1):=(blk_cell BK351.out 1).trans rfl;have hcz19_2:w17.cell? ⟨gb351,2,none⟩=some (.int .i64 a0_2):=(blk_cell BK351.out 2).trans rfl;have hfz19_0:=blk_frozen BK351.out 0;have hfz19_1:=blk_frozen BK351.out 1;have hfz19_2:=blk_frozen BK351.out 2;have hcz20_0:w17.cell? ⟨gb352,0,none⟩=some (.int .i64 a1_0):=(blk_cell BK352.out 0).trans rfl;have hcz20_1:w17.cell? ⟨gb352,1,none⟩=some (.int .i64 a1_1):=(blk_cell BK352.out 1).trans rfl;have hcz20_2:w17.cell? ⟨gb352,2,none⟩=some (.int .i64 a1_2):=(blk_cell BK352.out 2).trans rfl;have hfz20_0:=blk_frozen BK352.out 0;have hfz20_1:=blk_frozen BK352.out 1;have hfz20_2:=blk_frozen BK352.out 2))
   go_ret
   exact⟨fin1,bl⟩
 ·rw[if_neg c3] at H
  have c3b0:(a0_0 == a1_0)=false:=beq_eq_false_iff_ne.mpr c3
  have c3b1:(a0_0 != a1_0)=true:=bne_iff_ne.mpr c3
  obtain rfl:=Option.some.inj H
  go_enter Try.func73,Try.ntmps73
  go_wp2_with (first|((with_reducible refine gate_dst (N:=2) rfl ?_);refine box_event ?hg (N:=2) ?hd (cs := #[.int .i64 a0_0,.int .i64 a0_1,.int .i64 a0_2]) (t:=95) ?hr ?_;(case hd=>rfl);(case hg=>rfl);(case hr=>first|(go_simp;done)|(go_simp;rfl));intro gb351 hg w21 hbox hb;have n0_:=am (below_step bl hb);have n1_:=am (hbox);have n2_:=am ((by rw[hg];exact(below_size bl):w.heap.size≤gb351));have n3_:=am ((by rw[hg];exact(below_size bl):w.heap.size≤gb351));clear HB;have HB:=n0_;have BK351:=n1_;have GW351:=n2_;have GE351:=n3_;clear n0_ n1_ n2_ n3_ hb hbox hg)|((with_reducible refine gate_dst (N:=3) rfl ?_);refine box_event ?hg (N:=3) ?hd (cs := #[.int .i64 a1_0,.int .i64 a1_1,.int .i64 a1_2]) (t:=95) ?hr ?_;(case hd=>rfl);(case hg=>rfl);(case hr=>first|(go_simp;done)|(go_simp;rfl));intro gb352 hg w22 hbox hb;have n0_:=am (blk_below (g:=gb351) (o := .cells #[.int .i64 a0_0,.int .i64 a0_1,.int .i64 a0_2] 95 (0,0)) (bup BK351.out) hb);have n1_:=am (below_step bl hb);have n2_:=am (hbox);have n3_:=am ((by rw[hg];exact(below_size bl):w.heap.size≤gb352));have n4_:=am ((by rw[hg];exact(below_size bl):w.heap.size≤gb352));have n5_:=am ((by rw[hg];exact Nat.ne_of_lt (blk_lt (g:=gb351) (o := .cells #[.int .i64 a0_0,.int .i64 a0_1,.int .i64 a0_2] 95 (0,0)) (bup BK351.out)):gb351≠gb352));have n6_:=am ((by rw[hg];exact Nat.ne_of_gt (blk_lt (g:=gb351) (o := .cells #[.int .i64 a0_0,.int .i64 a0_1,.int .i64 a0_2] 95 (0,0)) (bup BK351.out)):gb352≠gb351));clear BK351 HB;have BK351:=n0_;have HB:=n1_;have BK352:=n2_;have GW352:=n3_;have GE352:=n4_;have NB351_352:=n5_;have NB352_351:=n6_;clear n0_ n1_ n2_ n3_ n4_ n5_ n6_ hb hbox hg;have hnb23:=NB351_352.out;have hnc23:=NB352_351.out;have hcz24_0:w22.cell? ⟨gb351,0,none⟩=some (.int .i64 a0_0):=(blk_cell BK351.out 0).trans rfl;have hcz24_1:w22.cell? ⟨gb351,1,none⟩=some (.int .i64 a0_1):=(blk_cell BK351.out 1).trans rfl;have hcz24_2:w22.cell? ⟨gb351,2,none⟩=some (.int .i64 a0_2):=(blk_cell BK351.out 2).trans rfl;have hfz24_0:=blk_frozen BK351.out 0;have hfz24_1:=blk_frozen BK351.out 1;have hfz24_2:=blk_frozen BK351.out 2;have hcz25_0:w22.cell? ⟨gb352,0,none⟩=some (.int .i64 a1_0):=(blk_cell BK352.out 0).trans rfl;have hcz25_1:w22.cell? ⟨gb352,1,none⟩=some (.int .i64 a1_1):=(blk_cell BK352.out 1).trans rfl;have hcz25_2:w22.cell? ⟨gb352,2,none⟩=some (.int .i64 a1_2):=(blk_cell BK352.out 2).trans rfl;have hfz25_0:=blk_frozen BK352.out 0;have hfz25_1:=blk_frozen BK352.out 1;have hfz25_2:=blk_frozen BK352.out 2))
  go_ret
  exact⟨fin1,bl⟩

/-! ### laws_eqNoteS: function 30 -/
def laws_eqNoteS.l0:Nat→List (S95)→List (S95)→Int→Option (Bool)
 | 0,_,_,_=>none
 | k+1,x0,x1,x5=>if x5<(x0.length:Int) then(if 0≤x5 then(if x5<(x1.length:Int) then((laws_eqNote.f ((rd_T95 x0 x5).f0) ((rd_T95 x0 x5).f1) ((rd_T95 x0 x5).f2) ((rd_T95 x1 x5).f0) ((rd_T95 x1 x5).f1) ((rd_T95 x1 x5).f2)).bind fun t355=>(if t355=true then(laws_eqNoteS.l0 k x0 x1 (wrap64 (x5+1))) else(some false))) else(none)) else(none)) else(some true)
def laws_eqNoteS.f (k:Nat) (l0:List (S95)) (l1:List (S95)):Option (Bool):=if(l0.length:Int)=(l1.length:Int) then(laws_eqNoteS.l0 k l0 l1 0) else(some false)
def laws_eqNoteS.T6:Bool×List (List Nat×List Nat):=(true,[([],[]),([],[]),([0,1],[0,1]),([2],[2]),([],[]),([],[]),([4,5],[4,5]),([6],[6]),([3,7],[3,7]),([8],[8])])
def laws_eqNoteS.B6:List Nat:=[0,0,3,7,0,0,48,112,255,511]
theorem laws_eqNoteS.tab6:rtab .any (opsOf Try.f30 6)=laws_eqNoteS.T6:=by kernel_rfl
theorem laws_eqNoteS.bits6:waitsOk laws_eqNoteS.T6.2 laws_eqNoteS.B6=true:=by kernel_rfl
set_option maxHeartbeats 8000000 in
set_option maxRecDepth 100000 in
theorem laws_eqNoteS.calls (k:Nat) (A0:Option Addr) (c0:Nat) (l0:List (S95)) (A1:Option Addr) (c1:Nat) (l1:List (S95)) (r:Bool) (w:World) (hr0:Kd.C k95 w A0 l0.length l0) (hc0:l0.length≤c0) (hr1:Kd.C k95 w A1 l1.length l1) (hc1:l1.length≤c1) (h:laws_eqNoteS.f k l0 l1=some r) :
  Calls Try.prog 30 #[.slice A0 l0.length c0,.slice A1 l1.length c1] w fun e w'=>e = .returned (.bool r)∧Below w.heap.size w w':=by
 have hu95:=Try.underlying95
 have HR0:=am hr0
 have HC0:=am hc0
 clear hr0 hc0
 have HR1:=am hr1
 have HC1:=am hc1
 clear hr1 hc1
 have HB:=am (Below.refl w.heap.size w)
 have H:(if(l0.length:Int)=(l1.length:Int) then(laws_eqNoteS.l0 k l0 l1 0) else(some false))=some r:=h
 clear h
 by_cases c3:(l0.length:Int)=(l1.length:Int)
 ·rw[if_pos c3] at H
  have c3b0:((l0.length:Int) == (l1.length:Int))=true:=beq_iff_eq.mpr c3
  have c3b1:((l0.length:Int) != (l1.length:Int))=false:=bne_eq_false_iff_eq.mpr c3
  have c3b2:(l0.length == l1.length)=true:=by first|simpa using c3|(simp at c3 ⊢;omega)
  clear c3
  have H':=am H
  clear H
  go_enter Try.func30,Try.ntmps30
  go_wp2
  go_loopg [5] k (fun kq v5 w'=>∃(x5_1:Int),v5 = .int .i64 x5_1∧Aside0 (laws_eqNoteS.l0 kq l0 l1 x5_1=some r)∧Aside0 (kq≤k)∧Aside0 (Below w.heap.size w w'))
  case atStart=>exact⟨(0),fin2,H',⟨Nat.le_refl _⟩,⟨bl⟩⟩
  case round =>
   clear H'
   try clear c1
   try clear p2
   try clear c3
   try clear c3b0
   try clear c3b1
   try clear c3b2
   obtain⟨x5_1,rfl,HA,HK1,HB⟩:=hrel
   cases gk with
   | zero=>exact absurd HA.out (by simp [laws_eqNoteS.l0])
   | succ k1 =>
    have H:=HA.out
    clear HA
    simp only[laws_eqNoteS.l0] at H
    by_cases c4:x5_1<(l0.length:Int)
    ·rw[if_pos c4] at H
     have c4b0:decide (x5_1<(l0.length:Int))=true:=decide_eq_true c4
     clear c4
     by_cases c5:0≤x5_1
     ·rw[if_pos c5] at H
      have c5b0:decide (0≤x5_1)=true:=decide_eq_true c5
      clear c5
      by_cases c6:x5_1<(l1.length:Int)
      ·rw[if_pos c6] at H
       have c6b0:decide (x5_1<(l1.length:Int))=true:=decide_eq_true c6
       clear c6
       replace H:=Option.bind_eq_some_iff.mp H
       obtain⟨t355,A70,H⟩:=H
       replace H:(if t355=true then(laws_eqNoteS.l0 k1 l0 l1 (wrap64 (x5_1+1))) else(some false))=some r:=H
       have A7:=am A70
       clear A70
       by_cases c8:t355=true
       ·subst c8
        have H1:(laws_eqNoteS.l0 k1 l0 l1 (wrap64 (x5_1+1)))=some r:=by rw[if_pos rfl] at H;exact H
        clear H
        have H:=H1
        clear H1
        have H':=am H
        clear H
        try go_wp2
        have n0_:=am (below_drew1 HB.out)
        clear HB
        have HB:=n0_
        clear n0_
        have p353:0≤(x5_1:Int):=od
        have q353:x5_1<(l0.length:Int):=od
        obtain⟨ad353,e353,hx353_0,hx353_1,hx353_2⟩:=at_T95 HR0.out x5_1 p353 q353
        have hw353_2:=hx353_2
        have hw353_1:=hx353_1
        have hw353_0:=hx353_0
        cases e353
        replace hx353_0:=(HB.out.cell (World.block_lt_of_cell? w _ hx353_0)).trans hx353_0
        replace hx353_1:=(HB.out.cell (World.block_lt_of_cell? w _ hx353_1)).trans hx353_1
        replace hx353_2:=(HB.out.cell (World.block_lt_of_cell? w _ hx353_2)).trans hx353_2
        replace p353:=eq_true p353
        replace q353:=eq_true q353
        have p354:0≤(x5_1:Int):=od
        have q354:x5_1<(l1.length:Int):=od
        obtain⟨ad354,e354,hx354_0,hx354_1,hx354_2⟩:=at_T95 HR1.out x5_1 p354 q354
        have hw354_2:=hx354_2
        have hw354_1:=hx354_1
        have hw354_0:=hx354_0
        cases e354
        replace hx354_0:=(HB.out.cell (World.block_lt_of_cell? w _ hx354_0)).trans hx354_0
        replace hx354_1:=(HB.out.cell (World.block_lt_of_cell? w _ hx354_1)).trans hx354_1
        replace hx354_2:=(HB.out.cell (World.block_lt_of_cell? w _ hx354_2)).trans hx354_2
        replace p354:=eq_true p354
        replace q354:=eq_true q354
        refine start_ (n:=10) (S:=fun w'=>w'.cell? (ad353.add ((x5_1).toNat*3))=some (.int .i64 ((rd_T95 l0 x5_1).f0))∧w'.cell? ⟨(ad353.add ((x5_1).toNat*3)).block,(ad353.add ((x5_1).toNat*3)).off+1,none⟩=some (.int .i64 ((rd_T95 l0 x5_1).f1))∧w'.cell? ⟨(ad353.add ((x5_1).toNat*3)).block,(ad353.add ((x5_1).toNat*3)).off+2,none⟩=some (.int .i64 ((rd_T95 l0 x5_1).f2))∧w'.cell? (ad354.add ((x5_1).toNat*3))=some (.int .i64 ((rd_T95 l1 x5_1).f0))∧w'.cell? ⟨(ad354.add ((x5_1).toNat*3)).block,(ad354.add ((x5_1).toNat*3)).off+1,none⟩=some (.int .i64 ((rd_T95 l1 x5_1).f1))∧w'.cell? ⟨(ad354.add ((x5_1).toNat*3)).block,(ad354.add ((x5_1).toNat*3)).off+2,none⟩=some (.int .i64 ((rd_T95 l1 x5_1).f2))) (ds:=[]) #[false,false,false,false,false,false,false,false,false,false] (by kernel_rfl) rfl rfl ⟨((HB.out.cell (World.block_lt_of_cell? w _ hw353_0)).trans hw353_0),((HB.out.cell (World.block_lt_of_cell? w _ hw353_1)).trans hw353_1),((HB.out.cell (World.block_lt_of_cell? w _ hw353_2)).trans hw353_2),((HB.out.cell (World.block_lt_of_cell? w _ hw354_0)).trans hw354_0),((HB.out.cell (World.block_lt_of_cell? w _ hw354_1)).trans hw354_1),((HB.out.cell (World.block_lt_of_cell? w _ hw354_2)).trans hw354_2)⟩ (fun hHeld=>?_);refine with_tabW laws_eqNoteS.tab6 laws_eqNoteS.bits6 (fun HT_ HW_=>?_)
        generalize wr.drew=w9 at HB hx353_0 hx353_1 hx353_2 hx354_0 hx354_1 hx354_2 hHeld ⊢
        refine pure_ (i:=0) (N:=some 17) (v:=?_) (a':=?_) #[true,false,false,false,false,false,false,false,false,false] rfl rfl (any_of HT_.out (by kernel_rfl)) (fun _ _ _ h=>h) (Or.inl ⟨by rfl,?_⟩) ?_ ?_
        rotate_left
        ·intro w'
         go_simp
         with_reducible rfl
        rotate_left
        ·simp only[Act.put,List.setIfInBounds_toArray,List.set_cons_zero,List.set_cons_succ,i64_w,i32_w]
         rfl
        refine pure_ (i:=1) (N:=some 18) (v:=?_) (a':=?_) #[true,true,false,false,false,false,false,false,false,false] rfl rfl (any_of HT_.out (by kernel_rfl)) (fun _ _ _ h=>h) (Or.inl ⟨by rfl,?_⟩) ?_ ?_
        rotate_left
        ·intro w'
         go_simp
         with_reducible rfl
        rotate_left
        ·simp only[Act.put,List.setIfInBounds_toArray,List.set_cons_zero,List.set_cons_succ,i64_w,i32_w]
         rfl
        refine pure_ (i:=2) (N:=some 19) (v:=?_) (a':=?_) #[true,true,true,false,false,false,false,false,false,false] rfl rfl (any_of HT_.out (by kernel_rfl)) (fun _ _ _ h=>h) (Or.inl ⟨by rfl,?_⟩) ?_ ?_
        rotate_left
        ·intro w'
         go_simp
         with_reducible rfl
        rotate_left
        ·simp only[Act.put,List.setIfInBounds_toArray,List.set_cons_zero,List.set_cons_succ,i64_w,i32_w]
         rfl
        refine pure_ (i:=4) (N:=some 21) (v:=?_) (a':=?_) #[true,true,true,false,true,false,false,false,false,false] rfl rfl (any_of HT_.out (by kernel_rfl)) (fun _ _ _ h=>h) (Or.inl ⟨by rfl,?_⟩) ?_ ?_
        rotate_left
        ·intro w'
         go_simp
         with_reducible rfl
        rotate_left
        ·simp only[Act.put,List.setIfInBounds_toArray,List.set_cons_zero,List.set_cons_succ,i64_w,i32_w]
         rfl
        refine pure_ (i:=5) (N:=some 22) (v:=?_) (a':=?_) #[true,true,true,false,true,true,false,false,false,false] rfl rfl (any_of HT_.out (by kernel_rfl)) (fun _ _ _ h=>h) (Or.inl ⟨by rfl,?_⟩) ?_ ?_
        rotate_left
        ·intro w'
         go_simp
         with_reducible rfl
        rotate_left
        ·simp only[Act.put,List.setIfInBounds_toArray,List.set_cons_zero,List.set_cons_succ,i64_w,i32_w]
         rfl
        refine pure_ (i:=6) (N:=some 23) (v:=?_) (a':=?_) #[true,true,true,false,true,true,true,false,false,false] rfl rfl (any_of HT_.out (by kernel_rfl)) (fun _ _ _ h=>h) (Or.inl ⟨by rfl,?_⟩) ?_ ?_
        rotate_left
        ·intro w'
         go_simp
         with_reducible rfl
        rotate_left
        ·simp only[Act.put,List.setIfInBounds_toArray,List.set_cons_zero,List.set_cons_succ,i64_w,i32_w]
         rfl
        refine take_ (i:=3) (N:=some 20) (v:=?_) (a':=?_) #[true,true,true,true,true,true,true,false,false,false] rfl rfl (take_ofW HT_.out HW_.out (by kernel_rfl)) (fun _ _ _ h=>h) (Or.inl ⟨by rfl,?_⟩) hHeld ?_ ?_
        rotate_left
        ·rintro w' ⟨s0,s1,s2,s3,s4,s5⟩
         go_simp
         with_reducible rfl
        rotate_left
        ·simp only[Act.put,List.setIfInBounds_toArray,List.set_cons_zero,List.set_cons_succ,i64_w,i32_w]
         rfl
        refine take_ (i:=7) (N:=some 24) (v:=?_) (a':=?_) #[true,true,true,true,true,true,true,true,false,false] rfl rfl (take_ofW HT_.out HW_.out (by kernel_rfl)) (fun _ _ _ h=>h) (Or.inl ⟨by rfl,?_⟩) hHeld ?_ ?_
        rotate_left
        ·rintro w' ⟨s0,s1,s2,s3,s4,s5⟩
         go_simp
         with_reducible rfl
        rotate_left
        ·simp only[Act.put,List.setIfInBounds_toArray,List.set_cons_zero,List.set_cons_succ,i64_w,i32_w]
         rfl
        refine one_ (i:=8) (N:=some 25) #[true,true,true,true,true,true,true,true,true,false] rfl rfl (one_of HT_.out (by kernel_rfl)) (by decide) (fun K hK=>?_)
        refine goes_ Try.func73 (by kernel_rfl) rfl #[.agg #[.int .i64 ((rd_T95 l0 x5_1).f0),.int .i64 ((rd_T95 l0 x5_1).f1),.int .i64 ((rd_T95 l0 x5_1).f2)],.agg #[.int .i64 ((rd_T95 l1 x5_1).f0),.int .i64 ((rd_T95 l1 x5_1).f1),.int .i64 ((rd_T95 l1 x5_1).f2)]] (by rfl) rfl rfl (by(try simp only[List.map_toArray,List.map_cons,List.map_nil]);first|done|rfl|(simp only[List.length_drop,List.length_take];rfl)) ?_
        with_reducible refine(laws_eqNote.calls ((rd_T95 l0 x5_1).f0) ((rd_T95 l0 x5_1).f1) ((rd_T95 l0 x5_1).f2) ((rd_T95 l1 x5_1).f0) ((rd_T95 l1 x5_1).f1) ((rd_T95 l1 x5_1).f2) true _ A7.out).mono ?_
        rintro e w10 ⟨rfl,hb⟩
        refine⟨_,rfl,?_⟩
        have n0_:=am (below_step bl hb)
        clear HB
        have HB:=n0_
        clear n0_
        (try clear hb)
        (try clear hb2)
        (try clear hk)
        (try clear hi)
        refine hK.out _ _ ⟨((HB.out.cell (World.block_lt_of_cell? w _ hw353_0)).trans hw353_0),((HB.out.cell (World.block_lt_of_cell? w _ hw353_1)).trans hw353_1),((HB.out.cell (World.block_lt_of_cell? w _ hw353_2)).trans hw353_2),((HB.out.cell (World.block_lt_of_cell? w _ hw354_0)).trans hw354_0),((HB.out.cell (World.block_lt_of_cell? w _ hw354_1)).trans hw354_1),((HB.out.cell (World.block_lt_of_cell? w _ hw354_2)).trans hw354_2)⟩ (fun hHeld=>?_)
        clear hK K
        refine norm_ (a':=?_) ?_ ?_
        rotate_left
        ·show Act.put _ (some 25) _=_
         simp only[Act.put,List.setIfInBounds_toArray,List.set_cons_zero,List.set_cons_succ,i64_w,i32_w]
         rfl
        refine pure_ (i:=9) (N:=some 26) (v:=?_) (a':=?_) #[true,true,true,true,true,true,true,true,true,true] rfl rfl (any_of HT_.out (by kernel_rfl)) (fun _ _ _ h=>h) (Or.inl ⟨by rfl,?_⟩) ?_ ?_
        rotate_left
        ·intro w'
         go_simp
         with_reducible rfl
        rotate_left
        ·simp only[Act.put,List.setIfInBounds_toArray,List.set_cons_zero,List.set_cons_succ,i64_w,i32_w]
         rfl
        refine done_ (done_of HT_.out (by kernel_rfl)) ?_
        try go_wp2
        go_roundg k1
        case measure=>have:=HK1.out;omega
        case rel=>exact⟨(wrap64 (x5_1+1)),fin2,H',⟨by have:=HK1.out;omega⟩,⟨bl⟩⟩
       ·replace c8:=Bool.eq_false_iff.mpr c8
        subst c8
        have H1:(some false)=some r:=by rw[if_neg (show ¬ (false=true) by decide)] at H;exact H
        clear H
        have H:=H1
        clear H1
        obtain rfl:=Option.some.inj H
        try go_wp2
        have n0_:=am (below_drew1 HB.out)
        clear HB
        have HB:=n0_
        clear n0_
        have p353:0≤(x5_1:Int):=od
        have q353:x5_1<(l0.length:Int):=od
        obtain⟨ad353,e353,hx353_0,hx353_1,hx353_2⟩:=at_T95 HR0.out x5_1 p353 q353
        have hw353_2:=hx353_2
        have hw353_1:=hx353_1
        have hw353_0:=hx353_0
        cases e353
        replace hx353_0:=(HB.out.cell (World.block_lt_of_cell? w _ hx353_0)).trans hx353_0
        replace hx353_1:=(HB.out.cell (World.block_lt_of_cell? w _ hx353_1)).trans hx353_1
        replace hx353_2:=(HB.out.cell (World.block_lt_of_cell? w _ hx353_2)).trans hx353_2
        replace p353:=eq_true p353
        replace q353:=eq_true q353
        have p354:0≤(x5_1:Int):=od
        have q354:x5_1<(l1.length:Int):=od
        obtain⟨ad354,e354,hx354_0,hx354_1,hx354_2⟩:=at_T95 HR1.out x5_1 p354 q354
        have hw354_2:=hx354_2
        have hw354_1:=hx354_1
        have hw354_0:=hx354_0
        cases e354
        replace hx354_0:=(HB.out.cell (World.block_lt_of_cell? w _ hx354_0)).trans hx354_0
        replace hx354_1:=(HB.out.cell (World.block_lt_of_cell? w _ hx354_1)).trans hx354_1
        replace hx354_2:=(HB.out.cell (World.block_lt_of_cell? w _ hx354_2)).trans hx354_2
        replace p354:=eq_true p354
        replace q354:=eq_true q354
        refine start_ (n:=10) (S:=fun w'=>w'.cell? (ad353.add ((x5_1).toNat*3))=some (.int .i64 ((rd_T95 l0 x5_1).f0))∧w'.cell? ⟨(ad353.add ((x5_1).toNat*3)).block,(ad353.add ((x5_1).toNat*3)).off+1,none⟩=some (.int .i64 ((rd_T95 l0 x5_1).f1))∧w'.cell? ⟨(ad353.add ((x5_1).toNat*3)).block,(ad353.add ((x5_1).toNat*3)).off+2,none⟩=some (.int .i64 ((rd_T95 l0 x5_1).f2))∧w'.cell? (ad354.add ((x5_1).toNat*3))=some (.int .i64 ((rd_T95 l1 x5_1).f0))∧w'.cell? ⟨(ad354.add ((x5_1).toNat*3)).block,(ad354.add ((x5_1).toNat*3)).off+1,none⟩=some (.int .i64 ((rd_T95 l1 x5_1).f1))∧w'.cell? ⟨(ad354.add ((x5_1).toNat*3)).block,(ad354.add ((x5_1).toNat*3)).off+2,none⟩=some (.int .i64 ((rd_T95 l1 x5_1).f2))) (ds:=[]) #[false,false,false,false,false,false,false,false,false,false] (by kernel_rfl) rfl rfl ⟨((HB.out.cell (World.block_lt_of_cell? w _ hw353_0)).trans hw353_0),((HB.out.cell (World.block_lt_of_cell? w _ hw353_1)).trans hw353_1),((HB.out.cell (World.block_lt_of_cell? w _ hw353_2)).trans hw353_2),((HB.out.cell (World.block_lt_of_cell? w _ hw354_0)).trans hw354_0),((HB.out.cell (World.block_lt_of_cell? w _ hw354_1)).trans hw354_1),((HB.out.cell (World.block_lt_of_cell? w _ hw354_2)).trans hw354_2)⟩ (fun hHeld=>?_);refine with_tabW laws_eqNoteS.tab6 laws_eqNoteS.bits6 (fun HT_ HW_=>?_)
        generalize wr.drew=w11 at HB hx353_0 hx353_1 hx353_2 hx354_0 hx354_1 hx354_2 hHeld ⊢
        refine pure_ (i:=0) (N:=some 17) (v:=?_) (a':=?_) #[true,false,false,false,false,false,false,false,false,false] rfl rfl (any_of HT_.out (by kernel_rfl)) (fun _ _ _ h=>h) (Or.inl ⟨by rfl,?_⟩) ?_ ?_
        rotate_left
        ·intro w'
         go_simp
         with_reducible rfl
        rotate_left
        ·simp only[Act.put,List.setIfInBounds_toArray,List.set_cons_zero,List.set_cons_succ,i64_w,i32_w]
         rfl
        refine pure_ (i:=1) (N:=some 18) (v:=?_) (a':=?_) #[true,true,false,false,false,false,false,false,false,false] rfl rfl (any_of HT_.out (by kernel_rfl)) (fun _ _ _ h=>h) (Or.inl ⟨by rfl,?_⟩) ?_ ?_
        rotate_left
        ·intro w'
         go_simp
         with_reducible rfl
        rotate_left
        ·simp only[Act.put,List.setIfInBounds_toArray,List.set_cons_zero,List.set_cons_succ,i64_w,i32_w]
         rfl
        refine pure_ (i:=2) (N:=some 19) (v:=?_) (a':=?_) #[true,true,true,false,false,false,false,false,false,false] rfl rfl (any_of HT_.out (by kernel_rfl)) (fun _ _ _ h=>h) (Or.inl ⟨by rfl,?_⟩) ?_ ?_
        rotate_left
        ·intro w'
         go_simp
         with_reducible rfl
        rotate_left
        ·simp only[Act.put,List.setIfInBounds_toArray,List.set_cons_zero,List.set_cons_succ,i64_w,i32_w]
         rfl
        refine pure_ (i:=4) (N:=some 21) (v:=?_) (a':=?_) #[true,true,true,false,true,false,false,false,false,false] rfl rfl (any_of HT_.out (by kernel_rfl)) (fun _ _ _ h=>h) (Or.inl ⟨by rfl,?_⟩) ?_ ?_
        rotate_left
        ·intro w'
         go_simp
         with_reducible rfl
        rotate_left
        ·simp only[Act.put,List.setIfInBounds_toArray,List.set_cons_zero,List.set_cons_succ,i64_w,i32_w]
         rfl
        refine pure_ (i:=5) (N:=some 22) (v:=?_) (a':=?_) #[true,true,true,false,true,true,false,false,false,false] rfl rfl (any_of HT_.out (by kernel_rfl)) (fun _ _ _ h=>h) (Or.inl ⟨by rfl,?_⟩) ?_ ?_
        rotate_left
        ·intro w'
         go_simp
         with_reducible rfl
        rotate_left
        ·simp only[Act.put,List.setIfInBounds_toArray,List.set_cons_zero,List.set_cons_succ,i64_w,i32_w]
         rfl
        refine pure_ (i:=6) (N:=some 23) (v:=?_) (a':=?_) #[true,true,true,false,true,true,true,false,false,false] rfl rfl (any_of HT_.out (by kernel_rfl)) (fun _ _ _ h=>h) (Or.inl ⟨by rfl,?_⟩) ?_ ?_
        rotate_left
        ·intro w'
         go_simp
         with_reducible rfl
        rotate_left
        ·simp only[Act.put,List.setIfInBounds_toArray,List.set_cons_zero,List.set_cons_succ,i64_w,i32_w]
         rfl
        refine take_ (i:=3) (N:=some 20) (v:=?_) (a':=?_) #[true,true,true,true,true,true,true,false,false,false] rfl rfl (take_ofW HT_.out HW_.out (by kernel_rfl)) (fun _ _ _ h=>h) (Or.inl ⟨by rfl,?_⟩) hHeld ?_ ?_
        rotate_left
        ·rintro w' ⟨s0,s1,s2,s3,s4,s5⟩
         go_simp
         with_reducible rfl
        rotate_left
        ·simp only[Act.put,List.setIfInBounds_toArray,List.set_cons_zero,List.set_cons_succ,i64_w,i32_w]
         rfl
        refine take_ (i:=7) (N:=some 24) (v:=?_) (a':=?_) #[true,true,true,true,true,true,true,true,false,false] rfl rfl (take_ofW HT_.out HW_.out (by kernel_rfl)) (fun _ _ _ h=>h) (Or.inl ⟨by rfl,?_⟩) hHeld ?_ ?_
        rotate_left
        ·rintro w' ⟨s0,s1,s2,s3,s4,s5⟩
         go_simp
         with_reducible rfl
        rotate_left
        ·simp only[Act.put,List.setIfInBounds_toArray,List.set_cons_zero,List.set_cons_succ,i64_w,i32_w]
         rfl
        refine one_ (i:=8) (N:=some 25) #[true,true,true,true,true,true,true,true,true,false] rfl rfl (one_of HT_.out (by kernel_rfl)) (by decide) (fun K hK=>?_)
        refine goes_ Try.func73 (by kernel_rfl) rfl #[.agg #[.int .i64 ((rd_T95 l0 x5_1).f0),.int .i64 ((rd_T95 l0 x5_1).f1),.int .i64 ((rd_T95 l0 x5_1).f2)],.agg #[.int .i64 ((rd_T95 l1 x5_1).f0),.int .i64 ((rd_T95 l1 x5_1).f1),.int .i64 ((rd_T95 l1 x5_1).f2)]] (by rfl) rfl rfl (by(try simp only[List.map_toArray,List.map_cons,List.map_nil]);first|done|rfl|(simp only[List.length_drop,List.length_take];rfl)) ?_
        with_reducible refine(laws_eqNote.calls ((rd_T95 l0 x5_1).f0) ((rd_T95 l0 x5_1).f1) ((rd_T95 l0 x5_1).f2) ((rd_T95 l1 x5_1).f0) ((rd_T95 l1 x5_1).f1) ((rd_T95 l1 x5_1).f2) false _ A7.out).mono ?_
        rintro e w12 ⟨rfl,hb⟩
        refine⟨_,rfl,?_⟩
        have n0_:=am (below_step bl hb)
        clear HB
        have HB:=n0_
        clear n0_
        (try clear hb)
        (try clear hb2)
        (try clear hk)
        (try clear hi)
        refine hK.out _ _ ⟨((HB.out.cell (World.block_lt_of_cell? w _ hw353_0)).trans hw353_0),((HB.out.cell (World.block_lt_of_cell? w _ hw353_1)).trans hw353_1),((HB.out.cell (World.block_lt_of_cell? w _ hw353_2)).trans hw353_2),((HB.out.cell (World.block_lt_of_cell? w _ hw354_0)).trans hw354_0),((HB.out.cell (World.block_lt_of_cell? w _ hw354_1)).trans hw354_1),((HB.out.cell (World.block_lt_of_cell? w _ hw354_2)).trans hw354_2)⟩ (fun hHeld=>?_)
        clear hK K
        refine norm_ (a':=?_) ?_ ?_
        rotate_left
        ·show Act.put _ (some 25) _=_
         simp only[Act.put,List.setIfInBounds_toArray,List.set_cons_zero,List.set_cons_succ,i64_w,i32_w]
         rfl
        refine pure_ (i:=9) (N:=some 26) (v:=?_) (a':=?_) #[true,true,true,true,true,true,true,true,true,true] rfl rfl (any_of HT_.out (by kernel_rfl)) (fun _ _ _ h=>h) (Or.inl ⟨by rfl,?_⟩) ?_ ?_
        rotate_left
        ·intro w'
         go_simp
         with_reducible rfl
        rotate_left
        ·simp only[Act.put,List.setIfInBounds_toArray,List.set_cons_zero,List.set_cons_succ,i64_w,i32_w]
         rfl
        refine done_ (done_of HT_.out (by kernel_rfl)) ?_
        try go_wp2
        go_ret
        exact⟨fin1,bl⟩
      ·rw[if_neg c6] at H
       exact absurd H (by simp)
     ·rw[if_neg c5] at H
      exact absurd H (by simp)
    ·rw[if_neg c4] at H
     have c4b0:decide (x5_1<(l0.length:Int))=false:=decide_eq_false c4
     clear c4
     obtain rfl:=Option.some.inj H
     go_wp2
     go_ret
     exact⟨fin1,bl⟩
 ·rw[if_neg c3] at H
  have c3b0:((l0.length:Int) == (l1.length:Int))=false:=beq_eq_false_iff_ne.mpr c3
  have c3b1:((l0.length:Int) != (l1.length:Int))=true:=bne_iff_ne.mpr c3
  have c3b2:(l0.length == l1.length)=false:=by first|simpa using c3|(simp at c3 ⊢;omega)
  obtain rfl:=Option.some.inj H
  go_enter Try.func30,Try.ntmps30
  go_wp2
  go_ret
  exact⟨fin1,bl⟩

end Go.Proofs.Ytjniaiobnbdhhab.PFnExactPlaysAsPromised
