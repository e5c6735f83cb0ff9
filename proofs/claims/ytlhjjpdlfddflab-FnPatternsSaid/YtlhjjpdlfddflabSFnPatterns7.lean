/- The walks of functions that FnPatterns reaches: what they return is what the plain functions of the same names say. Made by a program of this session after the kit's print. No conditions beyond the arguments' being read. -/
import Derived.Test.YtlhjjpdlfddflabSFnPatterns0
import Derived.Test.YtlhjjpdlfddflabSFnPatterns1
import Derived.Test.YtlhjjpdlfddflabSFnPatterns2
import Derived.Test.YtlhjjpdlfddflabSFnPatterns3
namespace Go.Proofs.Ytlhjjpdlfddflab.PFnPatterns
open Go.RowKit Go.Proofs.YtlhjjpdlfddflabW.PrintWords Go.Proofs.YtlhjjpdlfddflabW.PrintLast Go.Proofs.YtlhjjpdlfddflabW.PrintMore
attribute [local go_sem] max2_int min2_int max_two min_two max_three min_three max_four min_four   -- for this text's walks alone
set_option linter.unusedVariables false
set_option linter.unusedSimpArgs false

/-! ### spec_EvenPattern: function 21 -/
mutual
def spec_EvenPattern.j0:Nat→Int→Int→Bool→Option (Int×List Int×Bool)
 | 0,_,_,_=>none
 | k+1,x0,x1,x16=>if x16=true then(some (0,([]:List Int),false)) else(spec_EvenPattern.l0 k x0 x1 0 x1 ([]:List Int))
def spec_EvenPattern.l0:Nat→Int→Int→Int→Int→List Int→Option (Int×List Int×Bool)
 | 0,_,_,_,_,_=>none
 | k+1,x0,x1,x7,x294000,x294001=>if x7<x0 then(if x0=0 then(none) else(if x294001.length<17592186044416 then(spec_EvenPattern.l0 k x0 x1 (wrap64 (x7+1)) x294000 (x294001 ++ [wrap64 (Int.tdiv (wrap64 (x7*x1)) x0)])) else(none))) else(some (x294000,x294001,true))
end
def spec_EvenPattern.f (k:Nat) (a0:Int) (a1:Int):Option (Int×List Int×Bool):=(spec_l1In.f a1 1 24).bind fun t291=>(if t291=true then((spec_l1In.f a0 0 a1).bind fun t292=>(spec_EvenPattern.j0 k a0 a1 (!t292))) else(spec_EvenPattern.j0 k a0 a1 true))
def spec_EvenPattern.T7:Bool×List (List Nat×List Nat):=(true,[([],[]),([0],[0]),([],[]),([],[]),([2,3],[2,3]),([],[]),([4,5],[4,5]),([6],[6]),([1,7],[1,7]),([0,1,2,3,4,5,6,7,8],[]),([9,8,8,0,1,2,3,4,5,6,7,8],[8,9])])
def spec_EvenPattern.B7:List Nat:=[0,1,0,0,12,0,60,124,255,511,1023]
theorem spec_EvenPattern.tab7:rtab .any (opsOf Try.f21 7)=spec_EvenPattern.T7:=by kernel_rfl
theorem spec_EvenPattern.bits7:waitsOk spec_EvenPattern.T7.2 spec_EvenPattern.B7=true:=by kernel_rfl
set_option maxHeartbeats 8000000 in
set_option maxRecDepth 100000 in
theorem spec_EvenPattern.calls (k:Nat) (a0:Int) (a1:Int) (r1:Int) (r2:List Int) (r3:Bool) (w:World) (h:spec_EvenPattern.f k a0 a1=some (r1,r2,r3)) :
  Calls Try.prog 21 #[.int .i64 a0,.int .i64 a1] w fun e w'=>∃ v1_:Value,e = .returned (.tuple #[.agg #[.int .i64 r1,v1_],.bool r3])∧Kd.R (Kd.int .i64) 3 w' w.heap.size (fun _=>True) v1_ r2∧Below w.heap.size w w':=by
 have hu26:=Try.underlying26
 have HB:=am (Below.refl w.heap.size w)
 have H:((spec_l1In.f a1 1 24).bind fun t291=>(if t291=true then((spec_l1In.f a0 0 a1).bind fun t292=>(spec_EvenPattern.j0 k a0 a1 (!t292))) else(spec_EvenPattern.j0 k a0 a1 true)))=some (r1,r2,r3):=h
 clear h
 have HC3:=am H
 clear H
 go_enter Try.func21,Try.ntmps21
 go_upto_region 1 with(first|((with_reducible refine gate_dst (N:=4) rfl ?_);refine box_event ?hg (N:=4) ?hd (cs := #[.int .i64 0,.slice none 0 0]) (t:=26) ?hr ?_;(case hd=>rfl);(case hg=>rfl);(case hr=>first|(go_simp;done)|(go_simp;rfl));intro gb290 hg w4 hbox hb;have n0_:=am (below_step bl hb);have n1_:=am (hbox);have n2_:=am (ge_ bl hg);have n3_:=am (ge_ bl hg);clear HB;have HB:=n0_;have BK290:=n1_;have GW290:=n2_;have GE290:=n3_;clear n0_ n1_ n2_ n3_ hb hbox hg))
 (try simp only[Act.put,List.setIfInBounds_toArray,List.set_cons_zero,List.set_cons_succ])
 go_cut [16] (fun v16 wc=>∃(kq:Nat) (x16_2:Bool),v16 = .bool x16_2∧Aside0 (spec_EvenPattern.j0 kq a0 a1 x16_2=some (r1,r2,r3))∧Aside0 (kq≤k)∧Aside0 (wc.heap[gb290]?=some (.cells #[.int .i64 0,(.slice none 0 0)] 26 (0,0)))∧Aside0 (Below w.heap.size w wc))
 case first =>
  have H:=HC3.out
  clear HC3
  replace H:=Option.bind_eq_some_iff.mp H
  obtain⟨t291,A50,H⟩:=H
  replace H:(if t291=true then((spec_l1In.f a0 0 a1).bind fun t292=>(spec_EvenPattern.j0 k a0 a1 (!t292))) else(spec_EvenPattern.j0 k a0 a1 true))=some (r1,r2,r3):=H
  have A5:=am A50
  clear A50
  by_cases c6:t291=true
  ·subst c6
   have H1:((spec_l1In.f a0 0 a1).bind fun t292=>(spec_EvenPattern.j0 k a0 a1 (!t292)))=some (r1,r2,r3):=by rw[if_pos rfl] at H;exact H
   clear H
   have H:=H1
   clear H1
   replace H:=Option.bind_eq_some_iff.mp H
   obtain⟨t292,A70,H⟩:=H
   replace H:(spec_EvenPattern.j0 k a0 a1 (!t292))=some (r1,r2,r3):=H
   have A7:=am A70
   clear A70
   have H':=am H
   clear H
   go_wp2_with (first|((with_reducible refine gate_callee (f:=34) rfl ?_);refine goesL_ (some 9) rfl rfl Try.func34 (by kernel_rfl) rfl #[.int .i64 a1,.int .i64 1,.int .i64 24] rfl tl ?_;(with_reducible refine(spec_l1In.calls a1 1 24 true _ A5.out).mono ?_);rintro e w' ⟨rfl,⟨nd,rfl⟩⟩;refine⟨_,rfl,?_⟩)|(go_at_call 34;(with_reducible refine(spec_l1In.calls a0 0 a1 t292 _ A7.out).mono ?_);rintro e w' ⟨rfl,⟨nd,rfl⟩⟩))
   go_meet
   case rel=>exact⟨_,(!t292),fin2,H',⟨by first|omega|exact Nat.le_refl _⟩,⟨bup BK290.out⟩,⟨bl⟩⟩
  ·replace c6:=Bool.eq_false_iff.mpr c6
   subst c6
   have H1:(spec_EvenPattern.j0 k a0 a1 true)=some (r1,r2,r3):=by rw[if_neg (show ¬ (false=true) by decide)] at H;exact H
   clear H
   have H:=H1
   clear H1
   have H':=am H
   clear H
   go_wp2_with (first|((with_reducible refine gate_callee (f:=34) rfl ?_);refine goesL_ (some 9) rfl rfl Try.func34 (by kernel_rfl) rfl #[.int .i64 a1,.int .i64 1,.int .i64 24] rfl tl ?_;(with_reducible refine(spec_l1In.calls a1 1 24 false _ A5.out).mono ?_);rintro e w' ⟨rfl,⟨nd,rfl⟩⟩;refine⟨_,rfl,?_⟩))
   go_meet
   case rel=>exact⟨_,(true),fin2,H',⟨by first|omega|exact Nat.le_refl _⟩,⟨bup BK290.out⟩,⟨bl⟩⟩
 case rest =>
  clear HC3
  try clear c2
  try clear p2
  try clear c3
  try clear c6
  obtain⟨kq,x16_2,rfl,HA,HJ2,BK290,HB⟩:=hcut
  cases kq with
  | zero=>exact absurd HA.out (by simp [spec_EvenPattern.j0])
  | succ kj2 =>
   have H:=HA.out
   clear HA
   simp only[spec_EvenPattern.j0] at H
   by_cases c8:x16_2=true
   ·subst c8
    have H1:(some (0,([]:List Int),false))=some (r1,r2,r3):=by rw[if_pos rfl] at H;exact H
    clear H
    have H:=H1
    clear H1
    simp only[Option.some.injEq,Prod.mk.injEq] at H
    obtain⟨rfl,rfl,rfl⟩:=H
    have hcz9_0:wc.cell? ⟨gb290,0,none⟩=some (.int .i64 0):=(blk_cell BK290.out 0).trans rfl
    have hcz9_1:wc.cell? ⟨gb290,1,none⟩=some (.slice none 0 0):=(blk_cell BK290.out 1).trans rfl
    have hfz9_0:=blk_frozen BK290.out 0
    have hfz9_1:=blk_frozen BK290.out 1
    go_wp2
    refine bodyPost_ret (results_ct rfl _ _ gb290 26 #[.int .i64 0,.slice none 0 0] (0,0) _ rfl (by(with_reducible repeat(first|refine bN_ ?_ _|refine bD_ ?_|refine bA_ ?_ _));refine blk_put (cs := #[.int .i64 0,.slice none 0 0]) ?_ 1 _ rfl;(with_reducible repeat(first|refine bN_ ?_ _|refine bD_ ?_|refine bA_ ?_ _));refine blk_put (cs := #[.int .i64 0,.slice none 0 0]) ?_ 0 _ rfl;exact bup BK290.out) Try.underlying26 rfl (by kernel_rfl)) rfl ?_
    exact⟨_,fin1,by first|exact Kd.R_nil _ _ _ _ _|exact Kd.N_nil _ _ _ _ _|exact Kd.V_nil _ _ _ _ _|exact Kd.Q_nil _ _ _ _ _|exact Kd.S_nil _ _ _ _ _,bl⟩
   ·replace c8:=Bool.eq_false_iff.mpr c8
    subst c8
    have H1:(spec_EvenPattern.l0 kj2 a0 a1 0 a1 ([]:List Int))=some (r1,r2,r3):=by rw[if_neg (show ¬ (false=true) by decide)] at H;exact H
    clear H
    have H:=H1
    clear H1
    have H':=am H
    clear H
    go_wp2_with (first|((with_reducible refine gate_dst (N:=6) rfl ?_);refine box_event ?hg (N:=6) ?hd (cs := #[.int .i64 0,.slice none 0 0]) (t:=26) ?hr ?_;(case hd=>rfl);(case hg=>rfl);(case hr=>first|(go_simp;done)|(go_simp;rfl));intro gb293 hg w10 hbox hb;have n0_:=am (blk_below (bup BK290.out) hb);have n1_:=am (below_step bl hb);have n2_:=am (hbox);have n3_:=am (ge_ bl hg);have n4_:=am (ge_ bl hg);have n5_:=am (nl (bup BK290.out) hg);have n6_:=am (ng (bup BK290.out) hg);clear BK290 HB;have BK290:=n0_;have HB:=n1_;have BK293:=n2_;have GW293:=n3_;have GE293:=n4_;have NB290_293:=n5_;have NB293_290:=n6_;clear n0_ n1_ n2_ n3_ n4_ n5_ n6_ hb hbox hg;have hnb11:=NB293_290.out;have hnc11:=NB290_293.out;have hcz12_0:w10.cell? ⟨gb293,0,none⟩=some (.int .i64 0):=(blk_cell BK293.out 0).trans rfl;have hcz12_1:w10.cell? ⟨gb293,1,none⟩=some (.slice none 0 0):=(blk_cell BK293.out 1).trans rfl;have hfz12_0:=blk_frozen BK293.out 0;have hfz12_1:=blk_frozen BK293.out 1))
    go_loopg [7] kj2 (fun kq v7 w'=>∃(x7_2:Int) (x294001_2:List Int) (u294001:Value),v7 = .int .i64 x7_2∧Aside0 (spec_EvenPattern.l0 kq a0 a1 x7_2 a1 x294001_2=some (r1,r2,r3))∧Aside0 (kq≤kj2)∧Aside0 (Kd.R (Kd.int .i64) 3 w' w.heap.size (fun _=>True) u294001 x294001_2)∧Aside0 (w'.heap[gb290]?=some (.cells #[.int .i64 0,(.slice none 0 0)] 26 (0,0)))∧Aside0 (w'.heap[gb293]?=some (.cells #[.int .i64 a1,u294001] 26 (0,0)))∧Aside0 (Below w.heap.size w w'))
    case atStart=>exact⟨(0),(([]:List Int)),(.slice none 0 0),fin2,H',⟨Nat.le_refl _⟩,⟨by first|exact Kd.R_nil _ _ _ _ _|exact Kd.N_nil _ _ _ _ _|exact Kd.V_nil _ _ _ _ _|exact Kd.Q_nil _ _ _ _ _|exact Kd.S_nil _ _ _ _ _⟩,⟨by(with_reducible repeat(first|refine bN_ ?_ _|refine bD_ ?_|refine bA_ ?_ _));refine blk_far ?_ NB290_293.out _;(with_reducible repeat(first|refine bN_ ?_ _|refine bD_ ?_|refine bA_ ?_ _));refine blk_far ?_ NB290_293.out _;exact bup BK290.out⟩,⟨by(with_reducible repeat(first|refine bN_ ?_ _|refine bD_ ?_|refine bA_ ?_ _));refine blk_put (cs := #[.int .i64 a1,.slice none 0 0]) ?_ 1 _ rfl;(with_reducible repeat(first|refine bN_ ?_ _|refine bD_ ?_|refine bA_ ?_ _));refine blk_put (cs := #[.int .i64 0,.slice none 0 0]) ?_ 0 _ rfl;exact bup BK293.out⟩,⟨bl⟩⟩
    case round =>
     clear H'
     try clear c1
     try clear c2
     try clear p2
     try clear c3
     try clear c6
     try clear c8
     try clear c11
     try clear hcz12_0
     try clear hcz12_1
     try clear hcz9_0
     try clear hcz9_1
     try clear hfz12_0
     try clear hfz12_1
     try clear hfz9_0
     try clear hfz9_1
     try clear p2
     obtain⟨x7_2,x294001_2,u294001,rfl,HA,HK2,HO_294001,BK290,BK293,HB⟩:=hrel
     cases gk with
     | zero=>exact absurd HA.out (by simp [spec_EvenPattern.l0])
     | succ k2 =>
      have H:=HA.out
      clear HA
      simp only[spec_EvenPattern.l0] at H
      by_cases c13:x7_2<a0
      ·rw[if_pos c13] at H
       have c13b0:decide (x7_2<a0)=true:=decide_eq_true c13
       clear c13
       by_cases c14:a0=0
       ·rw[if_pos c14] at H
        exact absurd H (by simp)
       ·rw[if_neg c14] at H
        have c14b0:(a0 == 0)=false:=beq_eq_false_iff_ne.mpr c14
        have c14b1:(a0 != 0)=true:=bne_iff_ne.mpr c14
        by_cases c15:x294001_2.length<17592186044416
        ·rw[if_pos c15] at H
         have LMc15:=am c15
         clear c15
         obtain⟨y294,hy294⟩:∃ y_:List Int,y_=(x294001_2 ++ [wrap64 (Int.tdiv (wrap64 (x7_2*a1)) a0)]):=⟨_,rfl⟩
         replace H:(spec_EvenPattern.l0 k2 a0 a1 (wrap64 (x7_2+1)) a1 y294)=some (r1,r2,r3):=by first|(rw[hy294];with_reducible exact H)|(have H2_:=(Option.bind_some _ _).symm.trans H;rw[hy294];with_reducible exact H2_)|(have H2_:=(Option.bind_some _ _).symm.trans H;with_reducible exact H2_)|with_reducible exact H|(rw[hy294];exact H)|exact H
         have Ny294:=am hy294
         clear hy294
         have H':=am H
         clear H
         try go_wp2
         have n0_:=am (Kd.R_drew HO_294001.out)
         have n1_:=am (bD_ BK290.out)
         have n2_:=am (bD_ BK293.out)
         have n3_:=am (below_drew1 HB.out)
         clear HO_294001
         clear BK290
         clear BK293
         clear HB
         have HO_294001:=n0_
         have BK290:=n1_
         have BK293:=n2_
         have HB:=n3_
         clear n0_ n1_ n2_ n3_
         refine start_ (n:=11) (S:=fun w'=>w'.cell? ⟨gb293,0,none⟩=some (.int .i64 a1)∧w'.cell? ⟨gb293,1,none⟩=some (u294001)) (ds:=[10]) #[false,false,false,false,false,false,false,false,false,false,false] (by kernel_rfl) rfl rfl ⟨(blk_cell BK293.out 0).trans rfl,(blk_cell BK293.out 1).trans rfl⟩ (fun hHeld=>?_);refine with_tabW spec_EvenPattern.tab7 spec_EvenPattern.bits7 (fun HT_ HW_=>?_)
         generalize wr.drew=w16 at HO_294001 BK290 BK293 HB hHeld ⊢
         refine pure_ (i:=0) (N:=some 25) (v:=?_) (a':=?_) #[true,false,false,false,false,false,false,false,false,false,false] rfl rfl (any_of HT_.out (by kernel_rfl)) (fun _ _ _ h=>h) (Or.inl ⟨by rfl,?_⟩) ?_ ?_
         rotate_left
         ·intro w'
          go_simp
          with_reducible rfl
         rotate_left
         ·simp only[Act.put,List.setIfInBounds_toArray,List.set_cons_zero,List.set_cons_succ,i64_w,i32_w]
          rfl
         refine pure_ (i:=2) (N:=some 27) (v:=?_) (a':=?_) #[true,false,true,false,false,false,false,false,false,false,false] rfl rfl (any_of HT_.out (by kernel_rfl)) (fun _ _ _ h=>h) (Or.inl ⟨by rfl,?_⟩) ?_ ?_
         rotate_left
         ·intro w'
          go_simp
          with_reducible rfl
         rotate_left
         ·simp only[Act.put,List.setIfInBounds_toArray,List.set_cons_zero,List.set_cons_succ,i64_w,i32_w]
          rfl
         refine pure_ (i:=3) (N:=some 28) (v:=?_) (a':=?_) #[true,false,true,true,false,false,false,false,false,false,false] rfl rfl (any_of HT_.out (by kernel_rfl)) (fun _ _ _ h=>h) (Or.inl ⟨by rfl,?_⟩) ?_ ?_
         rotate_left
         ·intro w'
          go_simp
          with_reducible rfl
         rotate_left
         ·simp only[Act.put,List.setIfInBounds_toArray,List.set_cons_zero,List.set_cons_succ,i64_w,i32_w]
          rfl
         refine pure_ (i:=4) (N:=some 29) (v:=?_) (a':=?_) #[true,false,true,true,true,false,false,false,false,false,false] rfl rfl (any_of HT_.out (by kernel_rfl)) (fun _ _ _ h=>h) (Or.inl ⟨by rfl,?_⟩) ?_ ?_
         rotate_left
         ·intro w'
          go_simp
          with_reducible rfl
         rotate_left
         ·simp only[Act.put,List.setIfInBounds_toArray,List.set_cons_zero,List.set_cons_succ,i64_w,i32_w]
          rfl
         refine pure_ (i:=5) (N:=some 30) (v:=?_) (a':=?_) #[true,false,true,true,true,true,false,false,false,false,false] rfl rfl (any_of HT_.out (by kernel_rfl)) (fun _ _ _ h=>h) (Or.inl ⟨by rfl,?_⟩) ?_ ?_
         rotate_left
         ·intro w'
          go_simp
          with_reducible rfl
         rotate_left
         ·simp only[Act.put,List.setIfInBounds_toArray,List.set_cons_zero,List.set_cons_succ,i64_w,i32_w]
          rfl
         refine pure_ (i:=6) (N:=some 31) (v:=?_) (a':=?_) #[true,false,true,true,true,true,true,false,false,false,false] rfl rfl (any_of HT_.out (by kernel_rfl)) (fun _ _ _ h=>h) (Or.inl ⟨by rfl,?_⟩) ?_ ?_
         rotate_left
         ·intro w'
          go_simp
          with_reducible rfl
         rotate_left
         ·simp only[Act.put,List.setIfInBounds_toArray,List.set_cons_zero,List.set_cons_succ,i64_w,i32_w]
          rfl
         refine take_ (i:=1) (N:=some 26) (v:=?_) (a':=?_) #[true,true,true,true,true,true,true,false,false,false,false] rfl rfl (take_ofW HT_.out HW_.out (by kernel_rfl)) (fun _ _ _ h=>h) (Or.inl ⟨by rfl,?_⟩) hHeld ?_ ?_
         rotate_left
         ·rintro w' ⟨s0,s1⟩
          go_simp
          with_reducible rfl
         rotate_left
         ·simp only[Act.put,List.setIfInBounds_toArray,List.set_cons_zero,List.set_cons_succ,i64_w,i32_w]
          rfl
         refine one_ (i:=7) (N:=some 32) #[true,true,true,true,true,true,true,true,false,false,false] rfl rfl (one_of HT_.out (by kernel_rfl)) (by decide) (fun K hK=>?_)
         refine value_ (w1:=?_) (v:=?_) (by rfl) rfl ?_ ?_
         rotate_left 2
         ·go_simp
          constructor
          ·rfl
          ·rfl
         refine hK.out _ _ ⟨(blk_cell (bA_ BK293.out _) 0).trans rfl,(blk_cell (bA_ BK293.out _) 1).trans rfl⟩ (fun hHeld=>?_)
         clear hK K
         refine norm_ (a':=?_) ?_ ?_
         rotate_left
         ·show Act.put _ (some 32) _=_
          simp only[Act.put,List.setIfInBounds_toArray,List.set_cons_zero,List.set_cons_succ,i64_w,i32_w]
          rfl
         refine one_ (i:=8) (N:=some 33) #[true,true,true,true,true,true,true,true,true,false,false] rfl rfl (one_of HT_.out (by kernel_rfl)) (by decide) (fun K hK=>?_)
         refine Kd.R_append_step (Kd.int .i64) (w0:=w) w.heap.size (by rfl) (.tmp 26) (.tmp 32) 24 3 (.int .i64 0) 8 rfl Try.underlying24 info3 rfl (by decide) (by omega) u294001 x294001_2 (wrap64 (Int.tdiv (wrap64 (x7_2*a1)) a0)) [.int .i64 (wrap64 (Int.tdiv (wrap64 (x7_2*a1)) a0))] (fun _=>True) (fun _=>False) rfl rfl ?aP (fun _ hk=>hk.elim) ?aF ?aO ?aB ?aS ?aL ?_
         (case aP=>exact rfl)
         (case aB=>exact bl)
         (case aF=>exact(fun _ _=>trivial))
         (case aO=>exact(rup HO_294001.out))
         (case aS=>exact(below_size bl))
         (case aL=>have:=LMc15.out;omega)
         intro v295 w17 ho hb hg hat
         rw[← Ny294.out] at ho
         have n0_:=am (blk_grown (bup BK290.out) hg (Kd.R_ne HO_294001.out BK290.out (by decide)))
         have n1_:=am (blk_grown (bup BK293.out) hg (Kd.R_ne HO_294001.out BK293.out (by decide)))
         have n2_:=am (hb)
         have n3_:=am (ho)
         clear BK290
         clear BK293
         clear HB
         clear HO_294001
         have BK290:=n0_
         have BK293:=n1_
         have HB:=n2_
         have HO296:=n3_
         clear n0_ n1_ n2_ n3_
         clear ho hb hg hat
         obtain⟨Ao18,co18,eo18⟩:=Kd.R_slice HO296.out
         (first|subst eo18|(injection eo18 with f1_ f2_ f3_;have f4_:=f1_.symm;have f5_:=f3_.symm;clear f1_ f2_ f3_;subst f4_;subst f5_))
         refine hK.out _ _ ⟨(blk_cell BK293.out 0).trans rfl,(blk_cell BK293.out 1).trans rfl⟩ (fun hHeld=>?_)
         clear hK K
         refine norm_ (a':=?_) ?_ ?_
         rotate_left
         ·show Act.put _ (some 33) _=_
          simp only[Act.put,List.setIfInBounds_toArray,List.set_cons_zero,List.set_cons_succ,i64_w,i32_w]
          rfl
         refine pure_ (i:=9) (N:=some 34) (v:=?_) (a':=?_) #[true,true,true,true,true,true,true,true,true,true,false] rfl rfl (any_of HT_.out (by kernel_rfl)) (fun _ _ _ h=>h) (Or.inl ⟨by rfl,?_⟩) ?_ ?_
         rotate_left
         ·intro w'
          go_simp
          with_reducible rfl
         rotate_left
         ·simp only[Act.put,List.setIfInBounds_toArray,List.set_cons_zero,List.set_cons_succ,i64_w,i32_w]
          rfl
         refine last_ (i:=10) (N:=none) #[true,true,true,true,true,true,true,true,true,true,true] rfl rfl (one_of HT_.out (by kernel_rfl)) (by decide) (fun K hK=>?_)
         have hs19:w17.cell? ⟨gb293,1,none⟩=some (u294001):=(blk_cell BK293.out 1).trans rfl
         have hfs19:=blk_frozen BK293.out 1
         have hns19_0:=NB290_293.out
         have hms19_0:=NB293_290.out
         refine skip_ (w1:=?_) (by rfl) rfl ?_ ?_
         rotate_left
         ·go_simp
          rfl
         refine hK.out _ _ ?_
         clear hK K
         refine done_ (done_of HT_.out (by kernel_rfl)) ?_
         try go_wp2
         go_roundg k2
         case measure=>have:=HJ2.out;have:=HK2.out;omega
         case rel=>exact⟨(wrap64 (x7_2+1)),(y294),(.slice Ao18 y294.length co18),fin2,H',⟨by have:=HJ2.out;have:=HK2.out;omega⟩,⟨rup (Kd.R_mono (Kd.R_far (p:=⟨gb293,1,none⟩) (Kd.R_types HO296.out BK293.out (by decide)) (fun _ hk=>hk.2) (.slice Ao18 y294.length co18)) (fun _ hk=>trivial))⟩,⟨by(with_reducible repeat(first|refine bN_ ?_ _|refine bD_ ?_|refine bA_ ?_ _));refine blk_far ?_ NB290_293.out _;exact bup BK290.out⟩,⟨by(with_reducible repeat(first|refine bN_ ?_ _|refine bD_ ?_|refine bA_ ?_ _));refine blk_put (cs := #[.int .i64 a1,u294001]) ?_ 1 _ rfl;exact bup BK293.out⟩,⟨bl⟩⟩
        ·rw[if_neg c15] at H
         exact absurd H (by simp)
      ·rw[if_neg c13] at H
       have c13b0:decide (x7_2<a0)=false:=decide_eq_false c13
       clear c13
       simp only[Option.some.injEq,Prod.mk.injEq] at H
       obtain⟨rfl,rfl,rfl⟩:=H
       have hnb20:=NB293_290.out
       have hnc20:=NB290_293.out
       have hcz21_0:wr.cell? ⟨gb293,0,none⟩=some (.int .i64 a1):=(blk_cell BK293.out 0).trans rfl
       have hcz21_1:wr.cell? ⟨gb293,1,none⟩=some (u294001):=(blk_cell BK293.out 1).trans rfl
       have hfz21_0:=blk_frozen BK293.out 0
       have hfz21_1:=blk_frozen BK293.out 1
       have hcz22_0:wr.cell? ⟨gb290,0,none⟩=some (.int .i64 0):=(blk_cell BK290.out 0).trans rfl
       have hcz22_1:wr.cell? ⟨gb290,1,none⟩=some (.slice none 0 0):=(blk_cell BK290.out 1).trans rfl
       have hfz22_0:=blk_frozen BK290.out 0
       have hfz22_1:=blk_frozen BK290.out 1
       obtain⟨Ao23,co23,eo23⟩:=Kd.R_slice HO_294001.out
       subst eo23
       go_wp2
       refine bodyPost_ret (results_ct rfl _ _ gb290 26 #[.int .i64 a1,.slice Ao23 x294001_2.length co23] (0,0) _ rfl (by(with_reducible repeat(first|refine bN_ ?_ _|refine bD_ ?_|refine bA_ ?_ _));refine blk_put (cs := #[.int .i64 a1,.slice none 0 0]) ?_ 1 _ rfl;(with_reducible repeat(first|refine bN_ ?_ _|refine bD_ ?_|refine bA_ ?_ _));refine blk_put (cs := #[.int .i64 0,.slice none 0 0]) ?_ 0 _ rfl;exact bup BK290.out) Try.underlying26 rfl (by kernel_rfl)) rfl ?_
       exact⟨_,fin1,rup (Kd.R_mono (Kd.R_far (p:=⟨gb290,1,none⟩) (Kd.R_far (p:=⟨gb290,0,none⟩) (Kd.R_types HO_294001.out BK290.out (by decide)) (fun _ hk=>hk.2) (.int .i64 a1)) (fun _ hk=>hk.2) (.slice Ao23 x294001_2.length co23)) (fun _ hk=>trivial)),bl⟩

/-! ### spec_l1Cur_of: function 36 -/
def spec_l1Cur_of.f (s0_0:List Int) (s0_1:Int) (s0_2:Int) (l1:List ByteArray):Option (ByteArray×Int×Int):=(spec_l1Cur_pick.f s0_0 s0_1 s0_2 (l1.length:Int)).bind fun bt297=>(if 0≤bt297.1 then(if bt297.1<(l1.length:Int) then(some (rdOf ByteArray.empty l1 bt297.1,bt297.2.1,bt297.2.2)) else(none)) else(none))
set_option maxHeartbeats 8000000 in
set_option maxRecDepth 100000 in
theorem spec_l1Cur_of.calls (g:Nat) (s0_0:List Int) (s0_1:Int) (s0_2:Int) (A1:Option Addr) (c1:Nat) (l1:List ByteArray) (r1:ByteArray) (r2:Int) (r3:Int) (w0 w:World) (hI:IsS53 w0 w g s0_0 s0_1 s0_2) (hB:Below w0.heap.size w0 w) (hr1:Kd.C Kd.string w A1 l1.length l1) (hc1:l1.length≤c1) (hf1:∀ ad,A1=some ad→0<l1.length→ad.block≠g) (h:spec_l1Cur_of.f s0_0 s0_1 s0_2 l1=some (r1,r2,r3)) :
  Calls Try.prog 36 #[.pointer (some ⟨g,0,none⟩),.slice A1 l1.length c1] w fun e w'=>e = .returned (.string r1)∧IsS53 w0 w' g s0_0 r2 r3∧Below w0.heap.size w0 w'∧KeepBut w w' g none:=by
 have HR1:=am hr1
 have HC1:=am hc1
 clear hr1 hc1
 have HI0:=am hI
 have HK:=am (KeepBut.refl w g none)
 have HL:=am hB.size
 clear hI
 have HW0:=am hB.size
 have HB:=am hB
 clear hB
 have H:((spec_l1Cur_pick.f s0_0 s0_1 s0_2 (l1.length:Int)).bind fun bt297=>(if 0≤bt297.1 then(if bt297.1<(l1.length:Int) then(some (rdOf ByteArray.empty l1 bt297.1,bt297.2.1,bt297.2.2)) else(none)) else(none)))=some (r1,r2,r3):=h
 clear h
 replace H:=Option.bind_eq_some_iff.mp H
 obtain⟨⟨t297,t298,t299⟩,A30,H⟩:=H
 replace H:(if 0≤t297 then(if t297<(l1.length:Int) then(some (rdOf ByteArray.empty l1 t297,t298,t299)) else(none)) else(none))=some (r1,r2,r3):=H
 have A3:=am A30
 clear A30
 by_cases c4:0≤t297
 ·rw[if_pos c4] at H
  have c4b0:decide (0≤t297)=true:=decide_eq_true c4
  clear c4
  by_cases c5:t297<(l1.length:Int)
  ·rw[if_pos c5] at H
   have c5b0:decide (t297<(l1.length:Int))=true:=decide_eq_true c5
   clear c5
   simp only[Option.some.injEq,Prod.mk.injEq] at H
   obtain⟨rfl,rfl,rfl⟩:=H
   go_enter Try.func36,Try.ntmps36
   go_wp2_with (first|((with_reducible refine gate_callee (f:=41) rfl ?_);refine goesL_ (some 9) rfl rfl Try.func41 (by kernel_rfl) rfl #[.pointer (some ⟨g,0,none⟩),.int .i64 (l1.length:Int)] rfl tl ?_;(with_reducible refine(spec_l1Cur_pick.calls g s0_0 s0_1 s0_2 (l1.length:Int) t297 t298 t299 w0 _ ?side1 ?side2 A3.out).mono ?_);(case side1=>repeat(first|(with_reducible first|exact HI0.out|apply IsS53.alloc|apply IsS53.drewN|apply IsS53.drew|apply IsS53.set_1|apply IsS53.set_2)|exact HI0.out));(case side2=>repeat(first|(with_reducible first|exact HB.out|apply below_alloc|apply pw_below_drewN|apply below_drew1|refine below_set ?_ (IsS53.ge HI0.out))|exact HB.out));rintro e w6 ⟨rfl,hi,hb,hk⟩;refine⟨_,rfl,?_⟩;have n0_:=am (KeepBut.trans (by repeat(first|(with_reducible first|exact HK.out|apply KeepBut.set_|apply keep_drewN|apply keep_drew|apply keep_alloc)|exact HK.out)) hk (.inl rfl));have n1_:=am (hb);have n2_:=am (hi);clear HK HB HI0;have HK:=n0_;have HB:=n1_;have HI0:=n2_;clear n0_ n1_ n2_;(try clear hb);(try clear hb2);(try clear hk);(try clear hi);have p300:0≤(t297:Int):=od;have q300:t297<(l1.length:Int):=od;obtain⟨ad300,e300,hx300_0⟩:=Kd.at_string HR1.out t297 p300 q300;cases e300;replace hx300_0:=keep_cell HK.out hx300_0 (by first|(rw[add_block];exact hf1 _ rfl (by omega))|exact hf1 _ rfl (by omega)|exact hf1 ad300 rfl (by omega));replace p300:=eq_true p300;replace q300:=eq_true q300))
   go_ret
   exact⟨fin1,by repeat(first|(with_reducible first|exact HI0.out|apply IsS53.alloc|apply IsS53.drewN|apply IsS53.drew|apply IsS53.set_1|apply IsS53.set_2)|exact HI0.out),by repeat(first|(with_reducible first|exact HB.out|apply below_alloc|apply pw_below_drewN|apply below_drew1|refine below_set ?_ (IsS53.ge HI0.out))|exact HB.out),by repeat(first|(with_reducible first|exact HK.out|apply KeepBut.set_|apply keep_drewN|apply keep_drew|apply keep_alloc)|exact HK.out)⟩
  ·rw[if_neg c5] at H
   exact absurd H (by simp)
 ·rw[if_neg c4] at H
  exact absurd H (by simp)

/-! ### spec_l1Cur_spoilt: function 38 -/
mutual
def spec_l1Cur_spoilt.l0:Nat→ByteArray→ByteArray→Int→List Int→Int→Int→Option (ByteArray×Int×Int)
 | 0,_,_,_,_,_,_=>none
 | k+1,x1,x2,x7,x1000,x1001,x1002=>if x7>0 then(spec_l1Cur_spoilt.j1 k x1 x2 x7 (decide ((x1.size:Int)>0)) x1000 x1001 x1002) else(spec_l1Cur_spoilt.j1 k x1 x2 x7 false x1000 x1001 x1002)
def spec_l1Cur_spoilt.j1:Nat→ByteArray→ByteArray→Int→Bool→List Int→Int→Int→Option (ByteArray×Int×Int)
 | 0,_,_,_,_,_,_,_=>none
 | k+1,x1,x2,x7,x19,x1000,x1001,x1002=>if x19=true then((spec_l1Cur_pick.f x1000 x1001 x1002 (x1.size:Int)).bind fun bt304=>((spec_l1Cur_pick.f x1000 bt304.2.1 bt304.2.2 (x2.size:Int)).bind fun bt307=>(if 0≤bt307.1 then(if bt307.1<(x2.size:Int) then((some (([bt x2 bt307.1]:List Int):List Int)).bind fun y310=>((spec_l1Cur_pick.f x1000 bt307.2.1 bt307.2.2 3).bind fun bt313=>(if bt313.1=0 then(if 0≤bt304.1 then(if bt304.1≤(x1.size:Int) then(if(x1.extract 0 (bt304.1:Int).toNat).size+(strOfNums y310).size≤9223372036854775807 then(if((x1.extract 0 (bt304.1:Int).toNat) ++ (strOfNums y310)).size+(x1.extract (bt304.1:Int).toNat x1.size).size≤9223372036854775807 then(spec_l1Cur_spoilt.l0 k (((x1.extract 0 (bt304.1:Int).toNat) ++ (strOfNums y310)) ++ (x1.extract (bt304.1:Int).toNat x1.size)) x2 (wrap64 (x7 - 1)) x1000 bt313.2.1 bt313.2.2) else(none)) else(none)) else(none)) else(none)) else(if bt313.1=1 then(if 0≤bt304.1 then(if bt304.1≤(x1.size:Int) then(if(x1.extract 0 (bt304.1:Int).toNat).size+(strOfNums y310).size≤9223372036854775807 then(if 0≤(wrap64 (bt304.1+1)) then(if(wrap64 (bt304.1+1))≤(x1.size:Int) then(if((x1.extract 0 (bt304.1:Int).toNat) ++ (strOfNums y310)).size+(x1.extract ((wrap64 (bt304.1+1)):Int).toNat x1.size).size≤9223372036854775807 then(spec_l1Cur_spoilt.l0 k (((x1.extract 0 (bt304.1:Int).toNat) ++ (strOfNums y310)) ++ (x1.extract ((wrap64 (bt304.1+1)):Int).toNat x1.size)) x2 (wrap64 (x7 - 1)) x1000 bt313.2.1 bt313.2.2) else(none)) else(none)) else(none)) else(none)) else(none)) else(none)) else(if 0≤bt304.1 then(if bt304.1≤(x1.size:Int) then(if 0≤(wrap64 (bt304.1+1)) then(if(wrap64 (bt304.1+1))≤(x1.size:Int) then(if(x1.extract 0 (bt304.1:Int).toNat).size+(x1.extract ((wrap64 (bt304.1+1)):Int).toNat x1.size).size≤9223372036854775807 then(spec_l1Cur_spoilt.l0 k ((x1.extract 0 (bt304.1:Int).toNat) ++ (x1.extract ((wrap64 (bt304.1+1)):Int).toNat x1.size)) x2 (wrap64 (x7 - 1)) x1000 bt313.2.1 bt313.2.2) else(none)) else(none)) else(none)) else(none)) else(none)))))) else(none)) else(none)))) else(some (x1,x1001,x1002))
end
def spec_l1Cur_spoilt.f (k:Nat) (s0_0:List Int) (s0_1:Int) (s0_2:Int) (a1:ByteArray) (a2:ByteArray):Option (ByteArray×Int×Int):=(spec_l1Cur_pick.f s0_0 s0_1 s0_2 2).bind fun bt301=>(spec_l1Cur_spoilt.l0 k a1 a2 (wrap64 (1+bt301.1)) s0_0 bt301.2.1 bt301.2.2)
set_option maxHeartbeats 8000000 in
set_option maxRecDepth 100000 in
theorem spec_l1Cur_spoilt.calls (k:Nat) (g:Nat) (s0_0:List Int) (s0_1:Int) (s0_2:Int) (a1:ByteArray) (a2:ByteArray) (r1:ByteArray) (r2:Int) (r3:Int) (w0 w:World) (hI:IsS53 w0 w g s0_0 s0_1 s0_2) (hB:Below w0.heap.size w0 w) (h:spec_l1Cur_spoilt.f k s0_0 s0_1 s0_2 a1 a2=some (r1,r2,r3)) :
  Calls Try.prog 38 #[.pointer (some ⟨g,0,none⟩),.string a1,.string a2] w fun e w'=>e = .returned (.string r1)∧IsS53 w0 w' g s0_0 r2 r3∧Below w0.heap.size w0 w'∧KeepBut w w' g none:=by
 have HI0:=am hI
 have HK:=am (KeepBut.refl w g none)
 have HL:=am hB.size
 clear hI
 have HW0:=am hB.size
 have HB:=am hB
 clear hB
 have H:((spec_l1Cur_pick.f s0_0 s0_1 s0_2 2).bind fun bt301=>(spec_l1Cur_spoilt.l0 k a1 a2 (wrap64 (1+bt301.1)) s0_0 bt301.2.1 bt301.2.2))=some (r1,r2,r3):=h
 clear h
 replace H:=Option.bind_eq_some_iff.mp H
 obtain⟨⟨t301,t302,t303⟩,A40,H⟩:=H
 replace H:(spec_l1Cur_spoilt.l0 k a1 a2 (wrap64 (1+t301)) s0_0 t302 t303)=some (r1,r2,r3):=H
 have A4:=am A40
 clear A40
 have H':=am H
 clear H
 go_enter Try.func38,Try.ntmps38
 go_wp2_with (first|(go_at_call 41;(with_reducible refine(spec_l1Cur_pick.calls g s0_0 s0_1 s0_2 2 t301 t302 t303 w0 _ ?side1 ?side2 A4.out).mono ?_);(case side1=>repeat(first|(with_reducible first|exact HI0.out|apply IsS53.alloc|apply IsS53.drewN|apply IsS53.drew|apply IsS53.set_1|apply IsS53.set_2)|exact HI0.out));(case side2=>repeat(first|(with_reducible first|exact HB.out|apply below_alloc|apply pw_below_drewN|apply below_drew1|refine below_set ?_ (IsS53.ge HI0.out))|exact HB.out));rintro e w5 ⟨rfl,hi,hb,hk⟩;have n0_:=am (KeepBut.trans (by repeat(first|(with_reducible first|exact HK.out|apply KeepBut.set_|apply keep_drewN|apply keep_drew|apply keep_alloc)|exact HK.out)) hk (.inl rfl));have n1_:=am (hb);have n2_:=am (hi);clear HK HB HI0;have HK:=n0_;have HB:=n1_;have HI0:=n2_;clear n0_ n1_ n2_;(try clear hb);(try clear hb2);(try clear hk);(try clear hi)))
 repeat(go_quiet (first|(go_at_call 41;(with_reducible refine(spec_l1Cur_pick.calls g s0_0 s0_1 s0_2 2 t301 t302 t303 w0 _ ?side1 ?side2 A4.out).mono ?_);(case side1=>repeat(first|(with_reducible first|exact HI0.out|apply IsS53.alloc|apply IsS53.drewN|apply IsS53.drew|apply IsS53.set_1|apply IsS53.set_2)|exact HI0.out));(case side2=>repeat(first|(with_reducible first|exact HB.out|apply below_alloc|apply pw_below_drewN|apply below_drew1|refine below_set ?_ (IsS53.ge HI0.out))|exact HB.out));rintro e w5 ⟨rfl,hi,hb,hk⟩;have n0_:=am (KeepBut.trans (by repeat(first|(with_reducible first|exact HK.out|apply KeepBut.set_|apply keep_drewN|apply keep_drew|apply keep_alloc)|exact HK.out)) hk (.inl rfl));have n1_:=am (hb);have n2_:=am (hi);clear HK HB HI0;have HK:=n0_;have HB:=n1_;have HI0:=n2_;clear n0_ n1_ n2_;(try clear hb);(try clear hb2);(try clear hk);(try clear hi)));try go_wp2_with (first|(go_at_call 41;(with_reducible refine(spec_l1Cur_pick.calls g s0_0 s0_1 s0_2 2 t301 t302 t303 w0 _ ?side1 ?side2 A4.out).mono ?_);(case side1=>repeat(first|(with_reducible first|exact HI0.out|apply IsS53.alloc|apply IsS53.drewN|apply IsS53.drew|apply IsS53.set_1|apply IsS53.set_2)|exact HI0.out));(case side2=>repeat(first|(with_reducible first|exact HB.out|apply below_alloc|apply pw_below_drewN|apply below_drew1|refine below_set ?_ (IsS53.ge HI0.out))|exact HB.out));rintro e w5 ⟨rfl,hi,hb,hk⟩;have n0_:=am (KeepBut.trans (by repeat(first|(with_reducible first|exact HK.out|apply KeepBut.set_|apply keep_drewN|apply keep_drew|apply keep_alloc)|exact HK.out)) hk (.inl rfl));have n1_:=am (hb);have n2_:=am (hi);clear HK HB HI0;have HK:=n0_;have HB:=n1_;have HI0:=n2_;clear n0_ n1_ n2_;(try clear hb);(try clear hb2);(try clear hk);(try clear hi))))
 go_loopg [1,7] k (fun kq v1 v7 w'=>∃(x1_1:ByteArray) (x7_1:Int) (x1001_1:Int) (x1002_1:Int),v1 = .string x1_1∧v7 = .int .i64 x7_1∧Aside0 (spec_l1Cur_spoilt.l0 kq x1_1 a2 x7_1 s0_0 x1001_1 x1002_1=some (r1,r2,r3))∧Aside0 (kq≤k)∧Aside0 (IsS53 w0 w' g s0_0 x1001_1 x1002_1)∧Aside0 (KeepBut w w' g none)∧Aside0 (Below w0.heap.size w0 w'))
 case atStart=>exact⟨(a1),(wrap64 (1+t301)),(t302),(t303),fin2,fin2,H',⟨Nat.le_refl _⟩,⟨by repeat(first|(with_reducible first|exact HI0.out|apply IsS53.alloc|apply IsS53.drewN|apply IsS53.drew|apply IsS53.set_1|apply IsS53.set_2)|exact HI0.out)⟩,⟨by repeat(first|(with_reducible first|exact HK.out|apply KeepBut.set_|apply keep_drewN|apply keep_drew|apply keep_alloc)|exact HK.out)⟩,⟨by repeat(first|(with_reducible first|exact HB.out|apply below_alloc|apply pw_below_drewN|apply below_drew1|refine below_set ?_ (IsS53.ge HI0.out))|exact HB.out)⟩⟩
 case round =>
  clear H'
  try clear p2
  try clear c3
  obtain⟨x1_1,x7_1,x1001_1,x1002_1,rfl,rfl,HA,HK1,HI0,HK,HB⟩:=hrel
  cases gk with
  | zero=>exact absurd HA.out (by simp [spec_l1Cur_spoilt.l0])
  | succ k1 =>
   have H:=HA.out
   clear HA
   simp only[spec_l1Cur_spoilt.l0] at H
   have HC6:=am H
   clear H
   go_upto_region 2 with(fail)
   repeat(go_quiet (fail);go_upto_region 2 with(fail))
   go_cut [19] (fun v19 wc=>∃(kq:Nat) (x19_5:Bool),v19 = .bool x19_5∧Aside0 (spec_l1Cur_spoilt.j1 kq x1_1 a2 x7_1 x19_5 s0_0 x1001_1 x1002_1=some (r1,r2,r3))∧Aside0 (kq≤k1)∧Aside0 (IsS53 w0 wc g s0_0 x1001_1 x1002_1)∧Aside0 (KeepBut w wc g none)∧Aside0 (Below w0.heap.size w0 wc))
   case first =>
    have H:=HC6.out
    clear HC6
    by_cases c7:x7_1>0
    ·rw[if_pos c7] at H
     have c7b0:decide (0<x7_1)=true:=decide_eq_true c7
     clear c7
     (first|rw[c7b0]|(simp only[i64_w,i32_w];rw[c7b0])|skip)
     have H':=am H
     clear H
     go_wp2
     repeat(go_quiet (fail);try go_wp2)
     go_meet
     case rel=>exact⟨_,(decide ((x1_1.size:Int)>0)),fin2,H',⟨by have:=HK1.out;first|omega|exact Nat.le_refl _⟩,⟨by repeat(first|(with_reducible first|exact HI0.out|apply IsS53.alloc|apply IsS53.drewN|apply IsS53.drew|apply IsS53.set_1|apply IsS53.set_2)|exact HI0.out)⟩,⟨by repeat(first|(with_reducible first|exact HK.out|apply KeepBut.set_|apply keep_drewN|apply keep_drew|apply keep_alloc)|exact HK.out)⟩,⟨by repeat(first|(with_reducible first|exact HB.out|apply below_alloc|apply pw_below_drewN|apply below_drew1|refine below_set ?_ (IsS53.ge HI0.out))|exact HB.out)⟩⟩
    ·rw[if_neg c7] at H
     have c7b0:decide (0<x7_1)=false:=decide_eq_false c7
     clear c7
     (first|rw[c7b0]|(simp only[i64_w,i32_w];rw[c7b0])|skip)
     have H':=am H
     clear H
     go_wp2
     repeat(go_quiet (fail);try go_wp2)
     go_meet
     case rel=>exact⟨_,(false),fin2,H',⟨by have:=HK1.out;first|omega|exact Nat.le_refl _⟩,⟨by repeat(first|(with_reducible first|exact HI0.out|apply IsS53.alloc|apply IsS53.drewN|apply IsS53.drew|apply IsS53.set_1|apply IsS53.set_2)|exact HI0.out)⟩,⟨by repeat(first|(with_reducible first|exact HK.out|apply KeepBut.set_|apply keep_drewN|apply keep_drew|apply keep_alloc)|exact HK.out)⟩,⟨by repeat(first|(with_reducible first|exact HB.out|apply below_alloc|apply pw_below_drewN|apply below_drew1|refine below_set ?_ (IsS53.ge HI0.out))|exact HB.out)⟩⟩
   case rest =>
    clear HC6
    try clear p2
    try clear c3
    try clear p6
    try clear c7
    try clear c7b0
    try clear p2
    obtain⟨kq,x19_5,rfl,HA,HJ5,HI0,HK,HB⟩:=hcut
    cases kq with
    | zero=>exact absurd HA.out (by simp [spec_l1Cur_spoilt.j1])
    | succ kj5 =>
     have H:=HA.out
     clear HA
     simp only[spec_l1Cur_spoilt.j1] at H
     by_cases c8:x19_5=true
     ·subst c8
      have H1:((spec_l1Cur_pick.f s0_0 x1001_1 x1002_1 (x1_1.size:Int)).bind fun bt304=>((spec_l1Cur_pick.f s0_0 bt304.2.1 bt304.2.2 (a2.size:Int)).bind fun bt307=>(if 0≤bt307.1 then(if bt307.1<(a2.size:Int) then((some (([bt a2 bt307.1]:List Int):List Int)).bind fun y310=>((spec_l1Cur_pick.f s0_0 bt307.2.1 bt307.2.2 3).bind fun bt313=>(if bt313.1=0 then(if 0≤bt304.1 then(if bt304.1≤(x1_1.size:Int) then(if(x1_1.extract 0 (bt304.1:Int).toNat).size+(strOfNums y310).size≤9223372036854775807 then(if((x1_1.extract 0 (bt304.1:Int).toNat) ++ (strOfNums y310)).size+(x1_1.extract (bt304.1:Int).toNat x1_1.size).size≤9223372036854775807 then(spec_l1Cur_spoilt.l0 kj5 (((x1_1.extract 0 (bt304.1:Int).toNat) ++ (strOfNums y310)) ++ (x1_1.extract (bt304.1:Int).toNat x1_1.size)) a2 (wrap64 (x7_1 - 1)) s0_0 bt313.2.1 bt313.2.2) else(none)) else(none)) else(none)) else(none)) else(if bt313.1=1 then(if 0≤bt304.1 then(if bt304.1≤(x1_1.size:Int) then(if(x1_1.extract 0 (bt304.1:Int).toNat).size+(strOfNums y310).size≤9223372036854775807 then(if 0≤(wrap64 (bt304.1+1)) then(if(wrap64 (bt304.1+1))≤(x1_1.size:Int) then(if((x1_1.extract 0 (bt304.1:Int).toNat) ++ (strOfNums y310)).size+(x1_1.extract ((wrap64 (bt304.1+1)):Int).toNat x1_1.size).size≤9223372036854775807 then(spec_l1Cur_spoilt.l0 kj5 (((x1_1.extract 0 (bt304.1:Int).toNat) ++ (strOfNums y310)) ++ (x1_1.extract ((wrap64 (bt304.1+1)):Int).toNat x1_1.size)) a2 (wrap64 (x7_1 - 1)) s0_0 bt313.2.1 bt313.2.2) else(none)) else(none)) else(none)) else(none)) else(none)) else(none)) else(if 0≤bt304.1 then(if bt304.1≤(x1_1.size:Int) then(if 0≤(wrap64 (bt304.1+1)) then(if(wrap64 (bt304.1+1))≤(x1_1.size:Int) then(if(x1_1.extract 0 (bt304.1:Int).toNat).size+(x1_1.extract ((wrap64 (bt304.1+1)):Int).toNat x1_1.size).size≤9223372036854775807 then(spec_l1Cur_spoilt.l0 kj5 ((x1_1.extract 0 (bt304.1:Int).toNat) ++ (x1_1.extract ((wrap64 (bt304.1+1)):Int).toNat x1_1.size)) a2 (wrap64 (x7_1 - 1)) s0_0 bt313.2.1 bt313.2.2) else(none)) else(none)) else(none)) else(none)) else(none)))))) else(none)) else(none))))=some (r1,r2,r3):=by rw[if_pos rfl] at H;exact H
      clear H
      have H:=H1
      clear H1
      replace H:=Option.bind_eq_some_iff.mp H
      obtain⟨⟨t304,t305,t306⟩,A90,H⟩:=H
      replace H:((spec_l1Cur_pick.f s0_0 t305 t306 (a2.size:Int)).bind fun bt307=>(if 0≤bt307.1 then(if bt307.1<(a2.size:Int) then((some (([bt a2 bt307.1]:List Int):List Int)).bind fun y310=>((spec_l1Cur_pick.f s0_0 bt307.2.1 bt307.2.2 3).bind fun bt313=>(if bt313.1=0 then(if 0≤t304 then(if t304≤(x1_1.size:Int) then(if(x1_1.extract 0 (t304:Int).toNat).size+(strOfNums y310).size≤9223372036854775807 then(if((x1_1.extract 0 (t304:Int).toNat) ++ (strOfNums y310)).size+(x1_1.extract (t304:Int).toNat x1_1.size).size≤9223372036854775807 then(spec_l1Cur_spoilt.l0 kj5 (((x1_1.extract 0 (t304:Int).toNat) ++ (strOfNums y310)) ++ (x1_1.extract (t304:Int).toNat x1_1.size)) a2 (wrap64 (x7_1 - 1)) s0_0 bt313.2.1 bt313.2.2) else(none)) else(none)) else(none)) else(none)) else(if bt313.1=1 then(if 0≤t304 then(if t304≤(x1_1.size:Int) then(if(x1_1.extract 0 (t304:Int).toNat).size+(strOfNums y310).size≤9223372036854775807 then(if 0≤(wrap64 (t304+1)) then(if(wrap64 (t304+1))≤(x1_1.size:Int) then(if((x1_1.extract 0 (t304:Int).toNat) ++ (strOfNums y310)).size+(x1_1.extract ((wrap64 (t304+1)):Int).toNat x1_1.size).size≤9223372036854775807 then(spec_l1Cur_spoilt.l0 kj5 (((x1_1.extract 0 (t304:Int).toNat) ++ (strOfNums y310)) ++ (x1_1.extract ((wrap64 (t304+1)):Int).toNat x1_1.size)) a2 (wrap64 (x7_1 - 1)) s0_0 bt313.2.1 bt313.2.2) else(none)) else(none)) else(none)) else(none)) else(none)) else(none)) else(if 0≤t304 then(if t304≤(x1_1.size:Int) then(if 0≤(wrap64 (t304+1)) then(if(wrap64 (t304+1))≤(x1_1.size:Int) then(if(x1_1.extract 0 (t304:Int).toNat).size+(x1_1.extract ((wrap64 (t304+1)):Int).toNat x1_1.size).size≤9223372036854775807 then(spec_l1Cur_spoilt.l0 kj5 ((x1_1.extract 0 (t304:Int).toNat) ++ (x1_1.extract ((wrap64 (t304+1)):Int).toNat x1_1.size)) a2 (wrap64 (x7_1 - 1)) s0_0 bt313.2.1 bt313.2.2) else(none)) else(none)) else(none)) else(none)) else(none)))))) else(none)) else(none)))=some (r1,r2,r3):=H
      have A9:=am A90
      clear A90
      replace H:=Option.bind_eq_some_iff.mp H
      obtain⟨⟨t307,t308,t309⟩,A100,H⟩:=H
      replace H:(if 0≤t307 then(if t307<(a2.size:Int) then((some (([bt a2 t307]:List Int):List Int)).bind fun y310=>((spec_l1Cur_pick.f s0_0 t308 t309 3).bind fun bt313=>(if bt313.1=0 then(if 0≤t304 then(if t304≤(x1_1.size:Int) then(if(x1_1.extract 0 (t304:Int).toNat).size+(strOfNums y310).size≤9223372036854775807 then(if((x1_1.extract 0 (t304:Int).toNat) ++ (strOfNums y310)).size+(x1_1.extract (t304:Int).toNat x1_1.size).size≤9223372036854775807 then(spec_l1Cur_spoilt.l0 kj5 (((x1_1.extract 0 (t304:Int).toNat) ++ (strOfNums y310)) ++ (x1_1.extract (t304:Int).toNat x1_1.size)) a2 (wrap64 (x7_1 - 1)) s0_0 bt313.2.1 bt313.2.2) else(none)) else(none)) else(none)) else(none)) else(if bt313.1=1 then(if 0≤t304 then(if t304≤(x1_1.size:Int) then(if(x1_1.extract 0 (t304:Int).toNat).size+(strOfNums y310).size≤9223372036854775807 then(if 0≤(wrap64 (t304+1)) then(if(wrap64 (t304+1))≤(x1_1.size:Int) then(if((x1_1.extract 0 (t304:Int).toNat) ++ (strOfNums y310)).size+(x1_1.extract ((wrap64 (t304+1)):Int).toNat x1_1.size).size≤9223372036854775807 then(spec_l1Cur_spoilt.l0 kj5 (((x1_1.extract 0 (t304:Int).toNat) ++ (strOfNums y310)) ++ (x1_1.extract ((wrap64 (t304+1)):Int).toNat x1_1.size)) a2 (wrap64 (x7_1 - 1)) s0_0 bt313.2.1 bt313.2.2) else(none)) else(none)) else(none)) else(none)) else(none)) else(none)) else(if 0≤t304 then(if t304≤(x1_1.size:Int) then(if 0≤(wrap64 (t304+1)) then(if(wrap64 (t304+1))≤(x1_1.size:Int) then(if(x1_1.extract 0 (t304:Int).toNat).size+(x1_1.extract ((wrap64 (t304+1)):Int).toNat x1_1.size).size≤9223372036854775807 then(spec_l1Cur_spoilt.l0 kj5 ((x1_1.extract 0 (t304:Int).toNat) ++ (x1_1.extract ((wrap64 (t304+1)):Int).toNat x1_1.size)) a2 (wrap64 (x7_1 - 1)) s0_0 bt313.2.1 bt313.2.2) else(none)) else(none)) else(none)) else(none)) else(none)))))) else(none)) else(none))=some (r1,r2,r3):=H
      have A10:=am A100
      clear A100
      by_cases c11:0≤t307
      ·rw[if_pos c11] at H
       have c11b0:decide (0≤t307)=true:=decide_eq_true c11
       clear c11
       by_cases c12:t307<(a2.size:Int)
       ·rw[if_pos c12] at H
        have c12b0:decide (t307<(a2.size:Int))=true:=decide_eq_true c12
        clear c12
        obtain⟨y310,hy310⟩:∃ y_:List Int,y_=(([bt a2 t307]:List Int)):=⟨_,rfl⟩
        replace H:((spec_l1Cur_pick.f s0_0 t308 t309 3).bind fun bt313=>(if bt313.1=0 then(if 0≤t304 then(if t304≤(x1_1.size:Int) then(if(x1_1.extract 0 (t304:Int).toNat).size+(strOfNums y310).size≤9223372036854775807 then(if((x1_1.extract 0 (t304:Int).toNat) ++ (strOfNums y310)).size+(x1_1.extract (t304:Int).toNat x1_1.size).size≤9223372036854775807 then(spec_l1Cur_spoilt.l0 kj5 (((x1_1.extract 0 (t304:Int).toNat) ++ (strOfNums y310)) ++ (x1_1.extract (t304:Int).toNat x1_1.size)) a2 (wrap64 (x7_1 - 1)) s0_0 bt313.2.1 bt313.2.2) else(none)) else(none)) else(none)) else(none)) else(if bt313.1=1 then(if 0≤t304 then(if t304≤(x1_1.size:Int) then(if(x1_1.extract 0 (t304:Int).toNat).size+(strOfNums y310).size≤9223372036854775807 then(if 0≤(wrap64 (t304+1)) then(if(wrap64 (t304+1))≤(x1_1.size:Int) then(if((x1_1.extract 0 (t304:Int).toNat) ++ (strOfNums y310)).size+(x1_1.extract ((wrap64 (t304+1)):Int).toNat x1_1.size).size≤9223372036854775807 then(spec_l1Cur_spoilt.l0 kj5 (((x1_1.extract 0 (t304:Int).toNat) ++ (strOfNums y310)) ++ (x1_1.extract ((wrap64 (t304+1)):Int).toNat x1_1.size)) a2 (wrap64 (x7_1 - 1)) s0_0 bt313.2.1 bt313.2.2) else(none)) else(none)) else(none)) else(none)) else(none)) else(none)) else(if 0≤t304 then(if t304≤(x1_1.size:Int) then(if 0≤(wrap64 (t304+1)) then(if(wrap64 (t304+1))≤(x1_1.size:Int) then(if(x1_1.extract 0 (t304:Int).toNat).size+(x1_1.extract ((wrap64 (t304+1)):Int).toNat x1_1.size).size≤9223372036854775807 then(spec_l1Cur_spoilt.l0 kj5 ((x1_1.extract 0 (t304:Int).toNat) ++ (x1_1.extract ((wrap64 (t304+1)):Int).toNat x1_1.size)) a2 (wrap64 (x7_1 - 1)) s0_0 bt313.2.1 bt313.2.2) else(none)) else(none)) else(none)) else(none)) else(none)))))=some (r1,r2,r3):=by first|(rw[hy310];with_reducible exact H)|(have H2_:=(Option.bind_some _ _).symm.trans H;rw[hy310];with_reducible exact H2_)|(have H2_:=(Option.bind_some _ _).symm.trans H;with_reducible exact H2_)|with_reducible exact H|(rw[hy310];exact H)|exact H
        have Ny310:=am hy310
        clear hy310
        replace H:=Option.bind_eq_some_iff.mp H
        obtain⟨⟨t313,t314,t315⟩,A140,H⟩:=H
        replace H:(if t313=0 then(if 0≤t304 then(if t304≤(x1_1.size:Int) then(if(x1_1.extract 0 (t304:Int).toNat).size+(strOfNums y310).size≤9223372036854775807 then(if((x1_1.extract 0 (t304:Int).toNat) ++ (strOfNums y310)).size+(x1_1.extract (t304:Int).toNat x1_1.size).size≤9223372036854775807 then(spec_l1Cur_spoilt.l0 kj5 (((x1_1.extract 0 (t304:Int).toNat) ++ (strOfNums y310)) ++ (x1_1.extract (t304:Int).toNat x1_1.size)) a2 (wrap64 (x7_1 - 1)) s0_0 t314 t315) else(none)) else(none)) else(none)) else(none)) else(if t313=1 then(if 0≤t304 then(if t304≤(x1_1.size:Int) then(if(x1_1.extract 0 (t304:Int).toNat).size+(strOfNums y310).size≤9223372036854775807 then(if 0≤(wrap64 (t304+1)) then(if(wrap64 (t304+1))≤(x1_1.size:Int) then(if((x1_1.extract 0 (t304:Int).toNat) ++ (strOfNums y310)).size+(x1_1.extract ((wrap64 (t304+1)):Int).toNat x1_1.size).size≤9223372036854775807 then(spec_l1Cur_spoilt.l0 kj5 (((x1_1.extract 0 (t304:Int).toNat) ++ (strOfNums y310)) ++ (x1_1.extract ((wrap64 (t304+1)):Int).toNat x1_1.size)) a2 (wrap64 (x7_1 - 1)) s0_0 t314 t315) else(none)) else(none)) else(none)) else(none)) else(none)) else(none)) else(if 0≤t304 then(if t304≤(x1_1.size:Int) then(if 0≤(wrap64 (t304+1)) then(if(wrap64 (t304+1))≤(x1_1.size:Int) then(if(x1_1.extract 0 (t304:Int).toNat).size+(x1_1.extract ((wrap64 (t304+1)):Int).toNat x1_1.size).size≤9223372036854775807 then(spec_l1Cur_spoilt.l0 kj5 ((x1_1.extract 0 (t304:Int).toNat) ++ (x1_1.extract ((wrap64 (t304+1)):Int).toNat x1_1.size)) a2 (wrap64 (x7_1 - 1)) s0_0 t314 t315) else(none)) else(none)) else(none)) else(none)) else(none))))=some (r1,r2,r3):=H
        have A14:=am A140
        clear A140
        by_cases c15:t313=0
        ·rw[if_pos c15] at H
         have c15b0:(t313 == 0)=true:=beq_iff_eq.mpr c15
         have c15b1:(t313 != 0)=false:=bne_eq_false_iff_eq.mpr c15
         clear c15
         by_cases c16:0≤t304
         ·rw[if_pos c16] at H
          have c16b0:=eq_true c16
          have c16b1:decide (0≤t304)=true:=decide_eq_true c16
          clear c16
          by_cases c17:t304≤(x1_1.size:Int)
          ·rw[if_pos c17] at H
           have c17b0:=eq_true c17
           have c17b1:decide (t304≤(x1_1.size:Int))=true:=decide_eq_true c17
           clear c17
           by_cases c18:(x1_1.extract 0 (t304:Int).toNat).size+(strOfNums y310).size≤9223372036854775807
           ·rw[if_pos c18] at H
            have c18b0:=eq_true c18
            have c18b1:decide ((x1_1.extract 0 (t304:Int).toNat).size+(strOfNums y310).size≤9223372036854775807)=true:=decide_eq_true c18
            try have c18b2:(9223372036854775807<(x1_1.extract 0 (t304:Int).toNat).size+(strOfNums y310).size)=False:=eq_false (Nat.not_lt.2 c18)
            have c19b0:=eq_true (od:0≤t304)
            have c20b0:=eq_true (od:t304≤(x1_1.size:Int))
            by_cases c21:((x1_1.extract 0 (t304:Int).toNat) ++ (strOfNums y310)).size+(x1_1.extract (t304:Int).toNat x1_1.size).size≤9223372036854775807
            ·rw[if_pos c21] at H
             have c21b0:=eq_true c21
             have c21b1:decide (((x1_1.extract 0 (t304:Int).toNat) ++ (strOfNums y310)).size+(x1_1.extract (t304:Int).toNat x1_1.size).size≤9223372036854775807)=true:=decide_eq_true c21
             try have c21b2:(9223372036854775807<((x1_1.extract 0 (t304:Int).toNat) ++ (strOfNums y310)).size+(x1_1.extract (t304:Int).toNat x1_1.size).size)=False:=eq_false (Nat.not_lt.2 c21)
             have H':=am H
             clear H
             go_wp2_with (first|(go_at_call 41;(with_reducible refine(spec_l1Cur_pick.calls g s0_0 x1001_1 x1002_1 (x1_1.size:Int) t304 t305 t306 w0 _ ?side1 ?side2 A9.out).mono ?_);(case side1=>repeat(first|(with_reducible first|exact HI0.out|apply IsS53.alloc|apply IsS53.drewN|apply IsS53.drew|apply IsS53.set_1|apply IsS53.set_2)|exact HI0.out));(case side2=>repeat(first|(with_reducible first|exact HB.out|apply below_alloc|apply pw_below_drewN|apply below_drew1|refine below_set ?_ (IsS53.ge HI0.out))|exact HB.out));rintro e w22 ⟨rfl,hi,hb,hk⟩;have n0_:=am (KeepBut.trans (by repeat(first|(with_reducible first|exact HK.out|apply KeepBut.set_|apply keep_drewN|apply keep_drew|apply keep_alloc)|exact HK.out)) hk (.inl rfl));have n1_:=am (hb);have n2_:=am (hi);clear HK HB HI0;have HK:=n0_;have HB:=n1_;have HI0:=n2_;clear n0_ n1_ n2_;(try clear hb);(try clear hb2);(try clear hk);(try clear hi))|(go_at_call 41;(with_reducible refine(spec_l1Cur_pick.calls g s0_0 t305 t306 (a2.size:Int) t307 t308 t309 w0 _ ?side1 ?side2 A10.out).mono ?_);(case side1=>repeat(first|(with_reducible first|exact HI0.out|apply IsS53.alloc|apply IsS53.drewN|apply IsS53.drew|apply IsS53.set_1|apply IsS53.set_2)|exact HI0.out));(case side2=>repeat(first|(with_reducible first|exact HB.out|apply below_alloc|apply pw_below_drewN|apply below_drew1|refine below_set ?_ (IsS53.ge HI0.out))|exact HB.out));rintro e w23 ⟨rfl,hi,hb,hk⟩;have n0_:=am (KeepBut.trans (by repeat(first|(with_reducible first|exact HK.out|apply KeepBut.set_|apply keep_drewN|apply keep_drew|apply keep_alloc)|exact HK.out)) hk (.inl rfl));have n1_:=am (hb);have n2_:=am (hi);clear HK HB HI0;have HK:=n0_;have HB:=n1_;have HI0:=n2_;clear n0_ n1_ n2_;(try clear hb);(try clear hb2);(try clear hk);(try clear hi);have p13:0≤(t307:Int):=od;have q13:t307<(a2.size:Int):=od;have hx13:=bt_at a2 t307;replace p13:=eq_true p13;replace q13:=eq_true q13)|((with_reducible refine gate_dst (N:=32) rfl ?_);(try(refine gate_guard (by rfl) ?_;dsimp only));refine Kd.R_lit (Kd.int .u8) _ 5 ?hg (N:=32) ?hd (xs:=([bt a2 t307]:List Int)) (inner:=[.int .u8 (bt a2 t307)]) (ok:=fun _=>True) (okp:=fun _=>True) ?hr ?hp (fun _ hk=>hk) trivial (Below.refl _ _) (Nat.le_refl _) (by simp) ?_;(case hd=>rfl);(case hg=>rfl);(case hr=>first|(go_simp;done)|(go_simp;rfl));(case hp=>exact(Reps.one (show Kd.M (Kd.int .u8) _ _ _ (bt a2 t307) [.int .u8 (bt a2 t307)] from rfl) (Reps.none _ _)));intro v311 w24 ho25 hb hg_ hnew_;clear hg_ hnew_;(first|rw[← Ny310.out] at ho25|(simp only[Int.reduceToNat] at ho25;rw[← Ny310.out] at ho25));have n0_:=am (Kd.R_lower ho25 (keep_size (w:=w) (g:=g) (row:=none) (by repeat(first|(with_reducible first|exact HK.out|apply KeepBut.set_|apply keep_drewN|apply keep_drew|apply keep_alloc)|exact HK.out))));have n1_:=am (IsS53.below (by repeat(first|(with_reducible first|exact HI0.out|apply IsS53.alloc|apply IsS53.drewN|apply IsS53.drew|apply IsS53.set_1|apply IsS53.set_2)|exact HI0.out)) hb);have n2_:=am (KeepBut.trans (by repeat(first|(with_reducible first|exact HK.out|apply KeepBut.set_|apply keep_drewN|apply keep_drew|apply keep_alloc)|exact HK.out)) (KeepBut.of_below hb g none) (.inl rfl));have n3_:=am (below_step (by repeat(first|(with_reducible first|exact HB.out|apply below_alloc|apply pw_below_drewN|apply below_drew1|refine below_set ?_ (IsS53.ge HI0.out))|exact HB.out)) hb);clear HI0 HK HB;have HO312:=n0_;have HI0:=n1_;have HK:=n2_;have HB:=n3_;clear n0_ n1_ n2_ n3_ hb ho25;have hcv26:=own_string (P:=Try.prog) Try.underlying22 Try.underlying5 Try.underlying9 (Kd.own_of_R HO312.out))|(go_at_call 41;(with_reducible refine(spec_l1Cur_pick.calls g s0_0 t308 t309 3 t313 t314 t315 w0 _ ?side1 ?side2 A14.out).mono ?_);(case side1=>repeat(first|(with_reducible first|exact HI0.out|apply IsS53.alloc|apply IsS53.drewN|apply IsS53.drew|apply IsS53.set_1|apply IsS53.set_2)|exact HI0.out));(case side2=>repeat(first|(with_reducible first|exact HB.out|apply below_alloc|apply pw_below_drewN|apply below_drew1|refine below_set ?_ (IsS53.ge HI0.out))|exact HB.out));rintro e w27 ⟨rfl,hi,hb,hk⟩;have n0_:=am (Kd.R_mono (Kd.R_keep (IsS53.apart (show IsS53 w0 _ g s0_0 t308 t309 from by repeat(first|(with_reducible first|exact HI0.out|apply IsS53.alloc|apply IsS53.drewN|apply IsS53.drew|apply IsS53.set_1|apply IsS53.set_2)|exact HI0.out)) (rup HO312.out) (by decide)) hk (fun _ h=>h.2)) (fun _ h=>h.1));have n1_:=am (KeepBut.trans (by repeat(first|(with_reducible first|exact HK.out|apply KeepBut.set_|apply keep_drewN|apply keep_drew|apply keep_alloc)|exact HK.out)) hk (.inl rfl));have n2_:=am (hb);have n3_:=am (hi);clear HO312 HK HB HI0;have HO312:=n0_;have HK:=n1_;have HB:=n2_;have HI0:=n3_;clear n0_ n1_ n2_ n3_;(try clear hb);(try clear hb2);(try clear hk);(try clear hi)))
             repeat(go_quiet (first|(go_at_call 41;(with_reducible refine(spec_l1Cur_pick.calls g s0_0 x1001_1 x1002_1 (x1_1.size:Int) t304 t305 t306 w0 _ ?side1 ?side2 A9.out).mono ?_);(case side1=>repeat(first|(with_reducible first|exact HI0.out|apply IsS53.alloc|apply IsS53.drewN|apply IsS53.drew|apply IsS53.set_1|apply IsS53.set_2)|exact HI0.out));(case side2=>repeat(first|(with_reducible first|exact HB.out|apply below_alloc|apply pw_below_drewN|apply below_drew1|refine below_set ?_ (IsS53.ge HI0.out))|exact HB.out));rintro e w22 ⟨rfl,hi,hb,hk⟩;have n0_:=am (KeepBut.trans (by repeat(first|(with_reducible first|exact HK.out|apply KeepBut.set_|apply keep_drewN|apply keep_drew|apply keep_alloc)|exact HK.out)) hk (.inl rfl));have n1_:=am (hb);have n2_:=am (hi);clear HK HB HI0;have HK:=n0_;have HB:=n1_;have HI0:=n2_;clear n0_ n1_ n2_;(try clear hb);(try clear hb2);(try clear hk);(try clear hi))|(go_at_call 41;(with_reducible refine(spec_l1Cur_pick.calls g s0_0 t305 t306 (a2.size:Int) t307 t308 t309 w0 _ ?side1 ?side2 A10.out).mono ?_);(case side1=>repeat(first|(with_reducible first|exact HI0.out|apply IsS53.alloc|apply IsS53.drewN|apply IsS53.drew|apply IsS53.set_1|apply IsS53.set_2)|exact HI0.out));(case side2=>repeat(first|(with_reducible first|exact HB.out|apply below_alloc|apply pw_below_drewN|apply below_drew1|refine below_set ?_ (IsS53.ge HI0.out))|exact HB.out));rintro e w23 ⟨rfl,hi,hb,hk⟩;have n0_:=am (KeepBut.trans (by repeat(first|(with_reducible first|exact HK.out|apply KeepBut.set_|apply keep_drewN|apply keep_drew|apply keep_alloc)|exact HK.out)) hk (.inl rfl));have n1_:=am (hb);have n2_:=am (hi);clear HK HB HI0;have HK:=n0_;have HB:=n1_;have HI0:=n2_;clear n0_ n1_ n2_;(try clear hb);(try clear hb2);(try clear hk);(try clear hi);have p13:0≤(t307:Int):=od;have q13:t307<(a2.size:Int):=od;have hx13:=bt_at a2 t307;replace p13:=eq_true p13;replace q13:=eq_true q13)|((with_reducible refine gate_dst (N:=32) rfl ?_);(try(refine gate_guard (by rfl) ?_;dsimp only));refine Kd.R_lit (Kd.int .u8) _ 5 ?hg (N:=32) ?hd (xs:=([bt a2 t307]:List Int)) (inner:=[.int .u8 (bt a2 t307)]) (ok:=fun _=>True) (okp:=fun _=>True) ?hr ?hp (fun _ hk=>hk) trivial (Below.refl _ _) (Nat.le_refl _) (by simp) ?_;(case hd=>rfl);(case hg=>rfl);(case hr=>first|(go_simp;done)|(go_simp;rfl));(case hp=>exact(Reps.one (show Kd.M (Kd.int .u8) _ _ _ (bt a2 t307) [.int .u8 (bt a2 t307)] from rfl) (Reps.none _ _)));intro v311 w24 ho25 hb hg_ hnew_;clear hg_ hnew_;(first|rw[← Ny310.out] at ho25|(simp only[Int.reduceToNat] at ho25;rw[← Ny310.out] at ho25));have n0_:=am (Kd.R_lower ho25 (keep_size (w:=w) (g:=g) (row:=none) (by repeat(first|(with_reducible first|exact HK.out|apply KeepBut.set_|apply keep_drewN|apply keep_drew|apply keep_alloc)|exact HK.out))));have n1_:=am (IsS53.below (by repeat(first|(with_reducible first|exact HI0.out|apply IsS53.alloc|apply IsS53.drewN|apply IsS53.drew|apply IsS53.set_1|apply IsS53.set_2)|exact HI0.out)) hb);have n2_:=am (KeepBut.trans (by repeat(first|(with_reducible first|exact HK.out|apply KeepBut.set_|apply keep_drewN|apply keep_drew|apply keep_alloc)|exact HK.out)) (KeepBut.of_below hb g none) (.inl rfl));have n3_:=am (below_step (by repeat(first|(with_reducible first|exact HB.out|apply below_alloc|apply pw_below_drewN|apply below_drew1|refine below_set ?_ (IsS53.ge HI0.out))|exact HB.out)) hb);clear HI0 HK HB;have HO312:=n0_;have HI0:=n1_;have HK:=n2_;have HB:=n3_;clear n0_ n1_ n2_ n3_ hb ho25;have hcv26:=own_string (P:=Try.prog) Try.underlying22 Try.underlying5 Try.underlying9 (Kd.own_of_R HO312.out))|(go_at_call 41;(with_reducible refine(spec_l1Cur_pick.calls g s0_0 t308 t309 3 t313 t314 t315 w0 _ ?side1 ?side2 A14.out).mono ?_);(case side1=>repeat(first|(with_reducible first|exact HI0.out|apply IsS53.alloc|apply IsS53.drewN|apply IsS53.drew|apply IsS53.set_1|apply IsS53.set_2)|exact HI0.out));(case side2=>repeat(first|(with_reducible first|exact HB.out|apply below_alloc|apply pw_below_drewN|apply below_drew1|refine below_set ?_ (IsS53.ge HI0.out))|exact HB.out));rintro e w27 ⟨rfl,hi,hb,hk⟩;have n0_:=am (Kd.R_mono (Kd.R_keep (IsS53.apart (show IsS53 w0 _ g s0_0 t308 t309 from by repeat(first|(with_reducible first|exact HI0.out|apply IsS53.alloc|apply IsS53.drewN|apply IsS53.drew|apply IsS53.set_1|apply IsS53.set_2)|exact HI0.out)) (rup HO312.out) (by decide)) hk (fun _ h=>h.2)) (fun _ h=>h.1));have n1_:=am (KeepBut.trans (by repeat(first|(with_reducible first|exact HK.out|apply KeepBut.set_|apply keep_drewN|apply keep_drew|apply keep_alloc)|exact HK.out)) hk (.inl rfl));have n2_:=am (hb);have n3_:=am (hi);clear HO312 HK HB HI0;have HO312:=n0_;have HK:=n1_;have HB:=n2_;have HI0:=n3_;clear n0_ n1_ n2_ n3_;(try clear hb);(try clear hb2);(try clear hk);(try clear hi)));try go_wp2_with (first|(go_at_call 41;(with_reducible refine(spec_l1Cur_pick.calls g s0_0 x1001_1 x1002_1 (x1_1.size:Int) t304 t305 t306 w0 _ ?side1 ?side2 A9.out).mono ?_);(case side1=>repeat(first|(with_reducible first|exact HI0.out|apply IsS53.alloc|apply IsS53.drewN|apply IsS53.drew|apply IsS53.set_1|apply IsS53.set_2)|exact HI0.out));(case side2=>repeat(first|(with_reducible first|exact HB.out|apply below_alloc|apply pw_below_drewN|apply below_drew1|refine below_set ?_ (IsS53.ge HI0.out))|exact HB.out));rintro e w22 ⟨rfl,hi,hb,hk⟩;have n0_:=am (KeepBut.trans (by repeat(first|(with_reducible first|exact HK.out|apply KeepBut.set_|apply keep_drewN|apply keep_drew|apply keep_alloc)|exact HK.out)) hk (.inl rfl));have n1_:=am (hb);have n2_:=am (hi);clear HK HB HI0;have HK:=n0_;have HB:=n1_;have HI0:=n2_;clear n0_ n1_ n2_;(try clear hb);(try clear hb2);(try clear hk);(try clear hi))|(go_at_call 41;(with_reducible refine(spec_l1Cur_pick.calls g s0_0 t305 t306 (a2.size:Int) t307 t308 t309 w0 _ ?side1 ?side2 A10.out).mono ?_);(case side1=>repeat(first|(with_reducible first|exact HI0.out|apply IsS53.alloc|apply IsS53.drewN|apply IsS53.drew|apply IsS53.set_1|apply IsS53.set_2)|exact HI0.out));(case side2=>repeat(first|(with_reducible first|exact HB.out|apply below_alloc|apply pw_below_drewN|apply below_drew1|refine below_set ?_ (IsS53.ge HI0.out))|exact HB.out));rintro e w23 ⟨rfl,hi,hb,hk⟩;have n0_:=am (KeepBut.trans (by repeat(first|(with_reducible first|exact HK.out|apply KeepBut.set_|apply keep_drewN|apply keep_drew|apply keep_alloc)|exact HK.out)) hk (.inl rfl));have n1_:=am (hb);have n2_:=am (hi);clear HK HB HI0;have HK:=n0_;have HB:=n1_;have HI0:=n2_;clear n0_ n1_ n2_;(try clear hb);(try clear hb2);(try clear hk);(try clear hi);have p13:0≤(t307:Int):=od;have q13:t307<(a2.size:Int):=od;have hx13:=bt_at a2 t307;replace p13:=eq_true p13;replace q13:=eq_true q13)|((with_reducible refine gate_dst (N:=32) rfl ?_);(try(refine gate_guard (by rfl) ?_;dsimp only));refine Kd.R_lit (Kd.int .u8) _ 5 ?hg (N:=32) ?hd (xs:=([bt a2 t307]:List Int)) (inner:=[.int .u8 (bt a2 t307)]) (ok:=fun _=>True) (okp:=fun _=>True) ?hr ?hp (fun _ hk=>hk) trivial (Below.refl _ _) (Nat.le_refl _) (by simp) ?_;(case hd=>rfl);(case hg=>rfl);(case hr=>first|(go_simp;done)|(go_simp;rfl));(case hp=>exact(Reps.one (show Kd.M (Kd.int .u8) _ _ _ (bt a2 t307) [.int .u8 (bt a2 t307)] from rfl) (Reps.none _ _)));intro v311 w24 ho25 hb hg_ hnew_;clear hg_ hnew_;(first|rw[← Ny310.out] at ho25|(simp only[Int.reduceToNat] at ho25;rw[← Ny310.out] at ho25));have n0_:=am (Kd.R_lower ho25 (keep_size (w:=w) (g:=g) (row:=none) (by repeat(first|(with_reducible first|exact HK.out|apply KeepBut.set_|apply keep_drewN|apply keep_drew|apply keep_alloc)|exact HK.out))));have n1_:=am (IsS53.below (by repeat(first|(with_reducible first|exact HI0.out|apply IsS53.alloc|apply IsS53.drewN|apply IsS53.drew|apply IsS53.set_1|apply IsS53.set_2)|exact HI0.out)) hb);have n2_:=am (KeepBut.trans (by repeat(first|(with_reducible first|exact HK.out|apply KeepBut.set_|apply keep_drewN|apply keep_drew|apply keep_alloc)|exact HK.out)) (KeepBut.of_below hb g none) (.inl rfl));have n3_:=am (below_step (by repeat(first|(with_reducible first|exact HB.out|apply below_alloc|apply pw_below_drewN|apply below_drew1|refine below_set ?_ (IsS53.ge HI0.out))|exact HB.out)) hb);clear HI0 HK HB;have HO312:=n0_;have HI0:=n1_;have HK:=n2_;have HB:=n3_;clear n0_ n1_ n2_ n3_ hb ho25;have hcv26:=own_string (P:=Try.prog) Try.underlying22 Try.underlying5 Try.underlying9 (Kd.own_of_R HO312.out))|(go_at_call 41;(with_reducible refine(spec_l1Cur_pick.calls g s0_0 t308 t309 3 t313 t314 t315 w0 _ ?side1 ?side2 A14.out).mono ?_);(case side1=>repeat(first|(with_reducible first|exact HI0.out|apply IsS53.alloc|apply IsS53.drewN|apply IsS53.drew|apply IsS53.set_1|apply IsS53.set_2)|exact HI0.out));(case side2=>repeat(first|(with_reducible first|exact HB.out|apply below_alloc|apply pw_below_drewN|apply below_drew1|refine below_set ?_ (IsS53.ge HI0.out))|exact HB.out));rintro e w27 ⟨rfl,hi,hb,hk⟩;have n0_:=am (Kd.R_mono (Kd.R_keep (IsS53.apart (show IsS53 w0 _ g s0_0 t308 t309 from by repeat(first|(with_reducible first|exact HI0.out|apply IsS53.alloc|apply IsS53.drewN|apply IsS53.drew|apply IsS53.set_1|apply IsS53.set_2)|exact HI0.out)) (rup HO312.out) (by decide)) hk (fun _ h=>h.2)) (fun _ h=>h.1));have n1_:=am (KeepBut.trans (by repeat(first|(with_reducible first|exact HK.out|apply KeepBut.set_|apply keep_drewN|apply keep_drew|apply keep_alloc)|exact HK.out)) hk (.inl rfl));have n2_:=am (hb);have n3_:=am (hi);clear HO312 HK HB HI0;have HO312:=n0_;have HK:=n1_;have HB:=n2_;have HI0:=n3_;clear n0_ n1_ n2_ n3_;(try clear hb);(try clear hb2);(try clear hk);(try clear hi))))
             go_roundg kj5
             case measure=>have:=HK1.out;have:=HJ5.out;omega
             case rel=>exact⟨(((x1_1.extract 0 (t304:Int).toNat) ++ (strOfNums y310)) ++ (x1_1.extract (t304:Int).toNat x1_1.size)),(wrap64 (x7_1 - 1)),(t314),(t315),fin2,fin2,H',⟨by have:=HK1.out;have:=HJ5.out;omega⟩,⟨by repeat(first|(with_reducible first|exact HI0.out|apply IsS53.alloc|apply IsS53.drewN|apply IsS53.drew|apply IsS53.set_1|apply IsS53.set_2)|exact HI0.out)⟩,⟨by repeat(first|(with_reducible first|exact HK.out|apply KeepBut.set_|apply keep_drewN|apply keep_drew|apply keep_alloc)|exact HK.out)⟩,⟨by repeat(first|(with_reducible first|exact HB.out|apply below_alloc|apply pw_below_drewN|apply below_drew1|refine below_set ?_ (IsS53.ge HI0.out))|exact HB.out)⟩⟩
            ·rw[if_neg c21] at H
             exact absurd H (by simp)
           ·rw[if_neg c18] at H
            exact absurd H (by simp)
          ·rw[if_neg c17] at H
           exact absurd H (by simp)
         ·rw[if_neg c16] at H
          exact absurd H (by simp)
        ·rw[if_neg c15] at H
         have c15b0:(t313 == 0)=false:=beq_eq_false_iff_ne.mpr c15
         have c15b1:(t313 != 0)=true:=bne_iff_ne.mpr c15
         by_cases c28:t313=1
         ·rw[if_pos c28] at H
          have c28b0:(t313 == 1)=true:=beq_iff_eq.mpr c28
          have c28b1:(t313 != 1)=false:=bne_eq_false_iff_eq.mpr c28
          clear c28
          by_cases c29:0≤t304
          ·rw[if_pos c29] at H
           have c29b0:=eq_true c29
           have c29b1:decide (0≤t304)=true:=decide_eq_true c29
           clear c29
           by_cases c30:t304≤(x1_1.size:Int)
           ·rw[if_pos c30] at H
            have c30b0:=eq_true c30
            have c30b1:decide (t304≤(x1_1.size:Int))=true:=decide_eq_true c30
            clear c30
            by_cases c31:(x1_1.extract 0 (t304:Int).toNat).size+(strOfNums y310).size≤9223372036854775807
            ·rw[if_pos c31] at H
             have c31b0:=eq_true c31
             have c31b1:decide ((x1_1.extract 0 (t304:Int).toNat).size+(strOfNums y310).size≤9223372036854775807)=true:=decide_eq_true c31
             try have c31b2:(9223372036854775807<(x1_1.extract 0 (t304:Int).toNat).size+(strOfNums y310).size)=False:=eq_false (Nat.not_lt.2 c31)
             obtain⟨ji32,hji32⟩:∃ j_:Int,(wrap64 (t304+1))=j_:=⟨_,rfl⟩
             replace H:(if 0≤(ji32) then(if(ji32)≤(x1_1.size:Int) then(if((x1_1.extract 0 (t304:Int).toNat) ++ (strOfNums y310)).size+(x1_1.extract ((ji32):Int).toNat x1_1.size).size≤9223372036854775807 then(spec_l1Cur_spoilt.l0 kj5 (((x1_1.extract 0 (t304:Int).toNat) ++ (strOfNums y310)) ++ (x1_1.extract ((ji32):Int).toNat x1_1.size)) a2 (wrap64 (x7_1 - 1)) s0_0 t314 t315) else(none)) else(none)) else(none))=some (r1,r2,r3):=by first|(rw[hji32] at H;exact H)|(simp only[hji32] at H ⊢;exact H)
             (try rw[hji32] at A9)
             (try rw[hji32] at A10)
             (try rw[hji32] at A14)
             have hji32w:(IntKind.i64.wrap (t304+1))=ji32:=(i64_w _).trans hji32
             by_cases c33:0≤(ji32)
             ·rw[if_pos c33] at H
              have c33b0:=eq_true c33
              have c33b1:decide (0≤(ji32))=true:=decide_eq_true c33
              clear c33
              by_cases c34:(ji32)≤(x1_1.size:Int)
              ·rw[if_pos c34] at H
               have c34b0:=eq_true c34
               have c34b1:decide ((ji32)≤(x1_1.size:Int))=true:=decide_eq_true c34
               clear c34
               by_cases c35:((x1_1.extract 0 (t304:Int).toNat) ++ (strOfNums y310)).size+(x1_1.extract ((ji32):Int).toNat x1_1.size).size≤9223372036854775807
               ·rw[if_pos c35] at H
                have c35b0:=eq_true c35
                have c35b1:decide (((x1_1.extract 0 (t304:Int).toNat) ++ (strOfNums y310)).size+(x1_1.extract ((ji32):Int).toNat x1_1.size).size≤9223372036854775807)=true:=decide_eq_true c35
                try have c35b2:(9223372036854775807<((x1_1.extract 0 (t304:Int).toNat) ++ (strOfNums y310)).size+(x1_1.extract ((ji32):Int).toNat x1_1.size).size)=False:=eq_false (Nat.not_lt.2 c35)
                have H':=am H
                clear H
                go_wp2_with (first|(go_at_call 41;(with_reducible refine(spec_l1Cur_pick.calls g s0_0 x1001_1 x1002_1 (x1_1.size:Int) t304 t305 t306 w0 _ ?side1 ?side2 A9.out).mono ?_);(case side1=>repeat(first|(with_reducible first|exact HI0.out|apply IsS53.alloc|apply IsS53.drewN|apply IsS53.drew|apply IsS53.set_1|apply IsS53.set_2)|exact HI0.out));(case side2=>repeat(first|(with_reducible first|exact HB.out|apply below_alloc|apply pw_below_drewN|apply below_drew1|refine below_set ?_ (IsS53.ge HI0.out))|exact HB.out));rintro e w36 ⟨rfl,hi,hb,hk⟩;have n0_:=am (KeepBut.trans (by repeat(first|(with_reducible first|exact HK.out|apply KeepBut.set_|apply keep_drewN|apply keep_drew|apply keep_alloc)|exact HK.out)) hk (.inl rfl));have n1_:=am (hb);have n2_:=am (hi);clear HK HB HI0;have HK:=n0_;have HB:=n1_;have HI0:=n2_;clear n0_ n1_ n2_;(try clear hb);(try clear hb2);(try clear hk);(try clear hi))|(go_at_call 41;(with_reducible refine(spec_l1Cur_pick.calls g s0_0 t305 t306 (a2.size:Int) t307 t308 t309 w0 _ ?side1 ?side2 A10.out).mono ?_);(case side1=>repeat(first|(with_reducible first|exact HI0.out|apply IsS53.alloc|apply IsS53.drewN|apply IsS53.drew|apply IsS53.set_1|apply IsS53.set_2)|exact HI0.out));(case side2=>repeat(first|(with_reducible first|exact HB.out|apply below_alloc|apply pw_below_drewN|apply below_drew1|refine below_set ?_ (IsS53.ge HI0.out))|exact HB.out));rintro e w37 ⟨rfl,hi,hb,hk⟩;have n0_:=am (KeepBut.trans (by repeat(first|(with_reducible first|exact HK.out|apply KeepBut.set_|apply keep_drewN|apply keep_drew|apply keep_alloc)|exact HK.out)) hk (.inl rfl));have n1_:=am (hb);have n2_:=am (hi);clear HK HB HI0;have HK:=n0_;have HB:=n1_;have HI0:=n2_;clear n0_ n1_ n2_;(try clear hb);(try clear hb2);(try clear hk);(try clear hi);have p13:0≤(t307:Int):=od;have q13:t307<(a2.size:Int):=od;have hx13:=bt_at a2 t307;replace p13:=eq_true p13;replace q13:=eq_true q13)|((with_reducible refine gate_dst (N:=32) rfl ?_);(try(refine gate_guard (by rfl) ?_;dsimp only));refine Kd.R_lit (Kd.int .u8) _ 5 ?hg (N:=32) ?hd (xs:=([bt a2 t307]:List Int)) (inner:=[.int .u8 (bt a2 t307)]) (ok:=fun _=>True) (okp:=fun _=>True) ?hr ?hp (fun _ hk=>hk) trivial (Below.refl _ _) (Nat.le_refl _) (by simp) ?_;(case hd=>rfl);(case hg=>rfl);(case hr=>first|(go_simp;done)|(go_simp;rfl));(case hp=>exact(Reps.one (show Kd.M (Kd.int .u8) _ _ _ (bt a2 t307) [.int .u8 (bt a2 t307)] from rfl) (Reps.none _ _)));intro v311 w38 ho39 hb hg_ hnew_;clear hg_ hnew_;(first|rw[← Ny310.out] at ho39|(simp only[Int.reduceToNat] at ho39;rw[← Ny310.out] at ho39));have n0_:=am (Kd.R_lower ho39 (keep_size (w:=w) (g:=g) (row:=none) (by repeat(first|(with_reducible first|exact HK.out|apply KeepBut.set_|apply keep_drewN|apply keep_drew|apply keep_alloc)|exact HK.out))));have n1_:=am (IsS53.below (by repeat(first|(with_reducible first|exact HI0.out|apply IsS53.alloc|apply IsS53.drewN|apply IsS53.drew|apply IsS53.set_1|apply IsS53.set_2)|exact HI0.out)) hb);have n2_:=am (KeepBut.trans (by repeat(first|(with_reducible first|exact HK.out|apply KeepBut.set_|apply keep_drewN|apply keep_drew|apply keep_alloc)|exact HK.out)) (KeepBut.of_below hb g none) (.inl rfl));have n3_:=am (below_step (by repeat(first|(with_reducible first|exact HB.out|apply below_alloc|apply pw_below_drewN|apply below_drew1|refine below_set ?_ (IsS53.ge HI0.out))|exact HB.out)) hb);clear HI0 HK HB;have HO312:=n0_;have HI0:=n1_;have HK:=n2_;have HB:=n3_;clear n0_ n1_ n2_ n3_ hb ho39;have hcv40:=own_string (P:=Try.prog) Try.underlying22 Try.underlying5 Try.underlying9 (Kd.own_of_R HO312.out))|(go_at_call 41;(with_reducible refine(spec_l1Cur_pick.calls g s0_0 t308 t309 3 t313 t314 t315 w0 _ ?side1 ?side2 A14.out).mono ?_);(case side1=>repeat(first|(with_reducible first|exact HI0.out|apply IsS53.alloc|apply IsS53.drewN|apply IsS53.drew|apply IsS53.set_1|apply IsS53.set_2)|exact HI0.out));(case side2=>repeat(first|(with_reducible first|exact HB.out|apply below_alloc|apply pw_below_drewN|apply below_drew1|refine below_set ?_ (IsS53.ge HI0.out))|exact HB.out));rintro e w41 ⟨rfl,hi,hb,hk⟩;have n0_:=am (Kd.R_mono (Kd.R_keep (IsS53.apart (show IsS53 w0 _ g s0_0 t308 t309 from by repeat(first|(with_reducible first|exact HI0.out|apply IsS53.alloc|apply IsS53.drewN|apply IsS53.drew|apply IsS53.set_1|apply IsS53.set_2)|exact HI0.out)) (rup HO312.out) (by decide)) hk (fun _ h=>h.2)) (fun _ h=>h.1));have n1_:=am (KeepBut.trans (by repeat(first|(with_reducible first|exact HK.out|apply KeepBut.set_|apply keep_drewN|apply keep_drew|apply keep_alloc)|exact HK.out)) hk (.inl rfl));have n2_:=am (hb);have n3_:=am (hi);clear HO312 HK HB HI0;have HO312:=n0_;have HK:=n1_;have HB:=n2_;have HI0:=n3_;clear n0_ n1_ n2_ n3_;(try clear hb);(try clear hb2);(try clear hk);(try clear hi)))
                repeat(go_quiet (first|(go_at_call 41;(with_reducible refine(spec_l1Cur_pick.calls g s0_0 x1001_1 x1002_1 (x1_1.size:Int) t304 t305 t306 w0 _ ?side1 ?side2 A9.out).mono ?_);(case side1=>repeat(first|(with_reducible first|exact HI0.out|apply IsS53.alloc|apply IsS53.drewN|apply IsS53.drew|apply IsS53.set_1|apply IsS53.set_2)|exact HI0.out));(case side2=>repeat(first|(with_reducible first|exact HB.out|apply below_alloc|apply pw_below_drewN|apply below_drew1|refine below_set ?_ (IsS53.ge HI0.out))|exact HB.out));rintro e w36 ⟨rfl,hi,hb,hk⟩;have n0_:=am (KeepBut.trans (by repeat(first|(with_reducible first|exact HK.out|apply KeepBut.set_|apply keep_drewN|apply keep_drew|apply keep_alloc)|exact HK.out)) hk (.inl rfl));have n1_:=am (hb);have n2_:=am (hi);clear HK HB HI0;have HK:=n0_;have HB:=n1_;have HI0:=n2_;clear n0_ n1_ n2_;(try clear hb);(try clear hb2);(try clear hk);(try clear hi))|(go_at_call 41;(with_reducible refine(spec_l1Cur_pick.calls g s0_0 t305 t306 (a2.size:Int) t307 t308 t309 w0 _ ?side1 ?side2 A10.out).mono ?_);(case side1=>repeat(first|(with_reducible first|exact HI0.out|apply IsS53.alloc|apply IsS53.drewN|apply IsS53.drew|apply IsS53.set_1|apply IsS53.set_2)|exact HI0.out));(case side2=>repeat(first|(with_reducible first|exact HB.out|apply below_alloc|apply pw_below_drewN|apply below_drew1|refine below_set ?_ (IsS53.ge HI0.out))|exact HB.out));rintro e w37 ⟨rfl,hi,hb,hk⟩;have n0_:=am (KeepBut.trans (by repeat(first|(with_reducible first|exact HK.out|apply KeepBut.set_|apply keep_drewN|apply keep_drew|apply keep_alloc)|exact HK.out)) hk (.inl rfl));have n1_:=am (hb);have n2_:=am (hi);clear HK HB HI0;have HK:=n0_;have HB:=n1_;have HI0:=n2_;clear n0_ n1_ n2_;(try clear hb);(try clear hb2);(try clear hk);(try clear hi);have p13:0≤(t307:Int):=od;have q13:t307<(a2.size:Int):=od;have hx13:=bt_at a2 t307;replace p13:=eq_true p13;replace q13:=eq_true q13)|((with_reducible refine gate_dst (N:=32) rfl ?_);(try(refine gate_guard (by rfl) ?_;dsimp only));refine Kd.R_lit (Kd.int .u8) _ 5 ?hg (N:=32) ?hd (xs:=([bt a2 t307]:List Int)) (inner:=[.int .u8 (bt a2 t307)]) (ok:=fun _=>True) (okp:=fun _=>True) ?hr ?hp (fun _ hk=>hk) trivial (Below.refl _ _) (Nat.le_refl _) (by simp) ?_;(case hd=>rfl);(case hg=>rfl);(case hr=>first|(go_simp;done)|(go_simp;rfl));(case hp=>exact(Reps.one (show Kd.M (Kd.int .u8) _ _ _ (bt a2 t307) [.int .u8 (bt a2 t307)] from rfl) (Reps.none _ _)));intro v311 w38 ho39 hb hg_ hnew_;clear hg_ hnew_;(first|rw[← Ny310.out] at ho39|(simp only[Int.reduceToNat] at ho39;rw[← Ny310.out] at ho39));have n0_:=am (Kd.R_lower ho39 (keep_size (w:=w) (g:=g) (row:=none) (by repeat(first|(with_reducible first|exact HK.out|apply KeepBut.set_|apply keep_drewN|apply keep_drew|apply keep_alloc)|exact HK.out))));have n1_:=am (IsS53.below (by repeat(first|(with_reducible first|exact HI0.out|apply IsS53.alloc|apply IsS53.drewN|apply IsS53.drew|apply IsS53.set_1|apply IsS53.set_2)|exact HI0.out)) hb);have n2_:=am (KeepBut.trans (by repeat(first|(with_reducible first|exact HK.out|apply KeepBut.set_|apply keep_drewN|apply keep_drew|apply keep_alloc)|exact HK.out)) (KeepBut.of_below hb g none) (.inl rfl));have n3_:=am (below_step (by repeat(first|(with_reducible first|exact HB.out|apply below_alloc|apply pw_below_drewN|apply below_drew1|refine below_set ?_ (IsS53.ge HI0.out))|exact HB.out)) hb);clear HI0 HK HB;have HO312:=n0_;have HI0:=n1_;have HK:=n2_;have HB:=n3_;clear n0_ n1_ n2_ n3_ hb ho39;have hcv40:=own_string (P:=Try.prog) Try.underlying22 Try.underlying5 Try.underlying9 (Kd.own_of_R HO312.out))|(go_at_call 41;(with_reducible refine(spec_l1Cur_pick.calls g s0_0 t308 t309 3 t313 t314 t315 w0 _ ?side1 ?side2 A14.out).mono ?_);(case side1=>repeat(first|(with_reducible first|exact HI0.out|apply IsS53.alloc|apply IsS53.drewN|apply IsS53.drew|apply IsS53.set_1|apply IsS53.set_2)|exact HI0.out));(case side2=>repeat(first|(with_reducible first|exact HB.out|apply below_alloc|apply pw_below_drewN|apply below_drew1|refine below_set ?_ (IsS53.ge HI0.out))|exact HB.out));rintro e w41 ⟨rfl,hi,hb,hk⟩;have n0_:=am (Kd.R_mono (Kd.R_keep (IsS53.apart (show IsS53 w0 _ g s0_0 t308 t309 from by repeat(first|(with_reducible first|exact HI0.out|apply IsS53.alloc|apply IsS53.drewN|apply IsS53.drew|apply IsS53.set_1|apply IsS53.set_2)|exact HI0.out)) (rup HO312.out) (by decide)) hk (fun _ h=>h.2)) (fun _ h=>h.1));have n1_:=am (KeepBut.trans (by repeat(first|(with_reducible first|exact HK.out|apply KeepBut.set_|apply keep_drewN|apply keep_drew|apply keep_alloc)|exact HK.out)) hk (.inl rfl));have n2_:=am (hb);have n3_:=am (hi);clear HO312 HK HB HI0;have HO312:=n0_;have HK:=n1_;have HB:=n2_;have HI0:=n3_;clear n0_ n1_ n2_ n3_;(try clear hb);(try clear hb2);(try clear hk);(try clear hi)));try go_wp2_with (first|(go_at_call 41;(with_reducible refine(spec_l1Cur_pick.calls g s0_0 x1001_1 x1002_1 (x1_1.size:Int) t304 t305 t306 w0 _ ?side1 ?side2 A9.out).mono ?_);(case side1=>repeat(first|(with_reducible first|exact HI0.out|apply IsS53.alloc|apply IsS53.drewN|apply IsS53.drew|apply IsS53.set_1|apply IsS53.set_2)|exact HI0.out));(case side2=>repeat(first|(with_reducible first|exact HB.out|apply below_alloc|apply pw_below_drewN|apply below_drew1|refine below_set ?_ (IsS53.ge HI0.out))|exact HB.out));rintro e w36 ⟨rfl,hi,hb,hk⟩;have n0_:=am (KeepBut.trans (by repeat(first|(with_reducible first|exact HK.out|apply KeepBut.set_|apply keep_drewN|apply keep_drew|apply keep_alloc)|exact HK.out)) hk (.inl rfl));have n1_:=am (hb);have n2_:=am (hi);clear HK HB HI0;have HK:=n0_;have HB:=n1_;have HI0:=n2_;clear n0_ n1_ n2_;(try clear hb);(try clear hb2);(try clear hk);(try clear hi))|(go_at_call 41;(with_reducible refine(spec_l1Cur_pick.calls g s0_0 t305 t306 (a2.size:Int) t307 t308 t309 w0 _ ?side1 ?side2 A10.out).mono ?_);(case side1=>repeat(first|(with_reducible first|exact HI0.out|apply IsS53.alloc|apply IsS53.drewN|apply IsS53.drew|apply IsS53.set_1|apply IsS53.set_2)|exact HI0.out));(case side2=>repeat(first|(with_reducible first|exact HB.out|apply below_alloc|apply pw_below_drewN|apply below_drew1|refine below_set ?_ (IsS53.ge HI0.out))|exact HB.out));rintro e w37 ⟨rfl,hi,hb,hk⟩;have n0_:=am (KeepBut.trans (by repeat(first|(with_reducible first|exact HK.out|apply KeepBut.set_|apply keep_drewN|apply keep_drew|apply keep_alloc)|exact HK.out)) hk (.inl rfl));have n1_:=am (hb);have n2_:=am (hi);clear HK HB HI0;have HK:=n0_;have HB:=n1_;have HI0:=n2_;clear n0_ n1_ n2_;(try clear hb);(try clear hb2);(try clear hk);(try clear hi);have p13:0≤(t307:Int):=od;have q13:t307<(a2.size:Int):=od;have hx13:=bt_at a2 t307;replace p13:=eq_true p13;replace q13:=eq_true q13)|((with_reducible refine gate_dst (N:=32) rfl ?_);(try(refine gate_guard (by rfl) ?_;dsimp only));refine Kd.R_lit (Kd.int .u8) _ 5 ?hg (N:=32) ?hd (xs:=([bt a2 t307]:List Int)) (inner:=[.int .u8 (bt a2 t307)]) (ok:=fun _=>True) (okp:=fun _=>True) ?hr ?hp (fun _ hk=>hk) trivial (Below.refl _ _) (Nat.le_refl _) (by simp) ?_;(case hd=>rfl);(case hg=>rfl);(case hr=>first|(go_simp;done)|(go_simp;rfl));(case hp=>exact(Reps.one (show Kd.M (Kd.int .u8) _ _ _ (bt a2 t307) [.int .u8 (bt a2 t307)] from rfl) (Reps.none _ _)));intro v311 w38 ho39 hb hg_ hnew_;clear hg_ hnew_;(first|rw[← Ny310.out] at ho39|(simp only[Int.reduceToNat] at ho39;rw[← Ny310.out] at ho39));have n0_:=am (Kd.R_lower ho39 (keep_size (w:=w) (g:=g) (row:=none) (by repeat(first|(with_reducible first|exact HK.out|apply KeepBut.set_|apply keep_drewN|apply keep_drew|apply keep_alloc)|exact HK.out))));have n1_:=am (IsS53.below (by repeat(first|(with_reducible first|exact HI0.out|apply IsS53.alloc|apply IsS53.drewN|apply IsS53.drew|apply IsS53.set_1|apply IsS53.set_2)|exact HI0.out)) hb);have n2_:=am (KeepBut.trans (by repeat(first|(with_reducible first|exact HK.out|apply KeepBut.set_|apply keep_drewN|apply keep_drew|apply keep_alloc)|exact HK.out)) (KeepBut.of_below hb g none) (.inl rfl));have n3_:=am (below_step (by repeat(first|(with_reducible first|exact HB.out|apply below_alloc|apply pw_below_drewN|apply below_drew1|refine below_set ?_ (IsS53.ge HI0.out))|exact HB.out)) hb);clear HI0 HK HB;have HO312:=n0_;have HI0:=n1_;have HK:=n2_;have HB:=n3_;clear n0_ n1_ n2_ n3_ hb ho39;have hcv40:=own_string (P:=Try.prog) Try.underlying22 Try.underlying5 Try.underlying9 (Kd.own_of_R HO312.out))|(go_at_call 41;(with_reducible refine(spec_l1Cur_pick.calls g s0_0 t308 t309 3 t313 t314 t315 w0 _ ?side1 ?side2 A14.out).mono ?_);(case side1=>repeat(first|(with_reducible first|exact HI0.out|apply IsS53.alloc|apply IsS53.drewN|apply IsS53.drew|apply IsS53.set_1|apply IsS53.set_2)|exact HI0.out));(case side2=>repeat(first|(with_reducible first|exact HB.out|apply below_alloc|apply pw_below_drewN|apply below_drew1|refine below_set ?_ (IsS53.ge HI0.out))|exact HB.out));rintro e w41 ⟨rfl,hi,hb,hk⟩;have n0_:=am (Kd.R_mono (Kd.R_keep (IsS53.apart (show IsS53 w0 _ g s0_0 t308 t309 from by repeat(first|(with_reducible first|exact HI0.out|apply IsS53.alloc|apply IsS53.drewN|apply IsS53.drew|apply IsS53.set_1|apply IsS53.set_2)|exact HI0.out)) (rup HO312.out) (by decide)) hk (fun _ h=>h.2)) (fun _ h=>h.1));have n1_:=am (KeepBut.trans (by repeat(first|(with_reducible first|exact HK.out|apply KeepBut.set_|apply keep_drewN|apply keep_drew|apply keep_alloc)|exact HK.out)) hk (.inl rfl));have n2_:=am (hb);have n3_:=am (hi);clear HO312 HK HB HI0;have HO312:=n0_;have HK:=n1_;have HB:=n2_;have HI0:=n3_;clear n0_ n1_ n2_ n3_;(try clear hb);(try clear hb2);(try clear hk);(try clear hi))))
                go_roundg kj5
                case measure=>have:=HK1.out;have:=HJ5.out;omega
                case rel=>exact⟨(((x1_1.extract 0 (t304:Int).toNat) ++ (strOfNums y310)) ++ (x1_1.extract ((ji32):Int).toNat x1_1.size)),(wrap64 (x7_1 - 1)),(t314),(t315),(by first|rfl|(simp;done)|(simp only[← hji32]<;>(first|rfl|simp))|(simp [*];done)),fin2,H',⟨by have:=HK1.out;have:=HJ5.out;omega⟩,⟨by repeat(first|(with_reducible first|exact HI0.out|apply IsS53.alloc|apply IsS53.drewN|apply IsS53.drew|apply IsS53.set_1|apply IsS53.set_2)|exact HI0.out)⟩,⟨by repeat(first|(with_reducible first|exact HK.out|apply KeepBut.set_|apply keep_drewN|apply keep_drew|apply keep_alloc)|exact HK.out)⟩,⟨by repeat(first|(with_reducible first|exact HB.out|apply below_alloc|apply pw_below_drewN|apply below_drew1|refine below_set ?_ (IsS53.ge HI0.out))|exact HB.out)⟩⟩
               ·rw[if_neg c35] at H
                exact absurd H (by simp)
              ·rw[if_neg c34] at H
               exact absurd H (by simp)
             ·rw[if_neg c33] at H
              exact absurd H (by simp)
            ·rw[if_neg c31] at H
             exact absurd H (by simp)
           ·rw[if_neg c30] at H
            exact absurd H (by simp)
          ·rw[if_neg c29] at H
           exact absurd H (by simp)
         ·rw[if_neg c28] at H
          have c28b0:(t313 == 1)=false:=beq_eq_false_iff_ne.mpr c28
          have c28b1:(t313 != 1)=true:=bne_iff_ne.mpr c28
          by_cases c42:0≤t304
          ·rw[if_pos c42] at H
           have c42b0:=eq_true c42
           have c42b1:decide (0≤t304)=true:=decide_eq_true c42
           clear c42
           by_cases c43:t304≤(x1_1.size:Int)
           ·rw[if_pos c43] at H
            have c43b0:=eq_true c43
            have c43b1:decide (t304≤(x1_1.size:Int))=true:=decide_eq_true c43
            clear c43
            obtain⟨ji44,hji44⟩:∃ j_:Int,(wrap64 (t304+1))=j_:=⟨_,rfl⟩
            replace H:(if 0≤(ji44) then(if(ji44)≤(x1_1.size:Int) then(if(x1_1.extract 0 (t304:Int).toNat).size+(x1_1.extract ((ji44):Int).toNat x1_1.size).size≤9223372036854775807 then(spec_l1Cur_spoilt.l0 kj5 ((x1_1.extract 0 (t304:Int).toNat) ++ (x1_1.extract ((ji44):Int).toNat x1_1.size)) a2 (wrap64 (x7_1 - 1)) s0_0 t314 t315) else(none)) else(none)) else(none))=some (r1,r2,r3):=by first|(rw[hji44] at H;exact H)|(simp only[hji44] at H ⊢;exact H)
            (try rw[hji44] at A9)
            (try rw[hji44] at A10)
            (try rw[hji44] at A14)
            have hji44w:(IntKind.i64.wrap (t304+1))=ji44:=(i64_w _).trans hji44
            by_cases c45:0≤(ji44)
            ·rw[if_pos c45] at H
             have c45b0:=eq_true c45
             have c45b1:decide (0≤(ji44))=true:=decide_eq_true c45
             clear c45
             by_cases c46:(ji44)≤(x1_1.size:Int)
             ·rw[if_pos c46] at H
              have c46b0:=eq_true c46
              have c46b1:decide ((ji44)≤(x1_1.size:Int))=true:=decide_eq_true c46
              clear c46
              by_cases c47:(x1_1.extract 0 (t304:Int).toNat).size+(x1_1.extract ((ji44):Int).toNat x1_1.size).size≤9223372036854775807
              ·rw[if_pos c47] at H
               have c47b0:=eq_true c47
               have c47b1:decide ((x1_1.extract 0 (t304:Int).toNat).size+(x1_1.extract ((ji44):Int).toNat x1_1.size).size≤9223372036854775807)=true:=decide_eq_true c47
               try have c47b2:(9223372036854775807<(x1_1.extract 0 (t304:Int).toNat).size+(x1_1.extract ((ji44):Int).toNat x1_1.size).size)=False:=eq_false (Nat.not_lt.2 c47)
               have H':=am H
               clear H
               go_wp2_with (first|(go_at_call 41;(with_reducible refine(spec_l1Cur_pick.calls g s0_0 x1001_1 x1002_1 (x1_1.size:Int) t304 t305 t306 w0 _ ?side1 ?side2 A9.out).mono ?_);(case side1=>repeat(first|(with_reducible first|exact HI0.out|apply IsS53.alloc|apply IsS53.drewN|apply IsS53.drew|apply IsS53.set_1|apply IsS53.set_2)|exact HI0.out));(case side2=>repeat(first|(with_reducible first|exact HB.out|apply below_alloc|apply pw_below_drewN|apply below_drew1|refine below_set ?_ (IsS53.ge HI0.out))|exact HB.out));rintro e w48 ⟨rfl,hi,hb,hk⟩;have n0_:=am (KeepBut.trans (by repeat(first|(with_reducible first|exact HK.out|apply KeepBut.set_|apply keep_drewN|apply keep_drew|apply keep_alloc)|exact HK.out)) hk (.inl rfl));have n1_:=am (hb);have n2_:=am (hi);clear HK HB HI0;have HK:=n0_;have HB:=n1_;have HI0:=n2_;clear n0_ n1_ n2_;(try clear hb);(try clear hb2);(try clear hk);(try clear hi))|(go_at_call 41;(with_reducible refine(spec_l1Cur_pick.calls g s0_0 t305 t306 (a2.size:Int) t307 t308 t309 w0 _ ?side1 ?side2 A10.out).mono ?_);(case side1=>repeat(first|(with_reducible first|exact HI0.out|apply IsS53.alloc|apply IsS53.drewN|apply IsS53.drew|apply IsS53.set_1|apply IsS53.set_2)|exact HI0.out));(case side2=>repeat(first|(with_reducible first|exact HB.out|apply below_alloc|apply pw_below_drewN|apply below_drew1|refine below_set ?_ (IsS53.ge HI0.out))|exact HB.out));rintro e w49 ⟨rfl,hi,hb,hk⟩;have n0_:=am (KeepBut.trans (by repeat(first|(with_reducible first|exact HK.out|apply KeepBut.set_|apply keep_drewN|apply keep_drew|apply keep_alloc)|exact HK.out)) hk (.inl rfl));have n1_:=am (hb);have n2_:=am (hi);clear HK HB HI0;have HK:=n0_;have HB:=n1_;have HI0:=n2_;clear n0_ n1_ n2_;(try clear hb);(try clear hb2);(try clear hk);(try clear hi);have p13:0≤(t307:Int):=od;have q13:t307<(a2.size:Int):=od;have hx13:=bt_at a2 t307;replace p13:=eq_true p13;replace q13:=eq_true q13)|((with_reducible refine gate_dst (N:=32) rfl ?_);(try(refine gate_guard (by rfl) ?_;dsimp only));refine Kd.R_lit (Kd.int .u8) _ 5 ?hg (N:=32) ?hd (xs:=([bt a2 t307]:List Int)) (inner:=[.int .u8 (bt a2 t307)]) (ok:=fun _=>True) (okp:=fun _=>True) ?hr ?hp (fun _ hk=>hk) trivial (Below.refl _ _) (Nat.le_refl _) (by simp) ?_;(case hd=>rfl);(case hg=>rfl);(case hr=>first|(go_simp;done)|(go_simp;rfl));(case hp=>exact(Reps.one (show Kd.M (Kd.int .u8) _ _ _ (bt a2 t307) [.int .u8 (bt a2 t307)] from rfl) (Reps.none _ _)));intro v311 w50 ho51 hb hg_ hnew_;clear hg_ hnew_;(first|rw[← Ny310.out] at ho51|(simp only[Int.reduceToNat] at ho51;rw[← Ny310.out] at ho51));have n0_:=am (Kd.R_lower ho51 (keep_size (w:=w) (g:=g) (row:=none) (by repeat(first|(with_reducible first|exact HK.out|apply KeepBut.set_|apply keep_drewN|apply keep_drew|apply keep_alloc)|exact HK.out))));have n1_:=am (IsS53.below (by repeat(first|(with_reducible first|exact HI0.out|apply IsS53.alloc|apply IsS53.drewN|apply IsS53.drew|apply IsS53.set_1|apply IsS53.set_2)|exact HI0.out)) hb);have n2_:=am (KeepBut.trans (by repeat(first|(with_reducible first|exact HK.out|apply KeepBut.set_|apply keep_drewN|apply keep_drew|apply keep_alloc)|exact HK.out)) (KeepBut.of_below hb g none) (.inl rfl));have n3_:=am (below_step (by repeat(first|(with_reducible first|exact HB.out|apply below_alloc|apply pw_below_drewN|apply below_drew1|refine below_set ?_ (IsS53.ge HI0.out))|exact HB.out)) hb);clear HI0 HK HB;have HO312:=n0_;have HI0:=n1_;have HK:=n2_;have HB:=n3_;clear n0_ n1_ n2_ n3_ hb ho51;have hcv52:=own_string (P:=Try.prog) Try.underlying22 Try.underlying5 Try.underlying9 (Kd.own_of_R HO312.out))|(go_at_call 41;(with_reducible refine(spec_l1Cur_pick.calls g s0_0 t308 t309 3 t313 t314 t315 w0 _ ?side1 ?side2 A14.out).mono ?_);(case side1=>repeat(first|(with_reducible first|exact HI0.out|apply IsS53.alloc|apply IsS53.drewN|apply IsS53.drew|apply IsS53.set_1|apply IsS53.set_2)|exact HI0.out));(case side2=>repeat(first|(with_reducible first|exact HB.out|apply below_alloc|apply pw_below_drewN|apply below_drew1|refine below_set ?_ (IsS53.ge HI0.out))|exact HB.out));rintro e w53 ⟨rfl,hi,hb,hk⟩;have n0_:=am (Kd.R_mono (Kd.R_keep (IsS53.apart (show IsS53 w0 _ g s0_0 t308 t309 from by repeat(first|(with_reducible first|exact HI0.out|apply IsS53.alloc|apply IsS53.drewN|apply IsS53.drew|apply IsS53.set_1|apply IsS53.set_2)|exact HI0.out)) (rup HO312.out) (by decide)) hk (fun _ h=>h.2)) (fun _ h=>h.1));have n1_:=am (KeepBut.trans (by repeat(first|(with_reducible first|exact HK.out|apply KeepBut.set_|apply keep_drewN|apply keep_drew|apply keep_alloc)|exact HK.out)) hk (.inl rfl));have n2_:=am (hb);have n3_:=am (hi);clear HO312 HK HB HI0;have HO312:=n0_;have HK:=n1_;have HB:=n2_;have HI0:=n3_;clear n0_ n1_ n2_ n3_;(try clear hb);(try clear hb2);(try clear hk);(try clear hi)))
               repeat(go_quiet (first|(go_at_call 41;(with_reducible refine(spec_l1Cur_pick.calls g s0_0 x1001_1 x1002_1 (x1_1.size:Int) t304 t305 t306 w0 _ ?side1 ?side2 A9.out).mono ?_);(case side1=>repeat(first|(with_reducible first|exact HI0.out|apply IsS53.alloc|apply IsS53.drewN|apply IsS53.drew|apply IsS53.set_1|apply IsS53.set_2)|exact HI0.out));(case side2=>repeat(first|(with_reducible first|exact HB.out|apply below_alloc|apply pw_below_drewN|apply below_drew1|refine below_set ?_ (IsS53.ge HI0.out))|exact HB.out));rintro e w48 ⟨rfl,hi,hb,hk⟩;have n0_:=am (KeepBut.trans (by repeat(first|(with_reducible first|exact HK.out|apply KeepBut.set_|apply keep_drewN|apply keep_drew|apply keep_alloc)|exact HK.out)) hk (.inl rfl));have n1_:=am (hb);have n2_:=am (hi);clear HK HB HI0;have HK:=n0_;have HB:=n1_;have HI0:=n2_;clear n0_ n1_ n2_;(try clear hb);(try clear hb2);(try clear hk);(try clear hi))|(go_at_call 41;(with_reducible refine(spec_l1Cur_pick.calls g s0_0 t305 t306 (a2.size:Int) t307 t308 t309 w0 _ ?side1 ?side2 A10.out).mono ?_);(case side1=>repeat(first|(with_reducible first|exact HI0.out|apply IsS53.alloc|apply IsS53.drewN|apply IsS53.drew|apply IsS53.set_1|apply IsS53.set_2)|exact HI0.out));(case side2=>repeat(first|(with_reducible first|exact HB.out|apply below_alloc|apply pw_below_drewN|apply below_drew1|refine below_set ?_ (IsS53.ge HI0.out))|exact HB.out));rintro e w49 ⟨rfl,hi,hb,hk⟩;have n0_:=am (KeepBut.trans (by repeat(first|(with_reducible first|exact HK.out|apply KeepBut.set_|apply keep_drewN|apply keep_drew|apply keep_alloc)|exact HK.out)) hk (.inl rfl));have n1_:=am (hb);have n2_:=am (hi);clear HK HB HI0;have HK:=n0_;have HB:=n1_;have HI0:=n2_;clear n0_ n1_ n2_;(try clear hb);(try clear hb2);(try clear hk);(try clear hi);have p13:0≤(t307:Int):=od;have q13:t307<(a2.size:Int):=od;have hx13:=bt_at a2 t307;replace p13:=eq_true p13;replace q13:=eq_true q13)|((with_reducible refine gate_dst (N:=32) rfl ?_);(try(refine gate_guard (by rfl) ?_;dsimp only));refine Kd.R_lit (Kd.int .u8) _ 5 ?hg (N:=32) ?hd (xs:=([bt a2 t307]:List Int)) (inner:=[.int .u8 (bt a2 t307)]) (ok:=fun _=>True) (okp:=fun _=>True) ?hr ?hp (fun _ hk=>hk) trivial (Below.refl _ _) (Nat.le_refl _) (by simp) ?_;(case hd=>rfl);(case hg=>rfl);(case hr=>first|(go_simp;done)|(go_simp;rfl));(case hp=>exact(Reps.one (show Kd.M (Kd.int .u8) _ _ _ (bt a2 t307) [.int .u8 (bt a2 t307)] from rfl) (Reps.none _ _)));intro v311 w50 ho51 hb hg_ hnew_;clear hg_ hnew_;(first|rw[← Ny310.out] at ho51|(simp only[Int.reduceToNat] at ho51;rw[← Ny310.out] at ho51));have n0_:=am (Kd.R_lower ho51 (keep_size (w:=w) (g:=g) (row:=none) (by repeat(first|(with_reducible first|exact HK.out|apply KeepBut.set_|apply keep_drewN|apply keep_drew|apply keep_alloc)|exact HK.out))));have n1_:=am (IsS53.below (by repeat(first|(with_reducible first|exact HI0.out|apply IsS53.alloc|apply IsS53.drewN|apply IsS53.drew|apply IsS53.set_1|apply IsS53.set_2)|exact HI0.out)) hb);have n2_:=am (KeepBut.trans (by repeat(first|(with_reducible first|exact HK.out|apply KeepBut.set_|apply keep_drewN|apply keep_drew|apply keep_alloc)|exact HK.out)) (KeepBut.of_below hb g none) (.inl rfl));have n3_:=am (below_step (by repeat(first|(with_reducible first|exact HB.out|apply below_alloc|apply pw_below_drewN|apply below_drew1|refine below_set ?_ (IsS53.ge HI0.out))|exact HB.out)) hb);clear HI0 HK HB;have HO312:=n0_;have HI0:=n1_;have HK:=n2_;have HB:=n3_;clear n0_ n1_ n2_ n3_ hb ho51;have hcv52:=own_string (P:=Try.prog) Try.underlying22 Try.underlying5 Try.underlying9 (Kd.own_of_R HO312.out))|(go_at_call 41;(with_reducible refine(spec_l1Cur_pick.calls g s0_0 t308 t309 3 t313 t314 t315 w0 _ ?side1 ?side2 A14.out).mono ?_);(case side1=>repeat(first|(with_reducible first|exact HI0.out|apply IsS53.alloc|apply IsS53.drewN|apply IsS53.drew|apply IsS53.set_1|apply IsS53.set_2)|exact HI0.out));(case side2=>repeat(first|(with_reducible first|exact HB.out|apply below_alloc|apply pw_below_drewN|apply below_drew1|refine below_set ?_ (IsS53.ge HI0.out))|exact HB.out));rintro e w53 ⟨rfl,hi,hb,hk⟩;have n0_:=am (Kd.R_mono (Kd.R_keep (IsS53.apart (show IsS53 w0 _ g s0_0 t308 t309 from by repeat(first|(with_reducible first|exact HI0.out|apply IsS53.alloc|apply IsS53.drewN|apply IsS53.drew|apply IsS53.set_1|apply IsS53.set_2)|exact HI0.out)) (rup HO312.out) (by decide)) hk (fun _ h=>h.2)) (fun _ h=>h.1));have n1_:=am (KeepBut.trans (by repeat(first|(with_reducible first|exact HK.out|apply KeepBut.set_|apply keep_drewN|apply keep_drew|apply keep_alloc)|exact HK.out)) hk (.inl rfl));have n2_:=am (hb);have n3_:=am (hi);clear HO312 HK HB HI0;have HO312:=n0_;have HK:=n1_;have HB:=n2_;have HI0:=n3_;clear n0_ n1_ n2_ n3_;(try clear hb);(try clear hb2);(try clear hk);(try clear hi)));try go_wp2_with (first|(go_at_call 41;(with_reducible refine(spec_l1Cur_pick.calls g s0_0 x1001_1 x1002_1 (x1_1.size:Int) t304 t305 t306 w0 _ ?side1 ?side2 A9.out).mono ?_);(case side1=>repeat(first|(with_reducible first|exact HI0.out|apply IsS53.alloc|apply IsS53.drewN|apply IsS53.drew|apply IsS53.set_1|apply IsS53.set_2)|exact HI0.out));(case side2=>repeat(first|(with_reducible first|exact HB.out|apply below_alloc|apply pw_below_drewN|apply below_drew1|refine below_set ?_ (IsS53.ge HI0.out))|exact HB.out));rintro e w48 ⟨rfl,hi,hb,hk⟩;have n0_:=am (KeepBut.trans (by repeat(first|(with_reducible first|exact HK.out|apply KeepBut.set_|apply keep_drewN|apply keep_drew|apply keep_alloc)|exact HK.out)) hk (.inl rfl));have n1_:=am (hb);have n2_:=am (hi);clear HK HB HI0;have HK:=n0_;have HB:=n1_;have HI0:=n2_;clear n0_ n1_ n2_;(try clear hb);(try clear hb2);(try clear hk);(try clear hi))|(go_at_call 41;(with_reducible refine(spec_l1Cur_pick.calls g s0_0 t305 t306 (a2.size:Int) t307 t308 t309 w0 _ ?side1 ?side2 A10.out).mono ?_);(case side1=>repeat(first|(with_reducible first|exact HI0.out|apply IsS53.alloc|apply IsS53.drewN|apply IsS53.drew|apply IsS53.set_1|apply IsS53.set_2)|exact HI0.out));(case side2=>repeat(first|(with_reducible first|exact HB.out|apply below_alloc|apply pw_below_drewN|apply below_drew1|refine below_set ?_ (IsS53.ge HI0.out))|exact HB.out));rintro e w49 ⟨rfl,hi,hb,hk⟩;have n0_:=am (KeepBut.trans (by repeat(first|(with_reducible first|exact HK.out|apply KeepBut.set_|apply keep_drewN|apply keep_drew|apply keep_alloc)|exact HK.out)) hk (.inl rfl));have n1_:=am (hb);have n2_:=am (hi);clear HK HB HI0;have HK:=n0_;have HB:=n1_;have HI0:=n2_;clear n0_ n1_ n2_;(try clear hb);(try clear hb2);(try clear hk);(try clear hi);have p13:0≤(t307:Int):=od;have q13:t307<(a2.size:Int):=od;have hx13:=bt_at a2 t307;replace p13:=eq_true p13;replace q13:=eq_true q13)|((with_reducible refine gate_dst (N:=32) rfl ?_);(try(refine gate_guard (by rfl) ?_;dsimp only));refine Kd.R_lit (Kd.int .u8) _ 5 ?hg (N:=32) ?hd (xs:=([bt a2 t307]:List Int)) (inner:=[.int .u8 (bt a2 t307)]) (ok:=fun _=>True) (okp:=fun _=>True) ?hr ?hp (fun _ hk=>hk) trivial (Below.refl _ _) (Nat.le_refl _) (by simp) ?_;(case hd=>rfl);(case hg=>rfl);(case hr=>first|(go_simp;done)|(go_simp;rfl));(case hp=>exact(Reps.one (show Kd.M (Kd.int .u8) _ _ _ (bt a2 t307) [.int .u8 (bt a2 t307)] from rfl) (Reps.none _ _)));intro v311 w50 ho51 hb hg_ hnew_;clear hg_ hnew_;(first|rw[← Ny310.out] at ho51|(simp only[Int.reduceToNat] at ho51;rw[← Ny310.out] at ho51));have n0_:=am (Kd.R_lower ho51 (keep_size (w:=w) (g:=g) (row:=none) (by repeat(first|(with_reducible first|exact HK.out|apply KeepBut.set_|apply keep_drewN|apply keep_drew|apply keep_alloc)|exact HK.out))));have n1_:=am (IsS53.below (by repeat(first|(with_reducible first|exact HI0.out|apply IsS53.alloc|apply IsS53.drewN|apply IsS53.drew|apply IsS53.set_1|apply IsS53.set_2)|exact HI0.out)) hb);have n2_:=am (KeepBut.trans (by repeat(first|(with_reducible first|exact HK.out|apply KeepBut.set_|apply keep_drewN|apply keep_drew|apply keep_alloc)|exact HK.out)) (KeepBut.of_below hb g none) (.inl rfl));have n3_:=am (below_step (by repeat(first|(with_reducible first|exact HB.out|apply below_alloc|apply pw_below_drewN|apply below_drew1|refine below_set ?_ (IsS53.ge HI0.out))|exact HB.out)) hb);clear HI0 HK HB;have HO312:=n0_;have HI0:=n1_;have HK:=n2_;have HB:=n3_;clear n0_ n1_ n2_ n3_ hb ho51;have hcv52:=own_string (P:=Try.prog) Try.underlying22 Try.underlying5 Try.underlying9 (Kd.own_of_R HO312.out))|(go_at_call 41;(with_reducible refine(spec_l1Cur_pick.calls g s0_0 t308 t309 3 t313 t314 t315 w0 _ ?side1 ?side2 A14.out).mono ?_);(case side1=>repeat(first|(with_reducible first|exact HI0.out|apply IsS53.alloc|apply IsS53.drewN|apply IsS53.drew|apply IsS53.set_1|apply IsS53.set_2)|exact HI0.out));(case side2=>repeat(first|(with_reducible first|exact HB.out|apply below_alloc|apply pw_below_drewN|apply below_drew1|refine below_set ?_ (IsS53.ge HI0.out))|exact HB.out));rintro e w53 ⟨rfl,hi,hb,hk⟩;have n0_:=am (Kd.R_mono (Kd.R_keep (IsS53.apart (show IsS53 w0 _ g s0_0 t308 t309 from by repeat(first|(with_reducible first|exact HI0.out|apply IsS53.alloc|apply IsS53.drewN|apply IsS53.drew|apply IsS53.set_1|apply IsS53.set_2)|exact HI0.out)) (rup HO312.out) (by decide)) hk (fun _ h=>h.2)) (fun _ h=>h.1));have n1_:=am (KeepBut.trans (by repeat(first|(with_reducible first|exact HK.out|apply KeepBut.set_|apply keep_drewN|apply keep_drew|apply keep_alloc)|exact HK.out)) hk (.inl rfl));have n2_:=am (hb);have n3_:=am (hi);clear HO312 HK HB HI0;have HO312:=n0_;have HK:=n1_;have HB:=n2_;have HI0:=n3_;clear n0_ n1_ n2_ n3_;(try clear hb);(try clear hb2);(try clear hk);(try clear hi))))
               go_roundg kj5
               case measure=>have:=HK1.out;have:=HJ5.out;omega
               case rel=>exact⟨((x1_1.extract 0 (t304:Int).toNat) ++ (x1_1.extract ((ji44):Int).toNat x1_1.size)),(wrap64 (x7_1 - 1)),(t314),(t315),(by first|rfl|(simp;done)|(simp only[← hji44]<;>(first|rfl|simp))|(simp [*];done)),fin2,H',⟨by have:=HK1.out;have:=HJ5.out;omega⟩,⟨by repeat(first|(with_reducible first|exact HI0.out|apply IsS53.alloc|apply IsS53.drewN|apply IsS53.drew|apply IsS53.set_1|apply IsS53.set_2)|exact HI0.out)⟩,⟨by repeat(first|(with_reducible first|exact HK.out|apply KeepBut.set_|apply keep_drewN|apply keep_drew|apply keep_alloc)|exact HK.out)⟩,⟨by repeat(first|(with_reducible first|exact HB.out|apply below_alloc|apply pw_below_drewN|apply below_drew1|refine below_set ?_ (IsS53.ge HI0.out))|exact HB.out)⟩⟩
              ·rw[if_neg c47] at H
               exact absurd H (by simp)
             ·rw[if_neg c46] at H
              exact absurd H (by simp)
            ·rw[if_neg c45] at H
             exact absurd H (by simp)
           ·rw[if_neg c43] at H
            exact absurd H (by simp)
          ·rw[if_neg c42] at H
           exact absurd H (by simp)
       ·rw[if_neg c12] at H
        exact absurd H (by simp)
      ·rw[if_neg c11] at H
       exact absurd H (by simp)
     ·replace c8:=Bool.eq_false_iff.mpr c8
      subst c8
      have H1:(some (x1_1,x1001_1,x1002_1))=some (r1,r2,r3):=by rw[if_neg (show ¬ (false=true) by decide)] at H;exact H
      clear H
      have H:=H1
      clear H1
      simp only[Option.some.injEq,Prod.mk.injEq] at H
      obtain⟨rfl,rfl,rfl⟩:=H
      go_wp2
      repeat(go_quiet (fail);try go_wp2)
      go_ret
      exact⟨fin1,by repeat(first|(with_reducible first|exact HI0.out|apply IsS53.alloc|apply IsS53.drewN|apply IsS53.drew|apply IsS53.set_1|apply IsS53.set_2)|exact HI0.out),by repeat(first|(with_reducible first|exact HB.out|apply below_alloc|apply pw_below_drewN|apply below_drew1|refine below_set ?_ (IsS53.ge HI0.out))|exact HB.out),by repeat(first|(with_reducible first|exact HK.out|apply KeepBut.set_|apply keep_drewN|apply keep_drew|apply keep_alloc)|exact HK.out)⟩

/-! ### spec_DrawParsePattern: function 22 -/
def spec_DrawParsePattern.f (k:Nat) (l0:List Int):Option (ByteArray):=(spec_l1Cur_pattern.f k l0 0 0).bind fun bt317=>((spec_drGood.f k bt317.1 bt317.2.1).bind fun t324=>(if t324=true then((spec_drText.f k bt317.1 bt317.2.1).bind fun t331=>((spec_l1Cur_one.f l0 bt317.2.2.1 bt317.2.2.2 4).bind fun bt332=>(if bt332.1=true then((spec_l1Cur_spoilt.f k l0 bt332.2.1 bt332.2.2 t331 (⟨#[120,46,121]⟩:ByteArray)).bind fun bt335=>(some bt335.1)) else(some t331)))) else((spec_l1Cur_of.f l0 bt317.2.2.1 bt317.2.2.2 (([(⟨#[]⟩:ByteArray),(⟨#[120,46,88]⟩:ByteArray),(⟨#[46,46,46,46,46,46,46,46,46,46,46,46,46,46,46,46,46,46,46,46,46,46,46,46]⟩:ByteArray),(⟨#[46,46,46,46,46,46,46,46,46,46,46,46,46,46,46,46,46,46,46,46,46,46,46,46,46]⟩:ByteArray),(⟨#[32]⟩:ByteArray)]:List ByteArray))).bind fun bt328=>(some bt328.1))))
set_option maxHeartbeats 8000000 in
set_option maxRecDepth 100000 in
theorem spec_DrawParsePattern.calls (k:Nat) (A0:Option Addr) (c0:Nat) (l0:List Int) (r:ByteArray) (w:World) (hr0:Kd.C (Kd.int .u8) w A0 l0.length l0) (hc0:l0.length≤c0) (h:spec_DrawParsePattern.f k l0=some r) :
  Calls Try.prog 22 #[.slice A0 l0.length c0] w fun e w'=>e = .returned (.string r)∧Below w.heap.size w w':=by
 have hu53:=Try.underlying53
 have hu26:=Try.underlying26
 have HR0:=am hr0
 have HC0:=am hc0
 clear hr0 hc0
 have HB:=am (Below.refl w.heap.size w)
 have H:((spec_l1Cur_pattern.f k l0 0 0).bind fun bt317=>((spec_drGood.f k bt317.1 bt317.2.1).bind fun t324=>(if t324=true then((spec_drText.f k bt317.1 bt317.2.1).bind fun t331=>((spec_l1Cur_one.f l0 bt317.2.2.1 bt317.2.2.2 4).bind fun bt332=>(if bt332.1=true then((spec_l1Cur_spoilt.f k l0 bt332.2.1 bt332.2.2 t331 (⟨#[120,46,121]⟩:ByteArray)).bind fun bt335=>(some bt335.1)) else(some t331)))) else((spec_l1Cur_of.f l0 bt317.2.2.1 bt317.2.2.2 (([(⟨#[]⟩:ByteArray),(⟨#[120,46,88]⟩:ByteArray),(⟨#[46,46,46,46,46,46,46,46,46,46,46,46,46,46,46,46,46,46,46,46,46,46,46,46]⟩:ByteArray),(⟨#[46,46,46,46,46,46,46,46,46,46,46,46,46,46,46,46,46,46,46,46,46,46,46,46,46]⟩:ByteArray),(⟨#[32]⟩:ByteArray)]:List ByteArray))).bind fun bt328=>(some bt328.1)))))=some r:=h
 clear h
 replace H:=Option.bind_eq_some_iff.mp H
 obtain⟨⟨t317,t318,t321,t322⟩,A20,H⟩:=H
 replace H:((spec_drGood.f k t317 t318).bind fun t324=>(if t324=true then((spec_drText.f k t317 t318).bind fun t331=>((spec_l1Cur_one.f l0 t321 t322 4).bind fun bt332=>(if bt332.1=true then((spec_l1Cur_spoilt.f k l0 bt332.2.1 bt332.2.2 t331 (⟨#[120,46,121]⟩:ByteArray)).bind fun bt335=>(some bt335.1)) else(some t331)))) else((spec_l1Cur_of.f l0 t321 t322 (([(⟨#[]⟩:ByteArray),(⟨#[120,46,88]⟩:ByteArray),(⟨#[46,46,46,46,46,46,46,46,46,46,46,46,46,46,46,46,46,46,46,46,46,46,46,46]⟩:ByteArray),(⟨#[46,46,46,46,46,46,46,46,46,46,46,46,46,46,46,46,46,46,46,46,46,46,46,46,46]⟩:ByteArray),(⟨#[32]⟩:ByteArray)]:List ByteArray))).bind fun bt328=>(some bt328.1))))=some r:=H
 have A2:=am A20
 clear A20
 replace H:=Option.bind_eq_some_iff.mp H
 obtain⟨t324,A30,H⟩:=H
 replace H:(if t324=true then((spec_drText.f k t317 t318).bind fun t331=>((spec_l1Cur_one.f l0 t321 t322 4).bind fun bt332=>(if bt332.1=true then((spec_l1Cur_spoilt.f k l0 bt332.2.1 bt332.2.2 t331 (⟨#[120,46,121]⟩:ByteArray)).bind fun bt335=>(some bt335.1)) else(some t331)))) else((spec_l1Cur_of.f l0 t321 t322 (([(⟨#[]⟩:ByteArray),(⟨#[120,46,88]⟩:ByteArray),(⟨#[46,46,46,46,46,46,46,46,46,46,46,46,46,46,46,46,46,46,46,46,46,46,46,46]⟩:ByteArray),(⟨#[46,46,46,46,46,46,46,46,46,46,46,46,46,46,46,46,46,46,46,46,46,46,46,46,46]⟩:ByteArray),(⟨#[32]⟩:ByteArray)]:List ByteArray))).bind fun bt328=>(some bt328.1)))=some r:=H
 have A3:=am A30
 clear A30
 by_cases c4:t324=true
 ·subst c4
  have H1:((spec_drText.f k t317 t318).bind fun t331=>((spec_l1Cur_one.f l0 t321 t322 4).bind fun bt332=>(if bt332.1=true then((spec_l1Cur_spoilt.f k l0 bt332.2.1 bt332.2.2 t331 (⟨#[120,46,121]⟩:ByteArray)).bind fun bt335=>(some bt335.1)) else(some t331))))=some r:=by rw[if_pos rfl] at H;exact H
  clear H
  have H:=H1
  clear H1
  replace H:=Option.bind_eq_some_iff.mp H
  obtain⟨t331,A50,H⟩:=H
  replace H:((spec_l1Cur_one.f l0 t321 t322 4).bind fun bt332=>(if bt332.1=true then((spec_l1Cur_spoilt.f k l0 bt332.2.1 bt332.2.2 t331 (⟨#[120,46,121]⟩:ByteArray)).bind fun bt335=>(some bt335.1)) else(some t331)))=some r:=H
  have A5:=am A50
  clear A50
  replace H:=Option.bind_eq_some_iff.mp H
  obtain⟨⟨t332,t333,t334⟩,A60,H⟩:=H
  replace H:(if t332=true then((spec_l1Cur_spoilt.f k l0 t333 t334 t331 (⟨#[120,46,121]⟩:ByteArray)).bind fun bt335=>(some bt335.1)) else(some t331))=some r:=H
  have A6:=am A60
  clear A60
  by_cases c7:t332=true
  ·subst c7
   have H1:((spec_l1Cur_spoilt.f k l0 t333 t334 t331 (⟨#[120,46,121]⟩:ByteArray)).bind fun bt335=>(some bt335.1))=some r:=by rw[if_pos rfl] at H;exact H
   clear H
   have H:=H1
   clear H1
   replace H:=Option.bind_eq_some_iff.mp H
   obtain⟨⟨t335,t336,t337⟩,A80,H⟩:=H
   replace H:(some t335)=some r:=H
   have A8:=am A80
   clear A80
   obtain rfl:=Option.some.inj H
   go_enter Try.func22,Try.ntmps22
   go_wp2_with (first|((with_reducible refine gate_dst (N:=8) rfl ?_);refine box_event ?hg (N:=8) ?hd (cs := #[.slice A0 l0.length c0,.int .i64 0,.int .u64 0]) (t:=53) ?hr ?_;(case hd=>rfl);(case hg=>rfl);(case hr=>first|(go_simp;done)|(go_simp;rfl));intro gb316 hg w9 hbox hb;have n0_:=am (below_step bl hb);have n1_:=am (hbox);have n2_:=am (ge_ bl hg);have n3_:=am (ge_ bl hg);have n4_:=am ((show IsS53 w w9 gb316 l0 0 0 from⟨_,_,hbox,(by rw[hg];exact(below_size bl):w.heap.size≤gb316),HR0.out⟩));clear HB;have HB:=n0_;have BK316:=n1_;have GW316:=n2_;have GE316:=n3_;have HI316:=n4_;clear n0_ n1_ n2_ n3_ n4_ hb hbox hg)|((with_reducible refine gate_callee (f:=35) rfl ?_);refine goesL_ (some 10) rfl rfl Try.func35 (by kernel_rfl) rfl #[.pointer (some ⟨gb316,0,none⟩)] rfl tl ?_;(with_reducible refine(spec_l1Cur_pattern.calls k gb316 l0 0 0 t317 t318 t321 t322 w _ ?side1 ?side2 A2.out).mono ?_);(case side1=>repeat(first|(with_reducible first|exact HI316.out|apply IsS53.alloc|apply IsS53.drewN|apply IsS53.drew|apply IsS53.set_1|apply IsS53.set_2)|exact HI316.out));(case side2=>repeat(first|(with_reducible first|exact HB.out|apply below_alloc|apply pw_below_drewN|apply below_drew1|refine below_set ?_ (IsS53.ge HI316.out))|exact HB.out));rintro e w10 ⟨v319,rfl,ho0,hi,hb,hk⟩;refine⟨_,rfl,?_⟩;have n0_:=am (Kd.R_lower ho0 (below_size (by repeat(first|(with_reducible first|exact HB.out|apply below_alloc|apply pw_below_drewN|apply below_drew1|refine below_set ?_ (IsS53.ge HI316.out))|exact HB.out))));have n1_:=am (hb);have n2_:=am (hi);clear HB HI316;have HO320:=n0_;have HB:=n1_;have HI316:=n2_;clear n0_ n1_ n2_;(try clear hb);(try clear hb2);(try clear hk);(try clear hi);(try clear ho0))|((with_reducible refine gate_dst (N:=4) rfl ?_);refine box_event ?hg (N:=4) ?hd (cs := #[.int .i64 0,.slice none 0 0]) (t:=26) ?hr ?_;(case hd=>rfl);(case hg=>rfl);(case hr=>first|(go_simp;done)|(go_simp;rfl));intro gb323 hg w11 hbox hb;have n0_:=am (Kd.R_below (rup HO320.out) hb);have n1_:=am (IsS53.below (by repeat(first|(with_reducible first|exact HI316.out|apply IsS53.alloc|apply IsS53.drewN|apply IsS53.drew|apply IsS53.set_1|apply IsS53.set_2)|exact HI316.out)) hb);have n2_:=am (below_step (by repeat(first|(with_reducible first|exact HB.out|apply below_alloc|apply pw_below_drewN|apply below_drew1|refine below_set ?_ (IsS53.ge HI316.out))|exact HB.out)) hb);have n3_:=am (hbox);have n4_:=am ((by rw[hg];exact(below_size (by repeat(first|(with_reducible first|exact HB.out|apply below_alloc|apply pw_below_drewN|apply below_drew1|refine below_set ?_ (IsS53.ge HI316.out))|exact HB.out))):w.heap.size≤gb323));have n5_:=am ((by rw[hg];exact(below_size (by repeat(first|(with_reducible first|exact HB.out|apply below_alloc|apply pw_below_drewN|apply below_drew1|refine below_set ?_ (IsS53.ge HI316.out))|exact HB.out))):w.heap.size≤gb323));have n6_:=am ((by rw[hg];exact Nat.ne_of_lt (IsS53.lt (show IsS53 w _ gb316 l0 t321 t322 from by repeat(first|(with_reducible first|exact HI316.out|apply IsS53.alloc|apply IsS53.drewN|apply IsS53.drew|apply IsS53.set_1|apply IsS53.set_2)|exact HI316.out))):gb316≠gb323));have n7_:=am ((by rw[hg];exact Nat.ne_of_gt (IsS53.lt (show IsS53 w _ gb316 l0 t321 t322 from by repeat(first|(with_reducible first|exact HI316.out|apply IsS53.alloc|apply IsS53.drewN|apply IsS53.drew|apply IsS53.set_1|apply IsS53.set_2)|exact HI316.out))):gb323≠gb316));clear HO320 HI316 HB;have HO320:=n0_;have HI316:=n1_;have HB:=n2_;have BK323:=n3_;have GW323:=n4_;have GE323:=n5_;have NB316_323:=n6_;have NB323_316:=n7_;clear n0_ n1_ n2_ n3_ n4_ n5_ n6_ n7_ hb hbox hg;have hnb12:=NB323_316.out;have hnc12:=NB316_323.out;have hcz13_0:w11.cell? ⟨gb323,0,none⟩=some (.int .i64 0):=(blk_cell BK323.out 0).trans rfl;have hcz13_1:w11.cell? ⟨gb323,1,none⟩=some (.slice none 0 0):=(blk_cell BK323.out 1).trans rfl;have hfz13_0:=blk_frozen BK323.out 0;have hfz13_1:=blk_frozen BK323.out 1;obtain⟨Ao14,co14,eo14⟩:=Kd.R_slice HO320.out;subst eo14)|((with_reducible refine gate_callee (f:=26) rfl ?_);refine goesL_ (some 12) rfl rfl Try.func26 (by kernel_rfl) rfl #[.agg #[.int .i64 t317,.slice Ao14 t318.length co14]] rfl tl ?_;(with_reducible refine(spec_drGood.calls k t317 _ _ t318 true _ ?side1 ?side2 A3.out).mono ?_);(case side1=>refine(Kd.R_reads' (e:=3) (base:=w.heap.size) (ok:=fun k_=>True) (n:=t318.length) (c:=co14) ?_).2.2;exact(by(with_reducible repeat(first|apply Kd.R_alloc|apply Kd.R_drewN|apply Kd.R_drew));exact(Kd.R_mono (Kd.R_far (p:=⟨gb323,1,none⟩) (Kd.R_far (p:=⟨gb323,0,none⟩) (Kd.R_types HO320.out BK323.out (by decide)) (fun _ hk=>hk.2) (.int .i64 t317)) (fun _ hk=>hk.2) (.slice Ao14 t318.length co14)) (fun _ h_=>h_.1))));(case side2=>exact(Kd.R_reads' HO320.out).2.1);rintro e w15 ⟨rfl,hb⟩;refine⟨_,rfl,?_⟩;have n0_:=am (Kd.R_below (by(with_reducible repeat(first|apply Kd.R_alloc|apply Kd.R_drewN|apply Kd.R_drew));exact(Kd.R_mono (Kd.R_far (p:=⟨gb323,1,none⟩) (Kd.R_far (p:=⟨gb323,0,none⟩) (Kd.R_types HO320.out BK323.out (by decide)) (fun _ hk=>hk.2) (.int .i64 t317)) (fun _ hk=>hk.2) (.slice Ao14 t318.length co14)) (fun _ h_=>h_.1))) hb);have n1_:=am (IsS53.below (show IsS53 w ((w11.setCell ⟨gb323,0,none⟩ (.int .i64 t317)).setCell ⟨gb323,1,none⟩ (.slice Ao14 t318.length co14)) gb316 l0 t321 t322 from by repeat(first|(with_reducible first|exact HI316.out|apply IsS53.alloc|apply IsS53.drewN|apply IsS53.drew|apply IsS53.set_1|apply IsS53.set_2|refine IsS53.far ?_ NB316_323.out _)|exact HI316.out)) hb);have n2_:=am (blk_below (g:=gb323) (o := .cells #[.int .i64 t317,.slice Ao14 t318.length co14] 26 (0,0)) (by(with_reducible repeat(first|refine bN_ ?_ _|refine bD_ ?_|refine bA_ ?_ _));refine blk_put (cs := #[.int .i64 t317,.slice none 0 0]) ?_ 1 _ rfl;(with_reducible repeat(first|refine bN_ ?_ _|refine bD_ ?_|refine bA_ ?_ _));refine blk_put (cs := #[.int .i64 0,.slice none 0 0]) ?_ 0 _ rfl;exact bup BK323.out) hb);have n3_:=am (below_step (by repeat(first|(with_reducible first|exact HB.out|apply below_alloc|apply pw_below_drewN|apply below_drew1|refine below_set ?_ (IsS53.ge HI316.out)|refine below_set ?_ GE323.out)|exact HB.out)) hb);clear HO320 HI316 BK323 HB;have HO320:=n0_;have HI316:=n1_;have BK323:=n2_;have HB:=n3_;clear n0_ n1_ n2_ n3_;(try clear hb);(try clear hb2);(try clear hk);(try clear hi);have hcz16_0:w15.cell? ⟨gb323,0,none⟩=some (.int .i64 t317):=(blk_cell BK323.out 0).trans rfl;have hcz16_1:w15.cell? ⟨gb323,1,none⟩=some (.slice Ao14 t318.length co14):=(blk_cell BK323.out 1).trans rfl;have hfz16_0:=blk_frozen BK323.out 0;have hfz16_1:=blk_frozen BK323.out 1)|((with_reducible refine gate_callee (f:=27) rfl ?_);refine goesL_ (some 18) rfl rfl Try.func27 (by kernel_rfl) rfl #[.agg #[.int .i64 t317,.slice Ao14 t318.length co14]] rfl tl ?_;(with_reducible refine(spec_drText.calls k t317 _ _ t318 t331 _ ?side1 ?side2 A5.out).mono ?_);(case side1=>repeat(first|exact(Kd.R_reads' HO320.out).2.2|(with_reducible refine Kd.C_alloc ?_ _)|(with_reducible refine Kd.C_drewN ?_ _)|(with_reducible refine Kd.C_drew ?_)));(case side2=>exact(Kd.R_reads' HO320.out).2.1);rintro e w17 ⟨rfl,hb⟩;refine⟨_,rfl,?_⟩;have n0_:=am (Kd.R_below (rup HO320.out) hb);have n1_:=am (IsS53.below (by repeat(first|(with_reducible first|exact HI316.out|apply IsS53.alloc|apply IsS53.drewN|apply IsS53.drew|apply IsS53.set_1|apply IsS53.set_2|refine IsS53.far ?_ NB316_323.out _)|exact HI316.out)) hb);have n2_:=am (blk_below (bup BK323.out) hb);have n3_:=am (below_step (by repeat(first|(with_reducible first|exact HB.out|apply below_alloc|apply pw_below_drewN|apply below_drew1|refine below_set ?_ (IsS53.ge HI316.out)|refine below_set ?_ GE323.out)|exact HB.out)) hb);clear HO320 HI316 BK323 HB;have HO320:=n0_;have HI316:=n1_;have BK323:=n2_;have HB:=n3_;clear n0_ n1_ n2_ n3_;(try clear hb);(try clear hb2);(try clear hk);(try clear hi))|((with_reducible refine gate_callee (f:=37) rfl ?_);refine goesL_ (some 20) rfl rfl Try.func37 (by kernel_rfl) rfl #[.pointer (some ⟨gb316,0,none⟩),.int .i64 4] rfl tl ?_;(with_reducible refine(spec_l1Cur_one.calls gb316 l0 t321 t322 4 true t333 t334 w _ ?side1 ?side2 A6.out).mono ?_);(case side1=>repeat(first|(with_reducible first|exact HI316.out|apply IsS53.alloc|apply IsS53.drewN|apply IsS53.drew|apply IsS53.set_1|apply IsS53.set_2|refine IsS53.far ?_ NB316_323.out _)|exact HI316.out));(case side2=>repeat(first|(with_reducible first|exact HB.out|apply below_alloc|apply pw_below_drewN|apply below_drew1|refine below_set ?_ (IsS53.ge HI316.out)|refine below_set ?_ GE323.out)|exact HB.out));rintro e w18 ⟨rfl,hi,hb,hk⟩;refine⟨_,rfl,?_⟩;have n0_:=am (Kd.R_mono (Kd.R_keep (IsS53.apart (show IsS53 w _ gb316 l0 t321 t322 from by repeat(first|(with_reducible first|exact HI316.out|apply IsS53.alloc|apply IsS53.drewN|apply IsS53.drew|apply IsS53.set_1|apply IsS53.set_2|refine IsS53.far ?_ NB316_323.out _)|exact HI316.out)) (rup HO320.out) (by decide)) hk (fun _ h=>h.2)) (fun _ h=>h.1));have n1_:=am (KeepBut.blk hk (g':=gb323) (o := .cells #[.int .i64 t317,.slice Ao14 t318.length co14] 26 (0,0)) (bup BK323.out) NB323_316.out (by simp));have n2_:=am (hb);have n3_:=am (hi);clear HO320 BK323 HB HI316;have HO320:=n0_;have BK323:=n1_;have HB:=n2_;have HI316:=n3_;clear n0_ n1_ n2_ n3_;(try clear hb);(try clear hb2);(try clear hk);(try clear hi))|((with_reducible refine gate_callee (f:=38) rfl ?_);refine goesL_ (some 23) rfl rfl Try.func38 (by kernel_rfl) rfl #[.pointer (some ⟨gb316,0,none⟩),.string t331,.string (⟨#[120,46,121]⟩:ByteArray)] rfl tl ?_;(with_reducible refine(spec_l1Cur_spoilt.calls k gb316 l0 t333 t334 t331 (⟨#[120,46,121]⟩:ByteArray) t335 t336 t337 w _ ?side1 ?side2 A8.out).mono ?_);(case side1=>repeat(first|(with_reducible first|exact HI316.out|apply IsS53.alloc|apply IsS53.drewN|apply IsS53.drew|apply IsS53.set_1|apply IsS53.set_2|refine IsS53.far ?_ NB316_323.out _)|exact HI316.out));(case side2=>repeat(first|(with_reducible first|exact HB.out|apply below_alloc|apply pw_below_drewN|apply below_drew1|refine below_set ?_ (IsS53.ge HI316.out)|refine below_set ?_ GE323.out)|exact HB.out));rintro e w19 ⟨rfl,hi,hb,hk⟩;refine⟨_,rfl,?_⟩;have n0_:=am (Kd.R_mono (Kd.R_keep (IsS53.apart (show IsS53 w _ gb316 l0 t333 t334 from by repeat(first|(with_reducible first|exact HI316.out|apply IsS53.alloc|apply IsS53.drewN|apply IsS53.drew|apply IsS53.set_1|apply IsS53.set_2|refine IsS53.far ?_ NB316_323.out _)|exact HI316.out)) (rup HO320.out) (by decide)) hk (fun _ h=>h.2)) (fun _ h=>h.1));have n1_:=am (KeepBut.blk hk (g':=gb323) (o := .cells #[.int .i64 t317,.slice Ao14 t318.length co14] 26 (0,0)) (bup BK323.out) NB323_316.out (by simp));have n2_:=am (hb);have n3_:=am (hi);clear HO320 BK323 HB HI316;have HO320:=n0_;have BK323:=n1_;have HB:=n2_;have HI316:=n3_;clear n0_ n1_ n2_ n3_;(try clear hb);(try clear hb2);(try clear hk);(try clear hi)))
   go_ret
   exact⟨fin1,by repeat(first|(with_reducible first|exact HB.out|apply below_alloc|apply pw_below_drewN|apply below_drew1|refine below_set ?_ (IsS53.ge HI316.out)|refine below_set ?_ GE323.out)|exact HB.out)⟩
  ·replace c7:=Bool.eq_false_iff.mpr c7
   subst c7
   have H1:(some t331)=some r:=by rw[if_neg (show ¬ (false=true) by decide)] at H;exact H
   clear H
   have H:=H1
   clear H1
   obtain rfl:=Option.some.inj H
   go_enter Try.func22,Try.ntmps22
   go_wp2_with (first|((with_reducible refine gate_dst (N:=8) rfl ?_);refine box_event ?hg (N:=8) ?hd (cs := #[.slice A0 l0.length c0,.int .i64 0,.int .u64 0]) (t:=53) ?hr ?_;(case hd=>rfl);(case hg=>rfl);(case hr=>first|(go_simp;done)|(go_simp;rfl));intro gb316 hg w20 hbox hb;have n0_:=am (below_step bl hb);have n1_:=am (hbox);have n2_:=am (ge_ bl hg);have n3_:=am (ge_ bl hg);have n4_:=am ((show IsS53 w w20 gb316 l0 0 0 from⟨_,_,hbox,(by rw[hg];exact(below_size bl):w.heap.size≤gb316),HR0.out⟩));clear HB;have HB:=n0_;have BK316:=n1_;have GW316:=n2_;have GE316:=n3_;have HI316:=n4_;clear n0_ n1_ n2_ n3_ n4_ hb hbox hg)|((with_reducible refine gate_callee (f:=35) rfl ?_);refine goesL_ (some 10) rfl rfl Try.func35 (by kernel_rfl) rfl #[.pointer (some ⟨gb316,0,none⟩)] rfl tl ?_;(with_reducible refine(spec_l1Cur_pattern.calls k gb316 l0 0 0 t317 t318 t321 t322 w _ ?side1 ?side2 A2.out).mono ?_);(case side1=>repeat(first|(with_reducible first|exact HI316.out|apply IsS53.alloc|apply IsS53.drewN|apply IsS53.drew|apply IsS53.set_1|apply IsS53.set_2)|exact HI316.out));(case side2=>repeat(first|(with_reducible first|exact HB.out|apply below_alloc|apply pw_below_drewN|apply below_drew1|refine below_set ?_ (IsS53.ge HI316.out))|exact HB.out));rintro e w21 ⟨v319,rfl,ho0,hi,hb,hk⟩;refine⟨_,rfl,?_⟩;have n0_:=am (Kd.R_lower ho0 (below_size (by repeat(first|(with_reducible first|exact HB.out|apply below_alloc|apply pw_below_drewN|apply below_drew1|refine below_set ?_ (IsS53.ge HI316.out))|exact HB.out))));have n1_:=am (hb);have n2_:=am (hi);clear HB HI316;have HO320:=n0_;have HB:=n1_;have HI316:=n2_;clear n0_ n1_ n2_;(try clear hb);(try clear hb2);(try clear hk);(try clear hi);(try clear ho0))|((with_reducible refine gate_dst (N:=4) rfl ?_);refine box_event ?hg (N:=4) ?hd (cs := #[.int .i64 0,.slice none 0 0]) (t:=26) ?hr ?_;(case hd=>rfl);(case hg=>rfl);(case hr=>first|(go_simp;done)|(go_simp;rfl));intro gb323 hg w22 hbox hb;have n0_:=am (Kd.R_below (rup HO320.out) hb);have n1_:=am (IsS53.below (by repeat(first|(with_reducible first|exact HI316.out|apply IsS53.alloc|apply IsS53.drewN|apply IsS53.drew|apply IsS53.set_1|apply IsS53.set_2)|exact HI316.out)) hb);have n2_:=am (below_step (by repeat(first|(with_reducible first|exact HB.out|apply below_alloc|apply pw_below_drewN|apply below_drew1|refine below_set ?_ (IsS53.ge HI316.out))|exact HB.out)) hb);have n3_:=am (hbox);have n4_:=am ((by rw[hg];exact(below_size (by repeat(first|(with_reducible first|exact HB.out|apply below_alloc|apply pw_below_drewN|apply below_drew1|refine below_set ?_ (IsS53.ge HI316.out))|exact HB.out))):w.heap.size≤gb323));have n5_:=am ((by rw[hg];exact(below_size (by repeat(first|(with_reducible first|exact HB.out|apply below_alloc|apply pw_below_drewN|apply below_drew1|refine below_set ?_ (IsS53.ge HI316.out))|exact HB.out))):w.heap.size≤gb323));have n6_:=am ((by rw[hg];exact Nat.ne_of_lt (IsS53.lt (show IsS53 w _ gb316 l0 t321 t322 from by repeat(first|(with_reducible first|exact HI316.out|apply IsS53.alloc|apply IsS53.drewN|apply IsS53.drew|apply IsS53.set_1|apply IsS53.set_2)|exact HI316.out))):gb316≠gb323));have n7_:=am ((by rw[hg];exact Nat.ne_of_gt (IsS53.lt (show IsS53 w _ gb316 l0 t321 t322 from by repeat(first|(with_reducible first|exact HI316.out|apply IsS53.alloc|apply IsS53.drewN|apply IsS53.drew|apply IsS53.set_1|apply IsS53.set_2)|exact HI316.out))):gb323≠gb316));clear HO320 HI316 HB;have HO320:=n0_;have HI316:=n1_;have HB:=n2_;have BK323:=n3_;have GW323:=n4_;have GE323:=n5_;have NB316_323:=n6_;have NB323_316:=n7_;clear n0_ n1_ n2_ n3_ n4_ n5_ n6_ n7_ hb hbox hg;have hnb23:=NB323_316.out;have hnc23:=NB316_323.out;have hcz24_0:w22.cell? ⟨gb323,0,none⟩=some (.int .i64 0):=(blk_cell BK323.out 0).trans rfl;have hcz24_1:w22.cell? ⟨gb323,1,none⟩=some (.slice none 0 0):=(blk_cell BK323.out 1).trans rfl;have hfz24_0:=blk_frozen BK323.out 0;have hfz24_1:=blk_frozen BK323.out 1;obtain⟨Ao25,co25,eo25⟩:=Kd.R_slice HO320.out;subst eo25)|((with_reducible refine gate_callee (f:=26) rfl ?_);refine goesL_ (some 12) rfl rfl Try.func26 (by kernel_rfl) rfl #[.agg #[.int .i64 t317,.slice Ao25 t318.length co25]] rfl tl ?_;(with_reducible refine(spec_drGood.calls k t317 _ _ t318 true _ ?side1 ?side2 A3.out).mono ?_);(case side1=>refine(Kd.R_reads' (e:=3) (base:=w.heap.size) (ok:=fun k_=>True) (n:=t318.length) (c:=co25) ?_).2.2;exact(by(with_reducible repeat(first|apply Kd.R_alloc|apply Kd.R_drewN|apply Kd.R_drew));exact(Kd.R_mono (Kd.R_far (p:=⟨gb323,1,none⟩) (Kd.R_far (p:=⟨gb323,0,none⟩) (Kd.R_types HO320.out BK323.out (by decide)) (fun _ hk=>hk.2) (.int .i64 t317)) (fun _ hk=>hk.2) (.slice Ao25 t318.length co25)) (fun _ h_=>h_.1))));(case side2=>exact(Kd.R_reads' HO320.out).2.1);rintro e w26 ⟨rfl,hb⟩;refine⟨_,rfl,?_⟩;have n0_:=am (Kd.R_below (by(with_reducible repeat(first|apply Kd.R_alloc|apply Kd.R_drewN|apply Kd.R_drew));exact(Kd.R_mono (Kd.R_far (p:=⟨gb323,1,none⟩) (Kd.R_far (p:=⟨gb323,0,none⟩) (Kd.R_types HO320.out BK323.out (by decide)) (fun _ hk=>hk.2) (.int .i64 t317)) (fun _ hk=>hk.2) (.slice Ao25 t318.length co25)) (fun _ h_=>h_.1))) hb);have n1_:=am (IsS53.below (show IsS53 w ((w22.setCell ⟨gb323,0,none⟩ (.int .i64 t317)).setCell ⟨gb323,1,none⟩ (.slice Ao25 t318.length co25)) gb316 l0 t321 t322 from by repeat(first|(with_reducible first|exact HI316.out|apply IsS53.alloc|apply IsS53.drewN|apply IsS53.drew|apply IsS53.set_1|apply IsS53.set_2|refine IsS53.far ?_ NB316_323.out _)|exact HI316.out)) hb);have n2_:=am (blk_below (g:=gb323) (o := .cells #[.int .i64 t317,.slice Ao25 t318.length co25] 26 (0,0)) (by(with_reducible repeat(first|refine bN_ ?_ _|refine bD_ ?_|refine bA_ ?_ _));refine blk_put (cs := #[.int .i64 t317,.slice none 0 0]) ?_ 1 _ rfl;(with_reducible repeat(first|refine bN_ ?_ _|refine bD_ ?_|refine bA_ ?_ _));refine blk_put (cs := #[.int .i64 0,.slice none 0 0]) ?_ 0 _ rfl;exact bup BK323.out) hb);have n3_:=am (below_step (by repeat(first|(with_reducible first|exact HB.out|apply below_alloc|apply pw_below_drewN|apply below_drew1|refine below_set ?_ (IsS53.ge HI316.out)|refine below_set ?_ GE323.out)|exact HB.out)) hb);clear HO320 HI316 BK323 HB;have HO320:=n0_;have HI316:=n1_;have BK323:=n2_;have HB:=n3_;clear n0_ n1_ n2_ n3_;(try clear hb);(try clear hb2);(try clear hk);(try clear hi);have hcz27_0:w26.cell? ⟨gb323,0,none⟩=some (.int .i64 t317):=(blk_cell BK323.out 0).trans rfl;have hcz27_1:w26.cell? ⟨gb323,1,none⟩=some (.slice Ao25 t318.length co25):=(blk_cell BK323.out 1).trans rfl;have hfz27_0:=blk_frozen BK323.out 0;have hfz27_1:=blk_frozen BK323.out 1)|((with_reducible refine gate_callee (f:=27) rfl ?_);refine goesL_ (some 18) rfl rfl Try.func27 (by kernel_rfl) rfl #[.agg #[.int .i64 t317,.slice Ao25 t318.length co25]] rfl tl ?_;(with_reducible refine(spec_drText.calls k t317 _ _ t318 t331 _ ?side1 ?side2 A5.out).mono ?_);(case side1=>repeat(first|exact(Kd.R_reads' HO320.out).2.2|(with_reducible refine Kd.C_alloc ?_ _)|(with_reducible refine Kd.C_drewN ?_ _)|(with_reducible refine Kd.C_drew ?_)));(case side2=>exact(Kd.R_reads' HO320.out).2.1);rintro e w28 ⟨rfl,hb⟩;refine⟨_,rfl,?_⟩;have n0_:=am (Kd.R_below (rup HO320.out) hb);have n1_:=am (IsS53.below (by repeat(first|(with_reducible first|exact HI316.out|apply IsS53.alloc|apply IsS53.drewN|apply IsS53.drew|apply IsS53.set_1|apply IsS53.set_2|refine IsS53.far ?_ NB316_323.out _)|exact HI316.out)) hb);have n2_:=am (blk_below (bup BK323.out) hb);have n3_:=am (below_step (by repeat(first|(with_reducible first|exact HB.out|apply below_alloc|apply pw_below_drewN|apply below_drew1|refine below_set ?_ (IsS53.ge HI316.out)|refine below_set ?_ GE323.out)|exact HB.out)) hb);clear HO320 HI316 BK323 HB;have HO320:=n0_;have HI316:=n1_;have BK323:=n2_;have HB:=n3_;clear n0_ n1_ n2_ n3_;(try clear hb);(try clear hb2);(try clear hk);(try clear hi))|((with_reducible refine gate_callee (f:=37) rfl ?_);refine goesL_ (some 20) rfl rfl Try.func37 (by kernel_rfl) rfl #[.pointer (some ⟨gb316,0,none⟩),.int .i64 4] rfl tl ?_;(with_reducible refine(spec_l1Cur_one.calls gb316 l0 t321 t322 4 false t333 t334 w _ ?side1 ?side2 A6.out).mono ?_);(case side1=>repeat(first|(with_reducible first|exact HI316.out|apply IsS53.alloc|apply IsS53.drewN|apply IsS53.drew|apply IsS53.set_1|apply IsS53.set_2|refine IsS53.far ?_ NB316_323.out _)|exact HI316.out));(case side2=>repeat(first|(with_reducible first|exact HB.out|apply below_alloc|apply pw_below_drewN|apply below_drew1|refine below_set ?_ (IsS53.ge HI316.out)|refine below_set ?_ GE323.out)|exact HB.out));rintro e w29 ⟨rfl,hi,hb,hk⟩;refine⟨_,rfl,?_⟩;have n0_:=am (Kd.R_mono (Kd.R_keep (IsS53.apart (show IsS53 w _ gb316 l0 t321 t322 from by repeat(first|(with_reducible first|exact HI316.out|apply IsS53.alloc|apply IsS53.drewN|apply IsS53.drew|apply IsS53.set_1|apply IsS53.set_2|refine IsS53.far ?_ NB316_323.out _)|exact HI316.out)) (rup HO320.out) (by decide)) hk (fun _ h=>h.2)) (fun _ h=>h.1));have n1_:=am (KeepBut.blk hk (g':=gb323) (o := .cells #[.int .i64 t317,.slice Ao25 t318.length co25] 26 (0,0)) (bup BK323.out) NB323_316.out (by simp));have n2_:=am (hb);have n3_:=am (hi);clear HO320 BK323 HB HI316;have HO320:=n0_;have BK323:=n1_;have HB:=n2_;have HI316:=n3_;clear n0_ n1_ n2_ n3_;(try clear hb);(try clear hb2);(try clear hk);(try clear hi)))
   go_ret
   exact⟨fin1,by repeat(first|(with_reducible first|exact HB.out|apply below_alloc|apply pw_below_drewN|apply below_drew1|refine below_set ?_ (IsS53.ge HI316.out)|refine below_set ?_ GE323.out)|exact HB.out)⟩
 ·replace c4:=Bool.eq_false_iff.mpr c4
  subst c4
  have H1:((spec_l1Cur_of.f l0 t321 t322 (([(⟨#[]⟩:ByteArray),(⟨#[120,46,88]⟩:ByteArray),(⟨#[46,46,46,46,46,46,46,46,46,46,46,46,46,46,46,46,46,46,46,46,46,46,46,46]⟩:ByteArray),(⟨#[46,46,46,46,46,46,46,46,46,46,46,46,46,46,46,46,46,46,46,46,46,46,46,46,46]⟩:ByteArray),(⟨#[32]⟩:ByteArray)]:List ByteArray))).bind fun bt328=>(some bt328.1))=some r:=by rw[if_neg (show ¬ (false=true) by decide)] at H;exact H
  clear H
  have H:=H1
  clear H1
  obtain⟨y325,hy325⟩:∃ y_:List ByteArray,y_=(([(⟨#[]⟩:ByteArray),(⟨#[120,46,88]⟩:ByteArray),(⟨#[46,46,46,46,46,46,46,46,46,46,46,46,46,46,46,46,46,46,46,46,46,46,46,46]⟩:ByteArray),(⟨#[46,46,46,46,46,46,46,46,46,46,46,46,46,46,46,46,46,46,46,46,46,46,46,46,46]⟩:ByteArray),(⟨#[32]⟩:ByteArray)]:List ByteArray)):=⟨_,rfl⟩
  replace H:((spec_l1Cur_of.f l0 t321 t322 y325).bind fun bt328=>(some bt328.1))=some r:=by first|(rw[hy325];with_reducible exact H)|(have H2_:=(Option.bind_some _ _).symm.trans H;rw[hy325];with_reducible exact H2_)|(have H2_:=(Option.bind_some _ _).symm.trans H;with_reducible exact H2_)|with_reducible exact H|(rw[hy325];exact H)|exact H
  have Ny325:=am hy325
  clear hy325
  replace H:=Option.bind_eq_some_iff.mp H
  obtain⟨⟨t328,t329,t330⟩,A300,H⟩:=H
  replace H:(some t328)=some r:=H
  have A30:=am A300
  clear A300
  obtain rfl:=Option.some.inj H
  go_enter Try.func22,Try.ntmps22
  go_wp2_with (first|((with_reducible refine gate_dst (N:=8) rfl ?_);refine box_event ?hg (N:=8) ?hd (cs := #[.slice A0 l0.length c0,.int .i64 0,.int .u64 0]) (t:=53) ?hr ?_;(case hd=>rfl);(case hg=>rfl);(case hr=>first|(go_simp;done)|(go_simp;rfl));intro gb316 hg w31 hbox hb;have n0_:=am (below_step bl hb);have n1_:=am (hbox);have n2_:=am (ge_ bl hg);have n3_:=am (ge_ bl hg);have n4_:=am ((show IsS53 w w31 gb316 l0 0 0 from⟨_,_,hbox,(by rw[hg];exact(below_size bl):w.heap.size≤gb316),HR0.out⟩));clear HB;have HB:=n0_;have BK316:=n1_;have GW316:=n2_;have GE316:=n3_;have HI316:=n4_;clear n0_ n1_ n2_ n3_ n4_ hb hbox hg)|((with_reducible refine gate_callee (f:=35) rfl ?_);refine goesL_ (some 10) rfl rfl Try.func35 (by kernel_rfl) rfl #[.pointer (some ⟨gb316,0,none⟩)] rfl tl ?_;(with_reducible refine(spec_l1Cur_pattern.calls k gb316 l0 0 0 t317 t318 t321 t322 w _ ?side1 ?side2 A2.out).mono ?_);(case side1=>repeat(first|(with_reducible first|exact HI316.out|apply IsS53.alloc|apply IsS53.drewN|apply IsS53.drew|apply IsS53.set_1|apply IsS53.set_2)|exact HI316.out));(case side2=>repeat(first|(with_reducible first|exact HB.out|apply below_alloc|apply pw_below_drewN|apply below_drew1|refine below_set ?_ (IsS53.ge HI316.out))|exact HB.out));rintro e w32 ⟨v319,rfl,ho0,hi,hb,hk⟩;refine⟨_,rfl,?_⟩;have n0_:=am (Kd.R_lower ho0 (below_size (by repeat(first|(with_reducible first|exact HB.out|apply below_alloc|apply pw_below_drewN|apply below_drew1|refine below_set ?_ (IsS53.ge HI316.out))|exact HB.out))));have n1_:=am (hb);have n2_:=am (hi);clear HB HI316;have HO320:=n0_;have HB:=n1_;have HI316:=n2_;clear n0_ n1_ n2_;(try clear hb);(try clear hb2);(try clear hk);(try clear hi);(try clear ho0))|((with_reducible refine gate_dst (N:=4) rfl ?_);refine box_event ?hg (N:=4) ?hd (cs := #[.int .i64 0,.slice none 0 0]) (t:=26) ?hr ?_;(case hd=>rfl);(case hg=>rfl);(case hr=>first|(go_simp;done)|(go_simp;rfl));intro gb323 hg w33 hbox hb;have n0_:=am (Kd.R_below (rup HO320.out) hb);have n1_:=am (IsS53.below (by repeat(first|(with_reducible first|exact HI316.out|apply IsS53.alloc|apply IsS53.drewN|apply IsS53.drew|apply IsS53.set_1|apply IsS53.set_2)|exact HI316.out)) hb);have n2_:=am (below_step (by repeat(first|(with_reducible first|exact HB.out|apply below_alloc|apply pw_below_drewN|apply below_drew1|refine below_set ?_ (IsS53.ge HI316.out))|exact HB.out)) hb);have n3_:=am (hbox);have n4_:=am ((by rw[hg];exact(below_size (by repeat(first|(with_reducible first|exact HB.out|apply below_alloc|apply pw_below_drewN|apply below_drew1|refine below_set ?_ (IsS53.ge HI316.out))|exact HB.out))):w.heap.size≤gb323));have n5_:=am ((by rw[hg];exact(below_size (by repeat(first|(with_reducible first|exact HB.out|apply below_alloc|apply pw_below_drewN|apply below_drew1|refine below_set ?_ (IsS53.ge HI316.out))|exact HB.out))):w.heap.size≤gb323));have n6_:=am ((by rw[hg];exact Nat.ne_of_lt (IsS53.lt (show IsS53 w _ gb316 l0 t321 t322 from by repeat(first|(with_reducible first|exact HI316.out|apply IsS53.alloc|apply IsS53.drewN|apply IsS53.drew|apply IsS53.set_1|apply IsS53.set_2)|exact HI316.out))):gb316≠gb323));have n7_:=am ((by rw[hg];exact Nat.ne_of_gt (IsS53.lt (show IsS53 w _ gb316 l0 t321 t322 from by repeat(first|(with_reducible first|exact HI316.out|apply IsS53.alloc|apply IsS53.drewN|apply IsS53.drew|apply IsS53.set_1|apply IsS53.set_2)|exact HI316.out))):gb323≠gb316));clear HO320 HI316 HB;have HO320:=n0_;have HI316:=n1_;have HB:=n2_;have BK323:=n3_;have GW323:=n4_;have GE323:=n5_;have NB316_323:=n6_;have NB323_316:=n7_;clear n0_ n1_ n2_ n3_ n4_ n5_ n6_ n7_ hb hbox hg;have hnb34:=NB323_316.out;have hnc34:=NB316_323.out;have hcz35_0:w33.cell? ⟨gb323,0,none⟩=some (.int .i64 0):=(blk_cell BK323.out 0).trans rfl;have hcz35_1:w33.cell? ⟨gb323,1,none⟩=some (.slice none 0 0):=(blk_cell BK323.out 1).trans rfl;have hfz35_0:=blk_frozen BK323.out 0;have hfz35_1:=blk_frozen BK323.out 1;obtain⟨Ao36,co36,eo36⟩:=Kd.R_slice HO320.out;subst eo36)|((with_reducible refine gate_callee (f:=26) rfl ?_);refine goesL_ (some 12) rfl rfl Try.func26 (by kernel_rfl) rfl #[.agg #[.int .i64 t317,.slice Ao36 t318.length co36]] rfl tl ?_;(with_reducible refine(spec_drGood.calls k t317 _ _ t318 false _ ?side1 ?side2 A3.out).mono ?_);(case side1=>refine(Kd.R_reads' (e:=3) (base:=w.heap.size) (ok:=fun k_=>True) (n:=t318.length) (c:=co36) ?_).2.2;exact(by(with_reducible repeat(first|apply Kd.R_alloc|apply Kd.R_drewN|apply Kd.R_drew));exact(Kd.R_mono (Kd.R_far (p:=⟨gb323,1,none⟩) (Kd.R_far (p:=⟨gb323,0,none⟩) (Kd.R_types HO320.out BK323.out (by decide)) (fun _ hk=>hk.2) (.int .i64 t317)) (fun _ hk=>hk.2) (.slice Ao36 t318.length co36)) (fun _ h_=>h_.1))));(case side2=>exact(Kd.R_reads' HO320.out).2.1);rintro e w37 ⟨rfl,hb⟩;refine⟨_,rfl,?_⟩;have n0_:=am (Kd.R_below (by(with_reducible repeat(first|apply Kd.R_alloc|apply Kd.R_drewN|apply Kd.R_drew));exact(Kd.R_mono (Kd.R_far (p:=⟨gb323,1,none⟩) (Kd.R_far (p:=⟨gb323,0,none⟩) (Kd.R_types HO320.out BK323.out (by decide)) (fun _ hk=>hk.2) (.int .i64 t317)) (fun _ hk=>hk.2) (.slice Ao36 t318.length co36)) (fun _ h_=>h_.1))) hb);have n1_:=am (IsS53.below (show IsS53 w ((w33.setCell ⟨gb323,0,none⟩ (.int .i64 t317)).setCell ⟨gb323,1,none⟩ (.slice Ao36 t318.length co36)) gb316 l0 t321 t322 from by repeat(first|(with_reducible first|exact HI316.out|apply IsS53.alloc|apply IsS53.drewN|apply IsS53.drew|apply IsS53.set_1|apply IsS53.set_2|refine IsS53.far ?_ NB316_323.out _)|exact HI316.out)) hb);have n2_:=am (blk_below (g:=gb323) (o := .cells #[.int .i64 t317,.slice Ao36 t318.length co36] 26 (0,0)) (by(with_reducible repeat(first|refine bN_ ?_ _|refine bD_ ?_|refine bA_ ?_ _));refine blk_put (cs := #[.int .i64 t317,.slice none 0 0]) ?_ 1 _ rfl;(with_reducible repeat(first|refine bN_ ?_ _|refine bD_ ?_|refine bA_ ?_ _));refine blk_put (cs := #[.int .i64 0,.slice none 0 0]) ?_ 0 _ rfl;exact bup BK323.out) hb);have n3_:=am (below_step (by repeat(first|(with_reducible first|exact HB.out|apply below_alloc|apply pw_below_drewN|apply below_drew1|refine below_set ?_ (IsS53.ge HI316.out)|refine below_set ?_ GE323.out)|exact HB.out)) hb);clear HO320 HI316 BK323 HB;have HO320:=n0_;have HI316:=n1_;have BK323:=n2_;have HB:=n3_;clear n0_ n1_ n2_ n3_;(try clear hb);(try clear hb2);(try clear hk);(try clear hi))|((with_reducible refine gate_dst (N:=15) rfl ?_);refine Kd.R_lit Kd.string _ 9 ?hg (N:=15) ?hd (xs:=([(⟨#[]⟩:ByteArray),(⟨#[120,46,88]⟩:ByteArray),(⟨#[46,46,46,46,46,46,46,46,46,46,46,46,46,46,46,46,46,46,46,46,46,46,46,46]⟩:ByteArray),(⟨#[46,46,46,46,46,46,46,46,46,46,46,46,46,46,46,46,46,46,46,46,46,46,46,46,46]⟩:ByteArray),(⟨#[32]⟩:ByteArray)]:List ByteArray)) (inner:=[.string (⟨#[]⟩:ByteArray),.string (⟨#[120,46,88]⟩:ByteArray),.string (⟨#[46,46,46,46,46,46,46,46,46,46,46,46,46,46,46,46,46,46,46,46,46,46,46,46]⟩:ByteArray),.string (⟨#[46,46,46,46,46,46,46,46,46,46,46,46,46,46,46,46,46,46,46,46,46,46,46,46,46]⟩:ByteArray),.string (⟨#[32]⟩:ByteArray)]) (ok:=fun _=>True) (okp:=fun _=>True) ?hr ?hp (fun _ hk=>hk) trivial (Below.refl _ _) (Nat.le_refl _) (by simp) ?_;(case hd=>rfl);(case hg=>rfl);(case hr=>first|(go_simp;done)|(go_simp;rfl));(case hp=>exact(Reps.one (show Kd.M Kd.string _ _ _ (⟨#[]⟩:ByteArray) [.string (⟨#[]⟩:ByteArray)] from rfl) (Reps.one (show Kd.M Kd.string _ _ _ (⟨#[120,46,88]⟩:ByteArray) [.string (⟨#[120,46,88]⟩:ByteArray)] from rfl) (Reps.one (show Kd.M Kd.string _ _ _ (⟨#[46,46,46,46,46,46,46,46,46,46,46,46,46,46,46,46,46,46,46,46,46,46,46,46]⟩:ByteArray) [.string (⟨#[46,46,46,46,46,46,46,46,46,46,46,46,46,46,46,46,46,46,46,46,46,46,46,46]⟩:ByteArray)] from rfl) (Reps.one (show Kd.M Kd.string _ _ _ (⟨#[46,46,46,46,46,46,46,46,46,46,46,46,46,46,46,46,46,46,46,46,46,46,46,46,46]⟩:ByteArray) [.string (⟨#[46,46,46,46,46,46,46,46,46,46,46,46,46,46,46,46,46,46,46,46,46,46,46,46,46]⟩:ByteArray)] from rfl) (Reps.one (show Kd.M Kd.string _ _ _ (⟨#[32]⟩:ByteArray) [.string (⟨#[32]⟩:ByteArray)] from rfl) (Reps.none _ _)))))));intro v326 w38 ho39 hb hg_ hnew_;clear hg_ hnew_;(first|rw[← Ny325.out] at ho39|(simp only[Int.reduceToNat] at ho39;rw[← Ny325.out] at ho39));have n0_:=am (Kd.R_below (rup HO320.out) hb);have n1_:=am (Kd.R_lower ho39 (below_size (by repeat(first|(with_reducible first|exact HB.out|apply below_alloc|apply pw_below_drewN|apply below_drew1|refine below_set ?_ (IsS53.ge HI316.out)|refine below_set ?_ GE323.out)|exact HB.out))));have n2_:=am (IsS53.below (by repeat(first|(with_reducible first|exact HI316.out|apply IsS53.alloc|apply IsS53.drewN|apply IsS53.drew|apply IsS53.set_1|apply IsS53.set_2|refine IsS53.far ?_ NB316_323.out _)|exact HI316.out)) hb);have n3_:=am (blk_below (bup BK323.out) hb);have n4_:=am (below_step (by repeat(first|(with_reducible first|exact HB.out|apply below_alloc|apply pw_below_drewN|apply below_drew1|refine below_set ?_ (IsS53.ge HI316.out)|refine below_set ?_ GE323.out)|exact HB.out)) hb);clear HO320 HI316 BK323 HB;have HO320:=n0_;have HO327:=n1_;have HI316:=n2_;have BK323:=n3_;have HB:=n4_;clear n0_ n1_ n2_ n3_ n4_ hb ho39;obtain⟨Ao40,co40,eo40⟩:=Kd.R_slice HO327.out;subst eo40)|((with_reducible refine gate_callee (f:=36) rfl ?_);refine goesL_ (some 16) rfl rfl Try.func36 (by kernel_rfl) rfl #[.pointer (some ⟨gb316,0,none⟩),.slice Ao40 y325.length co40] rfl tl ?_;(with_reducible refine(spec_l1Cur_of.calls gb316 l0 t321 t322 _ _ y325 t328 t329 t330 w _ ?side1 ?side2 ?side3 ?side4 ?side5 A30.out).mono ?_);(case side1=>repeat(first|(with_reducible first|exact HI316.out|apply IsS53.alloc|apply IsS53.drewN|apply IsS53.drew|apply IsS53.set_1|apply IsS53.set_2|refine IsS53.far ?_ NB316_323.out _)|exact HI316.out));(case side2=>repeat(first|(with_reducible first|exact HB.out|apply below_alloc|apply pw_below_drewN|apply below_drew1|refine below_set ?_ (IsS53.ge HI316.out)|refine below_set ?_ GE323.out)|exact HB.out));(case side3=>repeat(first|exact(Kd.R_reads' HO327.out).2.2|(with_reducible refine Kd.C_alloc ?_ _)|(with_reducible refine Kd.C_drewN ?_ _)|(with_reducible refine Kd.C_drew ?_)));(case side4=>exact(Kd.R_reads' HO327.out).2.1);(case side5=>exact far_slice (IsS53.own_ne HI316.out HO327.out (by decide)));rintro e w41 ⟨rfl,hi,hb,hk⟩;refine⟨_,rfl,?_⟩;have n0_:=am (Kd.R_mono (Kd.R_keep (IsS53.apart (show IsS53 w _ gb316 l0 t321 t322 from by repeat(first|(with_reducible first|exact HI316.out|apply IsS53.alloc|apply IsS53.drewN|apply IsS53.drew|apply IsS53.set_1|apply IsS53.set_2|refine IsS53.far ?_ NB316_323.out _)|exact HI316.out)) (rup HO320.out) (by decide)) hk (fun _ h=>h.2)) (fun _ h=>h.1));have n1_:=am (KeepBut.blk hk (g':=gb323) (o := .cells #[.int .i64 t317,.slice Ao36 t318.length co36] 26 (0,0)) (bup BK323.out) NB323_316.out (by simp));have n2_:=am (Kd.R_mono (Kd.R_keep (IsS53.apart (show IsS53 w _ gb316 l0 t321 t322 from by repeat(first|(with_reducible first|exact HI316.out|apply IsS53.alloc|apply IsS53.drewN|apply IsS53.drew|apply IsS53.set_1|apply IsS53.set_2|refine IsS53.far ?_ NB316_323.out _)|exact HI316.out)) (rup HO327.out) (by decide)) hk (fun _ h=>h.2)) (fun _ h=>h.1));have n3_:=am (hb);have n4_:=am (hi);clear HO320 BK323 HO327 HB HI316;have HO320:=n0_;have BK323:=n1_;have HO327:=n2_;have HB:=n3_;have HI316:=n4_;clear n0_ n1_ n2_ n3_ n4_;(try clear hb);(try clear hb2);(try clear hk);(try clear hi)))
  go_ret
  exact⟨fin1,by repeat(first|(with_reducible first|exact HB.out|apply below_alloc|apply pw_below_drewN|apply below_drew1|refine below_set ?_ (IsS53.ge HI316.out)|refine below_set ?_ GE323.out)|exact HB.out)⟩

end Go.Proofs.Ytlhjjpdlfddflab.PFnPatterns
