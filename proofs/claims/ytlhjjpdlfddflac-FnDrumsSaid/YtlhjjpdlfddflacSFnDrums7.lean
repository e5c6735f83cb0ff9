/- The walks of functions that FnDrums reaches: what they return is what the plain functions of the same names say. Made by a program of this session after the kit's print. No conditions beyond the arguments' being read. -/
import Derived.Test.YtlhjjpdlfddflacSFnDrums0
import Derived.Test.YtlhjjpdlfddflacSFnDrums1
import Derived.Test.YtlhjjpdlfddflacSFnDrums2
namespace Go.Proofs.Ytlhjjpdlfddflac.PFnDrums
open Go.RowKit Go.Proofs.YtlhjjpdlfddflacW.PrintWords Go.Proofs.YtlhjjpdlfddflacW.PrintLast Go.Proofs.YtlhjjpdlfddflacW.PrintMore
attribute [local go_sem] max2_int min2_int max_two min_two max_three min_three max_four min_four   -- for this text's walks alone
set_option linter.unusedVariables false
set_option linter.unusedSimpArgs false

/-! ### spec_l1Cur_patterns: function 40 -/
mutual
def spec_l1Cur_patterns.j0:Nat→List (S26)→Int→List Int→Int→Int→Option ((List (S26))×Int×Int)
 | 0,_,_,_,_,_=>none
 | k+1,x3,x4,x1000,x1001,x1002=>spec_l1Cur_patterns.l0 k x3 x4 x1000 x1001 x1002
def spec_l1Cur_patterns.l0:Nat→List (S26)→Int→List Int→Int→Int→Option ((List (S26))×Int×Int)
 | 0,_,_,_,_,_=>none
 | k+1,x3,x4,x1000,x1001,x1002=>if(x3.length:Int)<x4 then((spec_l1Cur_pattern.f k x1000 x1001 x1002).bind fun bt294=>(if x3.length<4398046511104 then(spec_l1Cur_patterns.l0 k (x3 ++ [(⟨bt294.1,bt294.2.1⟩:S26)]) x4 x1000 bt294.2.2.1 bt294.2.2.2) else(none))) else((spec_l1Cur_pick.f x1000 x1001 x1002 24).bind fun bt303=>(if bt303.1=0 then(some ((([(⟨16,(([1,4]:List Int))⟩:S26),(⟨9,(([2]:List Int))⟩:S26),(⟨5,(([0]:List Int))⟩:S26),(⟨7,(([3]:List Int))⟩:S26)]:List (S26))),bt303.2.1,bt303.2.2)) else(if bt303.1=1 then(some ((([(⟨20,(([1]:List Int))⟩:S26),(⟨11,(([2]:List Int))⟩:S26),(⟨23,(([0]:List Int))⟩:S26)]:List (S26))),bt303.2.1,bt303.2.2)) else(some (x3,bt303.2.1,bt303.2.2)))))
end
def spec_l1Cur_patterns.f (k:Nat) (s0_0:List Int) (s0_1:Int) (s0_2:Int):Option ((List (S26))×Int×Int):=(spec_l1Cur_pick.f s0_0 s0_1 s0_2 3).bind fun bt282=>((spec_l1Cur_one.f s0_0 bt282.2.1 bt282.2.2 16).bind fun bt285=>(if bt285.1=true then((spec_l1Cur_among.f s0_0 bt285.2.1 bt285.2.2 (([0,5,6]:List Int))).bind fun bt291=>(spec_l1Cur_patterns.j0 k ([]:List (S26)) bt291.1 s0_0 bt291.2.1 bt291.2.2)) else(spec_l1Cur_patterns.j0 k ([]:List (S26)) (wrap64 (1+bt282.1)) s0_0 bt285.2.1 bt285.2.2)))
set_option maxHeartbeats 8000000 in
set_option maxRecDepth 100000 in
theorem spec_l1Cur_patterns.calls (k:Nat) (g:Nat) (s0_0:List Int) (s0_1:Int) (s0_2:Int) (r1:List (S26)) (r2:Int) (r3:Int) (w0 w:World) (hI:IsS45 w0 w g s0_0 s0_1 s0_2) (hB:Below w0.heap.size w0 w) (h:spec_l1Cur_patterns.f k s0_0 s0_1 s0_2=some (r1,r2,r3)) :
  Calls Try.prog 40 #[.pointer (some ⟨g,0,none⟩)] w fun e w'=>∃ v0_:Value,e = .returned (v0_)∧Kd.N k26 26 w' w.heap.size (fun k_=>(w.heap.size≤k_)) v0_ r1∧IsS45 w0 w' g s0_0 r2 r3∧Below w0.heap.size w0 w'∧KeepBut w w' g none:=by
 have hu26:=Try.underlying26
 have HI0:=am hI
 have HK:=am (KeepBut.refl w g none)
 have HL:=am hB.size
 clear hI
 have HW0:=am hB.size
 have HB:=am hB
 clear hB
 have H:((spec_l1Cur_pick.f s0_0 s0_1 s0_2 3).bind fun bt282=>((spec_l1Cur_one.f s0_0 bt282.2.1 bt282.2.2 16).bind fun bt285=>(if bt285.1=true then((spec_l1Cur_among.f s0_0 bt285.2.1 bt285.2.2 (([0,5,6]:List Int))).bind fun bt291=>(spec_l1Cur_patterns.j0 k ([]:List (S26)) bt291.1 s0_0 bt291.2.1 bt291.2.2)) else(spec_l1Cur_patterns.j0 k ([]:List (S26)) (wrap64 (1+bt282.1)) s0_0 bt285.2.1 bt285.2.2))))=some (r1,r2,r3):=h
 clear h
 replace H:=Option.bind_eq_some_iff.mp H
 obtain⟨⟨t282,t283,t284⟩,A20,H⟩:=H
 replace H:((spec_l1Cur_one.f s0_0 t283 t284 16).bind fun bt285=>(if bt285.1=true then((spec_l1Cur_among.f s0_0 bt285.2.1 bt285.2.2 (([0,5,6]:List Int))).bind fun bt291=>(spec_l1Cur_patterns.j0 k ([]:List (S26)) bt291.1 s0_0 bt291.2.1 bt291.2.2)) else(spec_l1Cur_patterns.j0 k ([]:List (S26)) (wrap64 (1+t282)) s0_0 bt285.2.1 bt285.2.2)))=some (r1,r2,r3):=H
 have A2:=am A20
 clear A20
 replace H:=Option.bind_eq_some_iff.mp H
 obtain⟨⟨t285,t286,t287⟩,A30,H⟩:=H
 replace H:(if t285=true then((spec_l1Cur_among.f s0_0 t286 t287 (([0,5,6]:List Int))).bind fun bt291=>(spec_l1Cur_patterns.j0 k ([]:List (S26)) bt291.1 s0_0 bt291.2.1 bt291.2.2)) else(spec_l1Cur_patterns.j0 k ([]:List (S26)) (wrap64 (1+t282)) s0_0 t286 t287))=some (r1,r2,r3):=H
 have A3:=am A30
 clear A30
 have HC4:=am H
 clear H
 go_enter Try.func40,Try.ntmps40
 go_upto_if 9 with(first|((with_reducible refine gate_callee (f:=36) rfl ?_);refine goesL_ (some 6) rfl rfl Try.func36 (by kernel_rfl) rfl #[.pointer (some ⟨g,0,none⟩),.int .i64 3] rfl tl ?_;(with_reducible refine(spec_l1Cur_pick.calls g s0_0 s0_1 s0_2 3 t282 t283 t284 w0 _ ?side1 ?side2 A2.out).mono ?_);(case side1=>repeat(first|(with_reducible first|exact HI0.out|apply IsS45.alloc|apply IsS45.drewN|apply IsS45.drew|apply IsS45.set_1|apply IsS45.set_2)|exact HI0.out));(case side2=>repeat(first|(with_reducible first|exact HB.out|apply below_alloc|apply pw_below_drewN|apply below_drew1|refine below_set ?_ (IsS45.ge HI0.out))|exact HB.out));rintro e w5 ⟨rfl,hi,hb,hk⟩;refine⟨_,rfl,?_⟩;have n0_:=am (KeepBut.trans (by repeat(first|(with_reducible first|exact HK.out|apply KeepBut.set_|apply keep_drewN|apply keep_drew|apply keep_alloc)|exact HK.out)) hk (.inl rfl));have n1_:=am (hb);have n2_:=am (hi);clear HK HB HI0;have HK:=n0_;have HB:=n1_;have HI0:=n2_;clear n0_ n1_ n2_;(try clear hb);(try clear hb2);(try clear hk);(try clear hi))|((with_reducible refine gate_callee (f:=35) rfl ?_);refine goesL_ (some 9) rfl rfl Try.func35 (by kernel_rfl) rfl #[.pointer (some ⟨g,0,none⟩),.int .i64 16] rfl tl ?_;(with_reducible refine(spec_l1Cur_one.calls g s0_0 t283 t284 16 t285 t286 t287 w0 _ ?side1 ?side2 A3.out).mono ?_);(case side1=>repeat(first|(with_reducible first|exact HI0.out|apply IsS45.alloc|apply IsS45.drewN|apply IsS45.drew|apply IsS45.set_1|apply IsS45.set_2)|exact HI0.out));(case side2=>repeat(first|(with_reducible first|exact HB.out|apply below_alloc|apply pw_below_drewN|apply below_drew1|refine below_set ?_ (IsS45.ge HI0.out))|exact HB.out));rintro e w6 ⟨rfl,hi,hb,hk⟩;refine⟨_,rfl,?_⟩;have n0_:=am (KeepBut.trans (by repeat(first|(with_reducible first|exact HK.out|apply KeepBut.set_|apply keep_drewN|apply keep_drew|apply keep_alloc)|exact HK.out)) hk (.inl rfl));have n1_:=am (hb);have n2_:=am (hi);clear HK HB HI0;have HK:=n0_;have HB:=n1_;have HI0:=n2_;clear n0_ n1_ n2_;(try clear hb);(try clear hb2);(try clear hk);(try clear hi)))
 (try simp only[Act.put,List.setIfInBounds_toArray,List.set_cons_zero,List.set_cons_succ])
 go_cut [4] (fun v4 wc=>∃(kq:Nat) (x4_3:Int) (x1001_3:Int) (x1002_3:Int),v4 = .int .i64 x4_3∧Aside0 (spec_l1Cur_patterns.j0 kq ([]:List (S26)) x4_3 s0_0 x1001_3 x1002_3=some (r1,r2,r3))∧Aside0 (kq≤k)∧Aside0 (Kd.N k26 26 wc w.heap.size (fun k_=>(w.heap.size≤k_)∧k_≠g) (.slice none 0 0) ([]:List (S26)))∧Aside0 (IsS45 w0 wc g s0_0 x1001_3 x1002_3)∧Aside0 (KeepBut w wc g none)∧Aside0 (Below w0.heap.size w0 wc))
 case first =>
  have H:=HC4.out
  clear HC4
  by_cases c7:t285=true
  ·subst c7
   have H1:((spec_l1Cur_among.f s0_0 t286 t287 (([0,5,6]:List Int))).bind fun bt291=>(spec_l1Cur_patterns.j0 k ([]:List (S26)) bt291.1 s0_0 bt291.2.1 bt291.2.2))=some (r1,r2,r3):=by rw[if_pos rfl] at H;exact H
   clear H
   have H:=H1
   clear H1
   obtain⟨y288,hy288⟩:∃ y_:List Int,y_=(([0,5,6]:List Int)):=⟨_,rfl⟩
   replace H:((spec_l1Cur_among.f s0_0 t286 t287 y288).bind fun bt291=>(spec_l1Cur_patterns.j0 k ([]:List (S26)) bt291.1 s0_0 bt291.2.1 bt291.2.2))=some (r1,r2,r3):=by first|(rw[hy288];with_reducible exact H)|(have H2_:=(Option.bind_some _ _).symm.trans H;rw[hy288];with_reducible exact H2_)|(have H2_:=(Option.bind_some _ _).symm.trans H;with_reducible exact H2_)|with_reducible exact H|(rw[hy288];exact H)|exact H
   have Ny288:=am hy288
   clear hy288
   replace H:=Option.bind_eq_some_iff.mp H
   obtain⟨⟨t291,t292,t293⟩,A80,H⟩:=H
   replace H:(spec_l1Cur_patterns.j0 k ([]:List (S26)) t291 s0_0 t292 t293)=some (r1,r2,r3):=H
   have A8:=am A80
   clear A80
   have H':=am H
   clear H
   go_wp2_with (first|((with_reducible refine gate_dst (N:=11) rfl ?_);refine Kd.R_lit (Kd.int .i64) _ 3 ?hg (N:=11) ?hd (xs:=([0,5,6]:List Int)) (inner:=[.int .i64 0,.int .i64 5,.int .i64 6]) (ok:=fun _=>True) (okp:=fun _=>True) ?hr ?hp (fun _ hk=>hk) trivial (Below.refl _ _) (Nat.le_refl _) (by simp) ?_;(case hd=>rfl);(case hg=>rfl);(case hr=>first|(go_simp;done)|(go_simp;rfl));(case hp=>exact(Reps.one (show Kd.M (Kd.int .i64) _ _ _ 0 [.int .i64 0] from rfl) (Reps.one (show Kd.M (Kd.int .i64) _ _ _ 5 [.int .i64 5] from rfl) (Reps.one (show Kd.M (Kd.int .i64) _ _ _ 6 [.int .i64 6] from rfl) (Reps.none _ _)))));intro v289 w9 ho10 hb hg_ hnew_;clear hg_ hnew_;(first|rw[← Ny288.out] at ho10|(simp only[Int.reduceToNat] at ho10;rw[← Ny288.out] at ho10));have n0_:=am (Kd.R_lower (Kd.R_newM (M:=fun k_=>(w.heap.size≤k_)) ho10 (keep_size (w:=w) (g:=g) (row:=none) (by repeat(first|(with_reducible first|exact HK.out|apply KeepBut.set_|apply keep_drewN|apply keep_drew|apply keep_alloc)|exact HK.out))) (fun k_ h_=>h_)) (keep_size (w:=w) (g:=g) (row:=none) (by repeat(first|(with_reducible first|exact HK.out|apply KeepBut.set_|apply keep_drewN|apply keep_drew|apply keep_alloc)|exact HK.out))));have n1_:=am (IsS45.below (by repeat(first|(with_reducible first|exact HI0.out|apply IsS45.alloc|apply IsS45.drewN|apply IsS45.drew|apply IsS45.set_1|apply IsS45.set_2)|exact HI0.out)) hb);have n2_:=am (KeepBut.trans (by repeat(first|(with_reducible first|exact HK.out|apply KeepBut.set_|apply keep_drewN|apply keep_drew|apply keep_alloc)|exact HK.out)) (KeepBut.of_below hb g none) (.inl rfl));have n3_:=am (below_step (by repeat(first|(with_reducible first|exact HB.out|apply below_alloc|apply pw_below_drewN|apply below_drew1|refine below_set ?_ (IsS45.ge HI0.out))|exact HB.out)) hb);clear HI0 HK HB;have HO290:=n0_;have HI0:=n1_;have HK:=n2_;have HB:=n3_;clear n0_ n1_ n2_ n3_ hb ho10;obtain⟨Ao11,co11,eo11⟩:=Kd.R_slice HO290.out;subst eo11)|((with_reducible refine gate_callee (f:=21) rfl ?_);refine goesL_ (some 12) rfl rfl Try.func21 (by kernel_rfl) rfl #[.pointer (some ⟨g,0,none⟩),.slice Ao11 y288.length co11] rfl tl ?_;(with_reducible refine(spec_l1Cur_among.calls g s0_0 t286 t287 _ _ y288 t291 t292 t293 w0 _ ?side1 ?side2 ?side3 ?side4 ?side5 A8.out).mono ?_);(case side1=>repeat(first|(with_reducible first|exact HI0.out|apply IsS45.alloc|apply IsS45.drewN|apply IsS45.drew|apply IsS45.set_1|apply IsS45.set_2)|exact HI0.out));(case side2=>repeat(first|(with_reducible first|exact HB.out|apply below_alloc|apply pw_below_drewN|apply below_drew1|refine below_set ?_ (IsS45.ge HI0.out))|exact HB.out));(case side3=>repeat(first|exact(Kd.R_reads' HO290.out).2.2|(with_reducible refine Kd.C_alloc ?_ _)|(with_reducible refine Kd.C_drewN ?_ _)|(with_reducible refine Kd.C_drew ?_)));(case side4=>exact(Kd.R_reads' HO290.out).2.1);(case side5=>exact far_slice (IsS45.own_ne HI0.out HO290.out (by decide)));rintro e w12 ⟨rfl,hi,hb,hk⟩;refine⟨_,rfl,?_⟩;have n0_:=am (Kd.R_mono (Kd.R_keep (IsS45.apart (show IsS45 w0 _ g s0_0 t286 t287 from by repeat(first|(with_reducible first|exact HI0.out|apply IsS45.alloc|apply IsS45.drewN|apply IsS45.drew|apply IsS45.set_1|apply IsS45.set_2)|exact HI0.out)) (rup HO290.out) (by decide)) hk (fun _ h=>h.2)) (fun _ h=>h.1));have n1_:=am (KeepBut.trans (by repeat(first|(with_reducible first|exact HK.out|apply KeepBut.set_|apply keep_drewN|apply keep_drew|apply keep_alloc)|exact HK.out)) hk (.inl rfl));have n2_:=am (hb);have n3_:=am (hi);clear HO290 HK HB HI0;have HO290:=n0_;have HK:=n1_;have HB:=n2_;have HI0:=n3_;clear n0_ n1_ n2_ n3_;(try clear hb);(try clear hb2);(try clear hk);(try clear hi)))
   go_meet
   case rel=>exact⟨_,(t291),(t292),(t293),fin2,H',⟨by first|omega|exact Nat.le_refl _⟩,⟨by first|exact Kd.S_nil _ _ _ _ _|exact Kd.N_nil _ _ _ _ _|exact Kd.V_nil _ _ _ _ _|exact Kd.Q_nil _ _ _ _ _|exact Kd.R_nil _ _ _ _ _⟩,⟨by repeat(first|(with_reducible first|exact HI0.out|apply IsS45.alloc|apply IsS45.drewN|apply IsS45.drew|apply IsS45.set_1|apply IsS45.set_2)|exact HI0.out)⟩,⟨by repeat(first|(with_reducible first|exact HK.out|apply KeepBut.set_|apply keep_drewN|apply keep_drew|apply keep_alloc)|exact HK.out)⟩,⟨by repeat(first|(with_reducible first|exact HB.out|apply below_alloc|apply pw_below_drewN|apply below_drew1|refine below_set ?_ (IsS45.ge HI0.out))|exact HB.out)⟩⟩
  ·replace c7:=Bool.eq_false_iff.mpr c7
   subst c7
   have H1:(spec_l1Cur_patterns.j0 k ([]:List (S26)) (wrap64 (1+t282)) s0_0 t286 t287)=some (r1,r2,r3):=by rw[if_neg (show ¬ (false=true) by decide)] at H;exact H
   clear H
   have H:=H1
   clear H1
   have H':=am H
   clear H
   go_wp2
   go_meet
   case rel=>exact⟨_,(wrap64 (1+t282)),(t286),(t287),fin2,H',⟨by first|omega|exact Nat.le_refl _⟩,⟨by first|exact Kd.S_nil _ _ _ _ _|exact Kd.N_nil _ _ _ _ _|exact Kd.V_nil _ _ _ _ _|exact Kd.Q_nil _ _ _ _ _|exact Kd.R_nil _ _ _ _ _⟩,⟨by repeat(first|(with_reducible first|exact HI0.out|apply IsS45.alloc|apply IsS45.drewN|apply IsS45.drew|apply IsS45.set_1|apply IsS45.set_2)|exact HI0.out)⟩,⟨by repeat(first|(with_reducible first|exact HK.out|apply KeepBut.set_|apply keep_drewN|apply keep_drew|apply keep_alloc)|exact HK.out)⟩,⟨by repeat(first|(with_reducible first|exact HB.out|apply below_alloc|apply pw_below_drewN|apply below_drew1|refine below_set ?_ (IsS45.ge HI0.out))|exact HB.out)⟩⟩
 case rest =>
  clear HC4
  try clear c2
  try clear p2
  try clear c3
  try clear c4
  try clear p6
  try clear c7
  obtain⟨kq,x4_3,x1001_3,x1002_3,rfl,HA,HJ3,HO_3,HI0,HK,HB⟩:=hcut
  cases kq with
  | zero=>exact absurd HA.out (by simp [spec_l1Cur_patterns.j0])
  | succ kj3 =>
   have H:=HA.out
   clear HA
   simp only[spec_l1Cur_patterns.j0] at H
   have H':=am H
   clear H
   go_wp2
   go_loopg [3] kj3 (fun kq v3 w'=>∃(x3_2:List (S26)) (x1001_2:Int) (x1002_2:Int),Aside0 (spec_l1Cur_patterns.l0 kq x3_2 x4_3 s0_0 x1001_2 x1002_2=some (r1,r2,r3))∧Aside0 (kq≤kj3)∧Aside0 (Kd.N k26 26 w' w.heap.size (fun k_=>(w.heap.size≤k_)∧k_≠g) v3 x3_2)∧Aside0 (IsS45 w0 w' g s0_0 x1001_2 x1002_2)∧Aside0 (KeepBut w w' g none)∧Aside0 (Below w0.heap.size w0 w'))
   case atStart=>exact⟨(([]:List (S26))),(x1001_3),(x1002_3),H',⟨Nat.le_refl _⟩,⟨by(with_reducible repeat(first|apply Kd.N_alloc|apply Kd.N_drewN|apply Kd.N_drew));exact HO_3.out⟩,⟨by repeat(first|(with_reducible first|exact HI0.out|apply IsS45.alloc|apply IsS45.drewN|apply IsS45.drew|apply IsS45.set_1|apply IsS45.set_2)|exact HI0.out)⟩,⟨by repeat(first|(with_reducible first|exact HK.out|apply KeepBut.set_|apply keep_drewN|apply keep_drew|apply keep_alloc)|exact HK.out)⟩,⟨by repeat(first|(with_reducible first|exact HB.out|apply below_alloc|apply pw_below_drewN|apply below_drew1|refine below_set ?_ (IsS45.ge HI0.out))|exact HB.out)⟩⟩
   case round =>
    clear H'
    try clear c2
    try clear p2
    try clear c3
    try clear c4
    try clear p6
    try clear c7
    try clear p2
    try clear p6
    obtain⟨x3_2,x1001_2,x1002_2,HA,HK2,HO_3,HI0,HK,HB⟩:=hrel
    cases gk with
    | zero=>exact absurd HA.out (by simp [spec_l1Cur_patterns.l0])
    | succ k2 =>
     have H:=HA.out
     clear HA
     simp only[spec_l1Cur_patterns.l0] at H
     by_cases c13:(x3_2.length:Int)<x4_3
     ·rw[if_pos c13] at H
      have c13b0:decide ((x3_2.length:Int)<x4_3)=true:=decide_eq_true c13
      clear c13
      replace H:=Option.bind_eq_some_iff.mp H
      obtain⟨⟨t294,t295,t298,t299⟩,A140,H⟩:=H
      replace H:(if x3_2.length<4398046511104 then(spec_l1Cur_patterns.l0 k2 (x3_2 ++ [(⟨t294,t295⟩:S26)]) x4_3 s0_0 t298 t299) else(none))=some (r1,r2,r3):=H
      have A14:=am A140
      clear A140
      by_cases c15:x3_2.length<4398046511104
      ·rw[if_pos c15] at H
       have LMc15:=am c15
       clear c15
       obtain⟨y300,hy300⟩:∃ y_:List (S26),y_=(x3_2 ++ [(⟨t294,t295⟩:S26)]):=⟨_,rfl⟩
       replace H:(spec_l1Cur_patterns.l0 k2 y300 x4_3 s0_0 t298 t299)=some (r1,r2,r3):=by first|(rw[hy300];with_reducible exact H)|(have H2_:=(Option.bind_some _ _).symm.trans H;rw[hy300];with_reducible exact H2_)|(have H2_:=(Option.bind_some _ _).symm.trans H;with_reducible exact H2_)|with_reducible exact H|(rw[hy300];exact H)|exact H
       have Ny300:=am hy300
       clear hy300
       have H':=am H
       clear H
       obtain⟨Ao16,co16,eo16⟩:=Kd.N_slice HO_3.out
       subst eo16
       go_wp2_with (first|((with_reducible refine gate_callee (f:=20) rfl ?_);refine goesL_ (some 19) rfl rfl Try.func20 (by kernel_rfl) rfl #[.pointer (some ⟨g,0,none⟩)] rfl tl ?_;(with_reducible refine(spec_l1Cur_pattern.calls k2 g s0_0 x1001_2 x1002_2 t294 t295 t298 t299 w0 _ ?side1 ?side2 A14.out).mono ?_);(case side1=>repeat(first|(with_reducible first|exact HI0.out|apply IsS45.alloc|apply IsS45.drewN|apply IsS45.drew|apply IsS45.set_1|apply IsS45.set_2)|exact HI0.out));(case side2=>repeat(first|(with_reducible first|exact HB.out|apply below_alloc|apply pw_below_drewN|apply below_drew1|refine below_set ?_ (IsS45.ge HI0.out))|exact HB.out));rintro e w17 ⟨v296,rfl,ho0,hi,hb,hk⟩;refine⟨_,rfl,?_⟩;have n0_:=am (Kd.N_mono (Kd.N_told (Kd.N_oldK (Kd.N_mono (ok:=fun k_=>(((w.heap.size≤k_))∧k_≠g)) (by(with_reducible repeat(first|apply Kd.N_alloc|apply Kd.N_drewN|apply Kd.N_drew));exact HO_3.out) (fun k_ hk_=>(⟨hk_,hk_.2⟩:_∧k_≠g))) hk) (Kd.R_base ho0)) (fun _ h_=>h_.1));have n1_:=am (Kd.R_lower (Kd.R_newM (M:=fun k_=>(w.heap.size≤k_)) ho0 (keep_size (w:=w) (g:=g) (row:=none) (by repeat(first|(with_reducible first|exact HK.out|apply KeepBut.set_|apply keep_drewN|apply keep_drew|apply keep_alloc)|exact HK.out))) (fun k_ h_=>h_)) (keep_size (w:=w) (g:=g) (row:=none) (by repeat(first|(with_reducible first|exact HK.out|apply KeepBut.set_|apply keep_drewN|apply keep_drew|apply keep_alloc)|exact HK.out))));have n2_:=am (KeepBut.trans (by repeat(first|(with_reducible first|exact HK.out|apply KeepBut.set_|apply keep_drewN|apply keep_drew|apply keep_alloc)|exact HK.out)) hk (.inl rfl));have n3_:=am (hb);have n4_:=am (hi);clear HO_3 HK HB HI0;have HO_3:=n0_;have HO297:=n1_;have HK:=n2_;have HB:=n3_;have HI0:=n4_;clear n0_ n1_ n2_ n3_ n4_;(try clear hb);(try clear hb2);(try clear hk);(try clear hi);(try clear ho0);obtain⟨Ao19,co19,eo19⟩:=Kd.R_slice HO297.out;subst eo19)|((with_reducible refine gate_builtin (b := .append) (xs := #[.tmp 17,.tmp 20]) rfl ?_);at_builtin;refine Kd.N_append k26 w.heap.size rfl (.tmp 17) (.tmp 20) 35 26 (.agg #[(.int .i64 0),(.slice none 0 0)]) 32 rfl Try.underlying35 info26 rfl (by decide) (by omega) (.slice Ao16 x3_2.length co16) x3_2 (⟨t294,t295⟩:S26) [.int .i64 t294,.slice Ao19 t295.length co19] (fun k_=>(w.heap.size≤k_)∧k_≠g) (fun k_=>((fun k_=>(w.heap.size≤k_)∧k_≠g)) k_∧some k_≠(.slice Ao16 x3_2.length co16:Value).ownBlock) rfl rfl ?aP (fun _ hk=>hk) ?aF ?aO (Below.refl _ _) ?aS ?aL ?_;(case aP=>exact(k26_mkF _ _ (⟨t294,t295⟩:S26) (Kd.R_reads' (Kd.R_mono (ok':=(fun k_=>((fun k_=>(w.heap.size≤k_)∧k_≠g)) k_∧some k_≠(.slice Ao16 x3_2.length co16:Value).ownBlock)) (IsS45.apart HI0.out (Kd.R_apart' (HO297.out) (Kd.N_typed HO_3.out) (by decide)) (by decide)) (fun k_ hk=>⟨⟨hk.1.1.1,hk.2⟩,hk.1.2⟩))).2.1 (Kd.R_F (Kd.R_mono (ok':=(fun k_=>((fun k_=>(w.heap.size≤k_)∧k_≠g)) k_∧some k_≠(.slice Ao16 x3_2.length co16:Value).ownBlock)) (IsS45.apart HI0.out (Kd.R_apart' (HO297.out) (Kd.N_typed HO_3.out) (by decide)) (by decide)) (fun k_ hk=>⟨⟨hk.1.1.1,hk.2⟩,hk.1.2⟩)))));(case aF=>exact(fun k_ hk=>⟨(Nat.le_trans (keep_size (w:=w) (g:=g) (row:=none) (by repeat(first|(with_reducible first|exact HK.out|apply KeepBut.set_|apply keep_drewN|apply keep_drew|apply keep_alloc)|exact HK.out))) hk),IsS45.fresh (by repeat(first|(with_reducible first|exact HI0.out|apply IsS45.alloc|apply IsS45.drewN|apply IsS45.drew|apply IsS45.set_1|apply IsS45.set_2)|exact HI0.out)) k_ hk⟩));(case aO=>exact(by(with_reducible repeat(first|apply Kd.N_alloc|apply Kd.N_drewN|apply Kd.N_drew));exact Kd.N_mono HO_3.out (fun _ hk=>⟨hk.1.1,hk.1.2⟩)));(case aS=>exact(keep_size (w:=w) (g:=g) (row:=none) (by repeat(first|(with_reducible first|exact HK.out|apply KeepBut.set_|apply keep_drewN|apply keep_drew|apply keep_alloc)|exact HK.out))));(case aL=>have:=LMc15.out;omega);intro v301 w18 ho hb hg hat;rw[← Ny300.out] at ho;have n0_:=am (IsS45.grown (by repeat(first|(with_reducible first|exact HI0.out|apply IsS45.alloc|apply IsS45.drewN|apply IsS45.drew|apply IsS45.set_1|apply IsS45.set_2)|exact HI0.out)) hg (IsS45.own_neN HI0.out HO_3.out (by decide)));have n1_:=am (below_weaken (by repeat(first|(with_reducible first|exact HB.out|apply below_alloc|apply pw_below_drewN|apply below_drew1|refine below_set ?_ (IsS45.ge HI0.out))|exact HB.out)) HL.out hb);have n2_:=am (KeepBut.trans (by repeat(first|(with_reducible first|exact HK.out|apply KeepBut.set_|apply keep_drewN|apply keep_drew|apply keep_alloc)|exact HK.out)) (KeepBut.of_grown hg g) (Kd.N_base2 HO_3.out));have n3_:=am (ho);clear HI0 HB HK HO_3 HO297;have HI0:=n0_;have HB:=n1_;have HK:=n2_;have HO302:=n3_;clear n0_ n1_ n2_ n3_ ho hb hg hat))
       go_roundg k2
       case measure=>have:=HJ3.out;have:=HK2.out;omega
       case rel=>exact⟨(y300),(t298),(t299),H',⟨by have:=HJ3.out;have:=HK2.out;omega⟩,⟨by(with_reducible repeat(first|apply Kd.N_alloc|apply Kd.N_drewN|apply Kd.N_drew));exact HO302.out⟩,⟨by repeat(first|(with_reducible first|exact HI0.out|apply IsS45.alloc|apply IsS45.drewN|apply IsS45.drew|apply IsS45.set_1|apply IsS45.set_2)|exact HI0.out)⟩,⟨by repeat(first|(with_reducible first|exact HK.out|apply KeepBut.set_|apply keep_drewN|apply keep_drew|apply keep_alloc)|exact HK.out)⟩,⟨by repeat(first|(with_reducible first|exact HB.out|apply below_alloc|apply pw_below_drewN|apply below_drew1|refine below_set ?_ (IsS45.ge HI0.out))|exact HB.out)⟩⟩
      ·rw[if_neg c15] at H
       exact absurd H (by simp)
     ·rw[if_neg c13] at H
      have c13b0:decide ((x3_2.length:Int)<x4_3)=false:=decide_eq_false c13
      clear c13
      replace H:=Option.bind_eq_some_iff.mp H
      obtain⟨⟨t303,t304,t305⟩,A200,H⟩:=H
      replace H:(if t303=0 then(some ((([(⟨16,(([1,4]:List Int))⟩:S26),(⟨9,(([2]:List Int))⟩:S26),(⟨5,(([0]:List Int))⟩:S26),(⟨7,(([3]:List Int))⟩:S26)]:List (S26))),t304,t305)) else(if t303=1 then(some ((([(⟨20,(([1]:List Int))⟩:S26),(⟨11,(([2]:List Int))⟩:S26),(⟨23,(([0]:List Int))⟩:S26)]:List (S26))),t304,t305)) else(some (x3_2,t304,t305))))=some (r1,r2,r3):=H
      have A20:=am A200
      clear A200
      by_cases c21:t303=0
      ·rw[if_pos c21] at H
       have c21b0:(t303 == 0)=true:=beq_iff_eq.mpr c21
       have c21b1:(t303 != 0)=false:=bne_eq_false_iff_eq.mpr c21
       clear c21
       obtain⟨y306,hy306⟩:∃ y_:List Int,y_=(([1,4]:List Int)):=⟨_,rfl⟩
       replace H:(some ((([(⟨16,y306⟩:S26),(⟨9,(([2]:List Int))⟩:S26),(⟨5,(([0]:List Int))⟩:S26),(⟨7,(([3]:List Int))⟩:S26)]:List (S26))),t304,t305))=some (r1,r2,r3):=by first|(rw[hy306];with_reducible exact H)|(have H2_:=(Option.bind_some _ _).symm.trans H;rw[hy306];with_reducible exact H2_)|(have H2_:=(Option.bind_some _ _).symm.trans H;with_reducible exact H2_)|with_reducible exact H|(rw[hy306];exact H)|exact H
       have Ny306:=am hy306
       clear hy306
       obtain⟨y309,hy309⟩:∃ y_:List Int,y_=(([2]:List Int)):=⟨_,rfl⟩
       replace H:(some ((([(⟨16,y306⟩:S26),(⟨9,y309⟩:S26),(⟨5,(([0]:List Int))⟩:S26),(⟨7,(([3]:List Int))⟩:S26)]:List (S26))),t304,t305))=some (r1,r2,r3):=by first|(rw[hy309];with_reducible exact H)|(have H2_:=(Option.bind_some _ _).symm.trans H;rw[hy309];with_reducible exact H2_)|(have H2_:=(Option.bind_some _ _).symm.trans H;with_reducible exact H2_)|with_reducible exact H|(rw[hy309];exact H)|exact H
       have Ny309:=am hy309
       clear hy309
       obtain⟨y312,hy312⟩:∃ y_:List Int,y_=(([0]:List Int)):=⟨_,rfl⟩
       replace H:(some ((([(⟨16,y306⟩:S26),(⟨9,y309⟩:S26),(⟨5,y312⟩:S26),(⟨7,(([3]:List Int))⟩:S26)]:List (S26))),t304,t305))=some (r1,r2,r3):=by first|(rw[hy312];with_reducible exact H)|(have H2_:=(Option.bind_some _ _).symm.trans H;rw[hy312];with_reducible exact H2_)|(have H2_:=(Option.bind_some _ _).symm.trans H;with_reducible exact H2_)|with_reducible exact H|(rw[hy312];exact H)|exact H
       have Ny312:=am hy312
       clear hy312
       obtain⟨y315,hy315⟩:∃ y_:List Int,y_=(([3]:List Int)):=⟨_,rfl⟩
       replace H:(some ((([(⟨16,y306⟩:S26),(⟨9,y309⟩:S26),(⟨5,y312⟩:S26),(⟨7,y315⟩:S26)]:List (S26))),t304,t305))=some (r1,r2,r3):=by first|(rw[hy315];with_reducible exact H)|(have H2_:=(Option.bind_some _ _).symm.trans H;rw[hy315];with_reducible exact H2_)|(have H2_:=(Option.bind_some _ _).symm.trans H;with_reducible exact H2_)|with_reducible exact H|(rw[hy315];exact H)|exact H
       have Ny315:=am hy315
       clear hy315
       obtain⟨y318,hy318⟩:∃ y_:List (S26),y_=(([(⟨16,y306⟩:S26),(⟨9,y309⟩:S26),(⟨5,y312⟩:S26),(⟨7,y315⟩:S26)]:List (S26))):=⟨_,rfl⟩
       replace H:(some (y318,t304,t305))=some (r1,r2,r3):=by first|(rw[hy318];with_reducible exact H)|(have H2_:=(Option.bind_some _ _).symm.trans H;rw[hy318];with_reducible exact H2_)|(have H2_:=(Option.bind_some _ _).symm.trans H;with_reducible exact H2_)|with_reducible exact H|(rw[hy318];exact H)|exact H
       have Ny318:=am hy318
       clear hy318
       simp only[Option.some.injEq,Prod.mk.injEq] at H
       obtain⟨rfl,rfl,rfl⟩:=H
       obtain⟨Ao22,co22,eo22⟩:=Kd.N_slice HO_3.out
       subst eo22
       go_wp2_with (first|((with_reducible refine gate_callee (f:=36) rfl ?_);refine goesL_ (some 23) rfl rfl Try.func36 (by kernel_rfl) rfl #[.pointer (some ⟨g,0,none⟩),.int .i64 24] rfl tl ?_;(with_reducible refine(spec_l1Cur_pick.calls g s0_0 x1001_2 x1002_2 24 t303 t304 t305 w0 _ ?side1 ?side2 A20.out).mono ?_);(case side1=>repeat(first|(with_reducible first|exact HI0.out|apply IsS45.alloc|apply IsS45.drewN|apply IsS45.drew|apply IsS45.set_1|apply IsS45.set_2)|exact HI0.out));(case side2=>repeat(first|(with_reducible first|exact HB.out|apply below_alloc|apply pw_below_drewN|apply below_drew1|refine below_set ?_ (IsS45.ge HI0.out))|exact HB.out));rintro e w23 ⟨rfl,hi,hb,hk⟩;refine⟨_,rfl,?_⟩;have n0_:=am (Kd.N_mono (Kd.N_keep (Kd.N_mono (ok:=fun k_=>(((w.heap.size≤k_))∧k_≠g)) (by(with_reducible repeat(first|apply Kd.N_alloc|apply Kd.N_drewN|apply Kd.N_drew));exact HO_3.out) (fun k_ hk_=>(⟨hk_,hk_.2⟩:_∧k_≠g))) hk (fun _ h=>h.2)) (fun _ h=>h.1));have n1_:=am (KeepBut.trans (by repeat(first|(with_reducible first|exact HK.out|apply KeepBut.set_|apply keep_drewN|apply keep_drew|apply keep_alloc)|exact HK.out)) hk (.inl rfl));have n2_:=am (hb);have n3_:=am (hi);clear HO_3 HK HB HI0;have HO_3:=n0_;have HK:=n1_;have HB:=n2_;have HI0:=n3_;clear n0_ n1_ n2_ n3_;(try clear hb);(try clear hb2);(try clear hk);(try clear hi))|((with_reducible refine gate_dst (N:=26) rfl ?_);refine Kd.R_lit (Kd.int .i64) _ 3 ?hg (N:=26) ?hd (xs:=([1,4]:List Int)) (inner:=[.int .i64 1,.int .i64 4]) (ok:=fun _=>True) (okp:=fun _=>True) ?hr ?hp (fun _ hk=>hk) trivial (Below.refl _ _) (Nat.le_refl _) (by simp) ?_;(case hd=>rfl);(case hg=>rfl);(case hr=>first|(go_simp;done)|(go_simp;rfl));(case hp=>exact(Reps.one (show Kd.M (Kd.int .i64) _ _ _ 1 [.int .i64 1] from rfl) (Reps.one (show Kd.M (Kd.int .i64) _ _ _ 4 [.int .i64 4] from rfl) (Reps.none _ _))));intro v307 w24 ho25 hb hg_ hnew_;clear hg_ hnew_;(first|rw[← Ny306.out] at ho25|(simp only[Int.reduceToNat] at ho25;rw[← Ny306.out] at ho25));have n0_:=am (Kd.N_elder' (by(with_reducible repeat(first|apply Kd.N_alloc|apply Kd.N_drewN|apply Kd.N_drew));exact HO_3.out) (Kd.R_base ho25) hb);have n1_:=am (Kd.R_lower (Kd.R_newM (M:=fun k_=>(w.heap.size≤k_)) ho25 (keep_size (w:=w) (g:=g) (row:=none) (by repeat(first|(with_reducible first|exact HK.out|apply KeepBut.set_|apply keep_drewN|apply keep_drew|apply keep_alloc)|exact HK.out))) (fun k_ h_=>h_)) (keep_size (w:=w) (g:=g) (row:=none) (by repeat(first|(with_reducible first|exact HK.out|apply KeepBut.set_|apply keep_drewN|apply keep_drew|apply keep_alloc)|exact HK.out))));have n2_:=am (IsS45.below (by repeat(first|(with_reducible first|exact HI0.out|apply IsS45.alloc|apply IsS45.drewN|apply IsS45.drew|apply IsS45.set_1|apply IsS45.set_2)|exact HI0.out)) hb);have n3_:=am (KeepBut.trans (by repeat(first|(with_reducible first|exact HK.out|apply KeepBut.set_|apply keep_drewN|apply keep_drew|apply keep_alloc)|exact HK.out)) (KeepBut.of_below hb g none) (.inl rfl));have n4_:=am (below_step (by repeat(first|(with_reducible first|exact HB.out|apply below_alloc|apply pw_below_drewN|apply below_drew1|refine below_set ?_ (IsS45.ge HI0.out))|exact HB.out)) hb);clear HO_3 HI0 HK HB;have HO_3:=n0_;have HO308:=n1_;have HI0:=n2_;have HK:=n3_;have HB:=n4_;clear n0_ n1_ n2_ n3_ n4_ hb ho25;obtain⟨Ao26,co26,eo26⟩:=Kd.R_slice HO308.out;subst eo26)|((with_reducible refine gate_dst (N:=28) rfl ?_);refine Kd.R_lit (Kd.int .i64) _ 3 ?hg (N:=28) ?hd (xs:=([2]:List Int)) (inner:=[.int .i64 2]) (ok:=fun _=>True) (okp:=fun _=>True) ?hr ?hp (fun _ hk=>hk) trivial (Below.refl _ _) (Nat.le_refl _) (by simp) ?_;(case hd=>rfl);(case hg=>rfl);(case hr=>first|(go_simp;done)|(go_simp;rfl));(case hp=>exact(Reps.one (show Kd.M (Kd.int .i64) _ _ _ 2 [.int .i64 2] from rfl) (Reps.none _ _)));intro v310 w27 ho28 hb hg_ hnew_;clear hg_ hnew_;(first|rw[← Ny309.out] at ho28|(simp only[Int.reduceToNat] at ho28;rw[← Ny309.out] at ho28));have n0_:=am (Kd.N_elder' (by(with_reducible repeat(first|apply Kd.N_alloc|apply Kd.N_drewN|apply Kd.N_drew));exact HO_3.out) (Kd.R_base ho28) hb);have n1_:=am (Kd.R_elder' (rup HO308.out) (Kd.R_base ho28) hb);have n2_:=am (Kd.R_lower (Kd.R_new' (Kd.R_newM (M:=fun k_=>(w.heap.size≤k_)) ho28 (keep_size (w:=w) (g:=g) (row:=none) (by repeat(first|(with_reducible first|exact HK.out|apply KeepBut.set_|apply keep_drewN|apply keep_drew|apply keep_alloc)|exact HK.out))) (fun k_ h_=>h_)) (Kd.R_lt (rup HO308.out))) (keep_size (w:=w) (g:=g) (row:=none) (by repeat(first|(with_reducible first|exact HK.out|apply KeepBut.set_|apply keep_drewN|apply keep_drew|apply keep_alloc)|exact HK.out))));have n3_:=am (IsS45.below (by repeat(first|(with_reducible first|exact HI0.out|apply IsS45.alloc|apply IsS45.drewN|apply IsS45.drew|apply IsS45.set_1|apply IsS45.set_2)|exact HI0.out)) hb);have n4_:=am (KeepBut.trans (by repeat(first|(with_reducible first|exact HK.out|apply KeepBut.set_|apply keep_drewN|apply keep_drew|apply keep_alloc)|exact HK.out)) (KeepBut.of_below hb g none) (.inl rfl));have n5_:=am (below_step (by repeat(first|(with_reducible first|exact HB.out|apply below_alloc|apply pw_below_drewN|apply below_drew1|refine below_set ?_ (IsS45.ge HI0.out))|exact HB.out)) hb);clear HO_3 HO308 HI0 HK HB;have HO_3:=n0_;have HO308:=n1_;have HO311:=n2_;have HI0:=n3_;have HK:=n4_;have HB:=n5_;clear n0_ n1_ n2_ n3_ n4_ n5_ hb ho28;obtain⟨Ao29,co29,eo29⟩:=Kd.R_slice HO311.out;subst eo29)|((with_reducible refine gate_dst (N:=30) rfl ?_);refine Kd.R_lit (Kd.int .i64) _ 3 ?hg (N:=30) ?hd (xs:=([0]:List Int)) (inner:=[.int .i64 0]) (ok:=fun _=>True) (okp:=fun _=>True) ?hr ?hp (fun _ hk=>hk) trivial (Below.refl _ _) (Nat.le_refl _) (by simp) ?_;(case hd=>rfl);(case hg=>rfl);(case hr=>first|(go_simp;done)|(go_simp;rfl));(case hp=>exact(Reps.one (show Kd.M (Kd.int .i64) _ _ _ 0 [.int .i64 0] from rfl) (Reps.none _ _)));intro v313 w30 ho31 hb hg_ hnew_;clear hg_ hnew_;(first|rw[← Ny312.out] at ho31|(simp only[Int.reduceToNat] at ho31;rw[← Ny312.out] at ho31));have n0_:=am (Kd.N_elder' (by(with_reducible repeat(first|apply Kd.N_alloc|apply Kd.N_drewN|apply Kd.N_drew));exact HO_3.out) (Kd.R_base ho31) hb);have n1_:=am (Kd.R_elder' (rup HO308.out) (Kd.R_base ho31) hb);have n2_:=am (Kd.R_elder' (rup HO311.out) (Kd.R_base ho31) hb);have n3_:=am (Kd.R_lower (Kd.R_new' (Kd.R_new' (Kd.R_newM (M:=fun k_=>(w.heap.size≤k_)) ho31 (keep_size (w:=w) (g:=g) (row:=none) (by repeat(first|(with_reducible first|exact HK.out|apply KeepBut.set_|apply keep_drewN|apply keep_drew|apply keep_alloc)|exact HK.out))) (fun k_ h_=>h_)) (Kd.R_lt (rup HO308.out))) (Kd.R_lt (rup HO311.out))) (keep_size (w:=w) (g:=g) (row:=none) (by repeat(first|(with_reducible first|exact HK.out|apply KeepBut.set_|apply keep_drewN|apply keep_drew|apply keep_alloc)|exact HK.out))));have n4_:=am (IsS45.below (by repeat(first|(with_reducible first|exact HI0.out|apply IsS45.alloc|apply IsS45.drewN|apply IsS45.drew|apply IsS45.set_1|apply IsS45.set_2)|exact HI0.out)) hb);have n5_:=am (KeepBut.trans (by repeat(first|(with_reducible first|exact HK.out|apply KeepBut.set_|apply keep_drewN|apply keep_drew|apply keep_alloc)|exact HK.out)) (KeepBut.of_below hb g none) (.inl rfl));have n6_:=am (below_step (by repeat(first|(with_reducible first|exact HB.out|apply below_alloc|apply pw_below_drewN|apply below_drew1|refine below_set ?_ (IsS45.ge HI0.out))|exact HB.out)) hb);clear HO_3 HO308 HO311 HI0 HK HB;have HO_3:=n0_;have HO308:=n1_;have HO311:=n2_;have HO314:=n3_;have HI0:=n4_;have HK:=n5_;have HB:=n6_;clear n0_ n1_ n2_ n3_ n4_ n5_ n6_ hb ho31;obtain⟨Ao32,co32,eo32⟩:=Kd.R_slice HO314.out;subst eo32)|((with_reducible refine gate_dst (N:=32) rfl ?_);refine Kd.R_lit (Kd.int .i64) _ 3 ?hg (N:=32) ?hd (xs:=([3]:List Int)) (inner:=[.int .i64 3]) (ok:=fun _=>True) (okp:=fun _=>True) ?hr ?hp (fun _ hk=>hk) trivial (Below.refl _ _) (Nat.le_refl _) (by simp) ?_;(case hd=>rfl);(case hg=>rfl);(case hr=>first|(go_simp;done)|(go_simp;rfl));(case hp=>exact(Reps.one (show Kd.M (Kd.int .i64) _ _ _ 3 [.int .i64 3] from rfl) (Reps.none _ _)));intro v316 w33 ho34 hb hg_ hnew_;clear hg_ hnew_;(first|rw[← Ny315.out] at ho34|(simp only[Int.reduceToNat] at ho34;rw[← Ny315.out] at ho34));have n0_:=am (Kd.N_elder' (by(with_reducible repeat(first|apply Kd.N_alloc|apply Kd.N_drewN|apply Kd.N_drew));exact HO_3.out) (Kd.R_base ho34) hb);have n1_:=am (Kd.R_elder' (rup HO308.out) (Kd.R_base ho34) hb);have n2_:=am (Kd.R_elder' (rup HO311.out) (Kd.R_base ho34) hb);have n3_:=am (Kd.R_elder' (rup HO314.out) (Kd.R_base ho34) hb);have n4_:=am (Kd.R_lower (Kd.R_new' (Kd.R_new' (Kd.R_new' (Kd.R_newM (M:=fun k_=>(w.heap.size≤k_)) ho34 (keep_size (w:=w) (g:=g) (row:=none) (by repeat(first|(with_reducible first|exact HK.out|apply KeepBut.set_|apply keep_drewN|apply keep_drew|apply keep_alloc)|exact HK.out))) (fun k_ h_=>h_)) (Kd.R_lt (rup HO308.out))) (Kd.R_lt (rup HO311.out))) (Kd.R_lt (rup HO314.out))) (keep_size (w:=w) (g:=g) (row:=none) (by repeat(first|(with_reducible first|exact HK.out|apply KeepBut.set_|apply keep_drewN|apply keep_drew|apply keep_alloc)|exact HK.out))));have n5_:=am (IsS45.below (by repeat(first|(with_reducible first|exact HI0.out|apply IsS45.alloc|apply IsS45.drewN|apply IsS45.drew|apply IsS45.set_1|apply IsS45.set_2)|exact HI0.out)) hb);have n6_:=am (KeepBut.trans (by repeat(first|(with_reducible first|exact HK.out|apply KeepBut.set_|apply keep_drewN|apply keep_drew|apply keep_alloc)|exact HK.out)) (KeepBut.of_below hb g none) (.inl rfl));have n7_:=am (below_step (by repeat(first|(with_reducible first|exact HB.out|apply below_alloc|apply pw_below_drewN|apply below_drew1|refine below_set ?_ (IsS45.ge HI0.out))|exact HB.out)) hb);clear HO_3 HO308 HO311 HO314 HI0 HK HB;have HO_3:=n0_;have HO308:=n1_;have HO311:=n2_;have HO314:=n3_;have HO317:=n4_;have HI0:=n5_;have HK:=n6_;have HB:=n7_;clear n0_ n1_ n2_ n3_ n4_ n5_ n6_ n7_ hb ho34;obtain⟨Ao35,co35,eo35⟩:=Kd.R_slice HO317.out;subst eo35)|((with_reducible refine gate_dst (N:=34) rfl ?_);refine Kd.N_lit k26 _ 26 ?hg (N':=34) ?hd (xs:=([(⟨16,y306⟩:S26),(⟨9,y309⟩:S26),(⟨5,y312⟩:S26),(⟨7,y315⟩:S26)]:List (S26))) (inner:=[.int .i64 16,.slice Ao26 y306.length co26,.int .i64 9,.slice Ao29 y309.length co29,.int .i64 5,.slice Ao32 y312.length co32,.int .i64 7,.slice Ao35 y315.length co35]) (ok:=(fun k_=>(w.heap.size≤k_)∧some k_≠(.slice Ao22 x3_2.length co22:Value).ownBlock∧k_≠g)) (okp:=(fun k_=>(w.heap.size≤k_)∧some k_≠(.slice Ao22 x3_2.length co22:Value).ownBlock∧k_≠g)) ?hr ?hp (fun _ hk=>hk) ((show ∀ k_,w33.heap.size≤k_→(fun k_=>(w.heap.size≤k_)∧some k_≠(.slice Ao22 x3_2.length co22:Value).ownBlock∧k_≠g) k_ from fun k_ hk=>⟨(Nat.le_trans (keep_size (w:=w) (g:=g) (row:=none) (by repeat(first|(with_reducible first|exact HK.out|apply KeepBut.set_|apply keep_drewN|apply keep_drew|apply keep_alloc)|exact HK.out))) hk),Kd.fresh' (Kd.N_lt (by(with_reducible repeat(first|apply Kd.N_alloc|apply Kd.N_drewN|apply Kd.N_drew));exact HO_3.out)) k_ hk,IsS45.fresh (by repeat(first|(with_reducible first|exact HI0.out|apply IsS45.alloc|apply IsS45.drewN|apply IsS45.drew|apply IsS45.set_1|apply IsS45.set_2)|exact HI0.out)) k_ hk⟩) _ (Nat.le_refl _)) (Below.refl _ _) (Nat.le_refl _) (by simp) ?_;(case hd=>rfl);(case hg=>rfl);(case hr=>first|(go_simp;done)|(go_simp;rfl));(case hp=>exact(Reps.c2 (show Kd.FK k26 _ _ (⟨16,y306⟩:S26) [.int .i64 16,.slice Ao26 y306.length co26] from(k26_mkF _ _ (⟨16,y306⟩:S26) (Kd.R_reads' (Kd.R_mono (ok':=(fun k_=>(w.heap.size≤k_)∧some k_≠(.slice Ao22 x3_2.length co22:Value).ownBlock∧k_≠g)) (IsS45.apart HI0.out (Kd.R_apart' (HO308.out) (Kd.N_typed HO_3.out) (by decide)) (by decide)) (fun k_ hk=>⟨hk.1.1.1.1.1.1,⟨hk.1.2,hk.2⟩⟩))).2.1 (Kd.R_F (Kd.R_mono (ok':=(fun k_=>(w.heap.size≤k_)∧some k_≠(.slice Ao22 x3_2.length co22:Value).ownBlock∧k_≠g)) (IsS45.apart HI0.out (Kd.R_apart' (HO308.out) (Kd.N_typed HO_3.out) (by decide)) (by decide)) (fun k_ hk=>⟨hk.1.1.1.1.1.1,⟨hk.1.2,hk.2⟩⟩))))) (Reps.c2 (show Kd.FK k26 _ _ (⟨9,y309⟩:S26) [.int .i64 9,.slice Ao29 y309.length co29] from(k26_mkF _ _ (⟨9,y309⟩:S26) (Kd.R_reads' (Kd.R_mono (ok':=(fun k_=>(w.heap.size≤k_)∧some k_≠(.slice Ao22 x3_2.length co22:Value).ownBlock∧k_≠g)) (IsS45.apart HI0.out (Kd.R_apart' (HO311.out) (Kd.N_typed HO_3.out) (by decide)) (by decide)) (fun k_ hk=>⟨hk.1.1.1.1.1.1,⟨hk.1.2,hk.2⟩⟩))).2.1 (Kd.R_F (Kd.R_mono (ok':=(fun k_=>(w.heap.size≤k_)∧some k_≠(.slice Ao22 x3_2.length co22:Value).ownBlock∧k_≠g)) (IsS45.apart HI0.out (Kd.R_apart' (HO311.out) (Kd.N_typed HO_3.out) (by decide)) (by decide)) (fun k_ hk=>⟨hk.1.1.1.1.1.1,⟨hk.1.2,hk.2⟩⟩))))) (Reps.c2 (show Kd.FK k26 _ _ (⟨5,y312⟩:S26) [.int .i64 5,.slice Ao32 y312.length co32] from(k26_mkF _ _ (⟨5,y312⟩:S26) (Kd.R_reads' (Kd.R_mono (ok':=(fun k_=>(w.heap.size≤k_)∧some k_≠(.slice Ao22 x3_2.length co22:Value).ownBlock∧k_≠g)) (IsS45.apart HI0.out (Kd.R_apart' (HO314.out) (Kd.N_typed HO_3.out) (by decide)) (by decide)) (fun k_ hk=>⟨hk.1.1.1.1.1.1,⟨hk.1.2,hk.2⟩⟩))).2.1 (Kd.R_F (Kd.R_mono (ok':=(fun k_=>(w.heap.size≤k_)∧some k_≠(.slice Ao22 x3_2.length co22:Value).ownBlock∧k_≠g)) (IsS45.apart HI0.out (Kd.R_apart' (HO314.out) (Kd.N_typed HO_3.out) (by decide)) (by decide)) (fun k_ hk=>⟨hk.1.1.1.1.1.1,⟨hk.1.2,hk.2⟩⟩))))) (Reps.c2 (show Kd.FK k26 _ _ (⟨7,y315⟩:S26) [.int .i64 7,.slice Ao35 y315.length co35] from(k26_mkF _ _ (⟨7,y315⟩:S26) (Kd.R_reads' (Kd.R_mono (ok':=(fun k_=>(w.heap.size≤k_)∧some k_≠(.slice Ao22 x3_2.length co22:Value).ownBlock∧k_≠g)) (IsS45.apart HI0.out (Kd.R_apart' (HO317.out) (Kd.N_typed HO_3.out) (by decide)) (by decide)) (fun k_ hk=>⟨hk.1.1.1.1.1.1,⟨hk.1.2,hk.2⟩⟩))).2.1 (Kd.R_F (Kd.R_mono (ok':=(fun k_=>(w.heap.size≤k_)∧some k_≠(.slice Ao22 x3_2.length co22:Value).ownBlock∧k_≠g)) (IsS45.apart HI0.out (Kd.R_apart' (HO317.out) (Kd.N_typed HO_3.out) (by decide)) (by decide)) (fun k_ hk=>⟨hk.1.1.1.1.1.1,⟨hk.1.2,hk.2⟩⟩))))) (Reps.none _ _))))));intro v319 w36 ho37 hb hg_ hnew_;clear hg_ hnew_;(first|rw[← Ny318.out] at ho37|(simp only[Int.reduceToNat] at ho37;rw[← Ny318.out] at ho37));have n0_:=am (Kd.N_elder' (by(with_reducible repeat(first|apply Kd.N_alloc|apply Kd.N_drewN|apply Kd.N_drew));exact HO_3.out) (Kd.N_base ho37) hb);have n1_:=am (Kd.N_lower ho37 (keep_size (w:=w) (g:=g) (row:=none) (by repeat(first|(with_reducible first|exact HK.out|apply KeepBut.set_|apply keep_drewN|apply keep_drew|apply keep_alloc)|exact HK.out))));have n2_:=am (IsS45.below (by repeat(first|(with_reducible first|exact HI0.out|apply IsS45.alloc|apply IsS45.drewN|apply IsS45.drew|apply IsS45.set_1|apply IsS45.set_2)|exact HI0.out)) hb);have n3_:=am (KeepBut.trans (by repeat(first|(with_reducible first|exact HK.out|apply KeepBut.set_|apply keep_drewN|apply keep_drew|apply keep_alloc)|exact HK.out)) (KeepBut.of_below hb g none) (.inl rfl));have n4_:=am (below_step (by repeat(first|(with_reducible first|exact HB.out|apply below_alloc|apply pw_below_drewN|apply below_drew1|refine below_set ?_ (IsS45.ge HI0.out))|exact HB.out)) hb);clear HO_3 HI0 HK HB HO308 HO311 HO314 HO317;have HO_3:=n0_;have HO320:=n1_;have HI0:=n2_;have HK:=n3_;have HB:=n4_;clear n0_ n1_ n2_ n3_ n4_ hb ho37))
       go_ret
       exact⟨_,fin1,by(with_reducible repeat(first|apply Kd.N_alloc|apply Kd.N_drewN|apply Kd.N_drew));exact Kd.N_mono HO320.out (fun _ hk=>hk.1),by repeat(first|(with_reducible first|exact HI0.out|apply IsS45.alloc|apply IsS45.drewN|apply IsS45.drew|apply IsS45.set_1|apply IsS45.set_2)|exact HI0.out),by repeat(first|(with_reducible first|exact HB.out|apply below_alloc|apply pw_below_drewN|apply below_drew1|refine below_set ?_ (IsS45.ge HI0.out))|exact HB.out),by repeat(first|(with_reducible first|exact HK.out|apply KeepBut.set_|apply keep_drewN|apply keep_drew|apply keep_alloc)|exact HK.out)⟩
      ·rw[if_neg c21] at H
       have c21b0:(t303 == 0)=false:=beq_eq_false_iff_ne.mpr c21
       have c21b1:(t303 != 0)=true:=bne_iff_ne.mpr c21
       by_cases c38:t303=1
       ·rw[if_pos c38] at H
        have c38b0:(t303 == 1)=true:=beq_iff_eq.mpr c38
        have c38b1:(t303 != 1)=false:=bne_eq_false_iff_eq.mpr c38
        clear c38
        obtain⟨y321,hy321⟩:∃ y_:List Int,y_=(([1]:List Int)):=⟨_,rfl⟩
        replace H:(some ((([(⟨20,y321⟩:S26),(⟨11,(([2]:List Int))⟩:S26),(⟨23,(([0]:List Int))⟩:S26)]:List (S26))),t304,t305))=some (r1,r2,r3):=by first|(rw[hy321];with_reducible exact H)|(have H2_:=(Option.bind_some _ _).symm.trans H;rw[hy321];with_reducible exact H2_)|(have H2_:=(Option.bind_some _ _).symm.trans H;with_reducible exact H2_)|with_reducible exact H|(rw[hy321];exact H)|exact H
        have Ny321:=am hy321
        clear hy321
        obtain⟨y324,hy324⟩:∃ y_:List Int,y_=(([2]:List Int)):=⟨_,rfl⟩
        replace H:(some ((([(⟨20,y321⟩:S26),(⟨11,y324⟩:S26),(⟨23,(([0]:List Int))⟩:S26)]:List (S26))),t304,t305))=some (r1,r2,r3):=by first|(rw[hy324];with_reducible exact H)|(have H2_:=(Option.bind_some _ _).symm.trans H;rw[hy324];with_reducible exact H2_)|(have H2_:=(Option.bind_some _ _).symm.trans H;with_reducible exact H2_)|with_reducible exact H|(rw[hy324];exact H)|exact H
        have Ny324:=am hy324
        clear hy324
        obtain⟨y327,hy327⟩:∃ y_:List Int,y_=(([0]:List Int)):=⟨_,rfl⟩
        replace H:(some ((([(⟨20,y321⟩:S26),(⟨11,y324⟩:S26),(⟨23,y327⟩:S26)]:List (S26))),t304,t305))=some (r1,r2,r3):=by first|(rw[hy327];with_reducible exact H)|(have H2_:=(Option.bind_some _ _).symm.trans H;rw[hy327];with_reducible exact H2_)|(have H2_:=(Option.bind_some _ _).symm.trans H;with_reducible exact H2_)|with_reducible exact H|(rw[hy327];exact H)|exact H
        have Ny327:=am hy327
        clear hy327
        obtain⟨y330,hy330⟩:∃ y_:List (S26),y_=(([(⟨20,y321⟩:S26),(⟨11,y324⟩:S26),(⟨23,y327⟩:S26)]:List (S26))):=⟨_,rfl⟩
        replace H:(some (y330,t304,t305))=some (r1,r2,r3):=by first|(rw[hy330];with_reducible exact H)|(have H2_:=(Option.bind_some _ _).symm.trans H;rw[hy330];with_reducible exact H2_)|(have H2_:=(Option.bind_some _ _).symm.trans H;with_reducible exact H2_)|with_reducible exact H|(rw[hy330];exact H)|exact H
        have Ny330:=am hy330
        clear hy330
        simp only[Option.some.injEq,Prod.mk.injEq] at H
        obtain⟨rfl,rfl,rfl⟩:=H
        obtain⟨Ao39,co39,eo39⟩:=Kd.N_slice HO_3.out
        subst eo39
        go_wp2_with (first|((with_reducible refine gate_callee (f:=36) rfl ?_);refine goesL_ (some 23) rfl rfl Try.func36 (by kernel_rfl) rfl #[.pointer (some ⟨g,0,none⟩),.int .i64 24] rfl tl ?_;(with_reducible refine(spec_l1Cur_pick.calls g s0_0 x1001_2 x1002_2 24 t303 t304 t305 w0 _ ?side1 ?side2 A20.out).mono ?_);(case side1=>repeat(first|(with_reducible first|exact HI0.out|apply IsS45.alloc|apply IsS45.drewN|apply IsS45.drew|apply IsS45.set_1|apply IsS45.set_2)|exact HI0.out));(case side2=>repeat(first|(with_reducible first|exact HB.out|apply below_alloc|apply pw_below_drewN|apply below_drew1|refine below_set ?_ (IsS45.ge HI0.out))|exact HB.out));rintro e w40 ⟨rfl,hi,hb,hk⟩;refine⟨_,rfl,?_⟩;have n0_:=am (Kd.N_mono (Kd.N_keep (Kd.N_mono (ok:=fun k_=>(((w.heap.size≤k_))∧k_≠g)) (by(with_reducible repeat(first|apply Kd.N_alloc|apply Kd.N_drewN|apply Kd.N_drew));exact HO_3.out) (fun k_ hk_=>(⟨hk_,hk_.2⟩:_∧k_≠g))) hk (fun _ h=>h.2)) (fun _ h=>h.1));have n1_:=am (KeepBut.trans (by repeat(first|(with_reducible first|exact HK.out|apply KeepBut.set_|apply keep_drewN|apply keep_drew|apply keep_alloc)|exact HK.out)) hk (.inl rfl));have n2_:=am (hb);have n3_:=am (hi);clear HO_3 HK HB HI0;have HO_3:=n0_;have HK:=n1_;have HB:=n2_;have HI0:=n3_;clear n0_ n1_ n2_ n3_;(try clear hb);(try clear hb2);(try clear hk);(try clear hi))|((with_reducible refine gate_dst (N:=37) rfl ?_);refine Kd.R_lit (Kd.int .i64) _ 3 ?hg (N:=37) ?hd (xs:=([1]:List Int)) (inner:=[.int .i64 1]) (ok:=fun _=>True) (okp:=fun _=>True) ?hr ?hp (fun _ hk=>hk) trivial (Below.refl _ _) (Nat.le_refl _) (by simp) ?_;(case hd=>rfl);(case hg=>rfl);(case hr=>first|(go_simp;done)|(go_simp;rfl));(case hp=>exact(Reps.one (show Kd.M (Kd.int .i64) _ _ _ 1 [.int .i64 1] from rfl) (Reps.none _ _)));intro v322 w41 ho42 hb hg_ hnew_;clear hg_ hnew_;(first|rw[← Ny321.out] at ho42|(simp only[Int.reduceToNat] at ho42;rw[← Ny321.out] at ho42));have n0_:=am (Kd.N_elder' (by(with_reducible repeat(first|apply Kd.N_alloc|apply Kd.N_drewN|apply Kd.N_drew));exact HO_3.out) (Kd.R_base ho42) hb);have n1_:=am (Kd.R_lower (Kd.R_newM (M:=fun k_=>(w.heap.size≤k_)) ho42 (keep_size (w:=w) (g:=g) (row:=none) (by repeat(first|(with_reducible first|exact HK.out|apply KeepBut.set_|apply keep_drewN|apply keep_drew|apply keep_alloc)|exact HK.out))) (fun k_ h_=>h_)) (keep_size (w:=w) (g:=g) (row:=none) (by repeat(first|(with_reducible first|exact HK.out|apply KeepBut.set_|apply keep_drewN|apply keep_drew|apply keep_alloc)|exact HK.out))));have n2_:=am (IsS45.below (by repeat(first|(with_reducible first|exact HI0.out|apply IsS45.alloc|apply IsS45.drewN|apply IsS45.drew|apply IsS45.set_1|apply IsS45.set_2)|exact HI0.out)) hb);have n3_:=am (KeepBut.trans (by repeat(first|(with_reducible first|exact HK.out|apply KeepBut.set_|apply keep_drewN|apply keep_drew|apply keep_alloc)|exact HK.out)) (KeepBut.of_below hb g none) (.inl rfl));have n4_:=am (below_step (by repeat(first|(with_reducible first|exact HB.out|apply below_alloc|apply pw_below_drewN|apply below_drew1|refine below_set ?_ (IsS45.ge HI0.out))|exact HB.out)) hb);clear HO_3 HI0 HK HB;have HO_3:=n0_;have HO323:=n1_;have HI0:=n2_;have HK:=n3_;have HB:=n4_;clear n0_ n1_ n2_ n3_ n4_ hb ho42;obtain⟨Ao43,co43,eo43⟩:=Kd.R_slice HO323.out;subst eo43)|((with_reducible refine gate_dst (N:=39) rfl ?_);refine Kd.R_lit (Kd.int .i64) _ 3 ?hg (N:=39) ?hd (xs:=([2]:List Int)) (inner:=[.int .i64 2]) (ok:=fun _=>True) (okp:=fun _=>True) ?hr ?hp (fun _ hk=>hk) trivial (Below.refl _ _) (Nat.le_refl _) (by simp) ?_;(case hd=>rfl);(case hg=>rfl);(case hr=>first|(go_simp;done)|(go_simp;rfl));(case hp=>exact(Reps.one (show Kd.M (Kd.int .i64) _ _ _ 2 [.int .i64 2] from rfl) (Reps.none _ _)));intro v325 w44 ho45 hb hg_ hnew_;clear hg_ hnew_;(first|rw[← Ny324.out] at ho45|(simp only[Int.reduceToNat] at ho45;rw[← Ny324.out] at ho45));have n0_:=am (Kd.N_elder' (by(with_reducible repeat(first|apply Kd.N_alloc|apply Kd.N_drewN|apply Kd.N_drew));exact HO_3.out) (Kd.R_base ho45) hb);have n1_:=am (Kd.R_elder' (rup HO323.out) (Kd.R_base ho45) hb);have n2_:=am (Kd.R_lower (Kd.R_new' (Kd.R_newM (M:=fun k_=>(w.heap.size≤k_)) ho45 (keep_size (w:=w) (g:=g) (row:=none) (by repeat(first|(with_reducible first|exact HK.out|apply KeepBut.set_|apply keep_drewN|apply keep_drew|apply keep_alloc)|exact HK.out))) (fun k_ h_=>h_)) (Kd.R_lt (rup HO323.out))) (keep_size (w:=w) (g:=g) (row:=none) (by repeat(first|(with_reducible first|exact HK.out|apply KeepBut.set_|apply keep_drewN|apply keep_drew|apply keep_alloc)|exact HK.out))));have n3_:=am (IsS45.below (by repeat(first|(with_reducible first|exact HI0.out|apply IsS45.alloc|apply IsS45.drewN|apply IsS45.drew|apply IsS45.set_1|apply IsS45.set_2)|exact HI0.out)) hb);have n4_:=am (KeepBut.trans (by repeat(first|(with_reducible first|exact HK.out|apply KeepBut.set_|apply keep_drewN|apply keep_drew|apply keep_alloc)|exact HK.out)) (KeepBut.of_below hb g none) (.inl rfl));have n5_:=am (below_step (by repeat(first|(with_reducible first|exact HB.out|apply below_alloc|apply pw_below_drewN|apply below_drew1|refine below_set ?_ (IsS45.ge HI0.out))|exact HB.out)) hb);clear HO_3 HO323 HI0 HK HB;have HO_3:=n0_;have HO323:=n1_;have HO326:=n2_;have HI0:=n3_;have HK:=n4_;have HB:=n5_;clear n0_ n1_ n2_ n3_ n4_ n5_ hb ho45;obtain⟨Ao46,co46,eo46⟩:=Kd.R_slice HO326.out;subst eo46)|((with_reducible refine gate_dst (N:=41) rfl ?_);refine Kd.R_lit (Kd.int .i64) _ 3 ?hg (N:=41) ?hd (xs:=([0]:List Int)) (inner:=[.int .i64 0]) (ok:=fun _=>True) (okp:=fun _=>True) ?hr ?hp (fun _ hk=>hk) trivial (Below.refl _ _) (Nat.le_refl _) (by simp) ?_;(case hd=>rfl);(case hg=>rfl);(case hr=>first|(go_simp;done)|(go_simp;rfl));(case hp=>exact(Reps.one (show Kd.M (Kd.int .i64) _ _ _ 0 [.int .i64 0] from rfl) (Reps.none _ _)));intro v328 w47 ho48 hb hg_ hnew_;clear hg_ hnew_;(first|rw[← Ny327.out] at ho48|(simp only[Int.reduceToNat] at ho48;rw[← Ny327.out] at ho48));have n0_:=am (Kd.N_elder' (by(with_reducible repeat(first|apply Kd.N_alloc|apply Kd.N_drewN|apply Kd.N_drew));exact HO_3.out) (Kd.R_base ho48) hb);have n1_:=am (Kd.R_elder' (rup HO323.out) (Kd.R_base ho48) hb);have n2_:=am (Kd.R_elder' (rup HO326.out) (Kd.R_base ho48) hb);have n3_:=am (Kd.R_lower (Kd.R_new' (Kd.R_new' (Kd.R_newM (M:=fun k_=>(w.heap.size≤k_)) ho48 (keep_size (w:=w) (g:=g) (row:=none) (by repeat(first|(with_reducible first|exact HK.out|apply KeepBut.set_|apply keep_drewN|apply keep_drew|apply keep_alloc)|exact HK.out))) (fun k_ h_=>h_)) (Kd.R_lt (rup HO323.out))) (Kd.R_lt (rup HO326.out))) (keep_size (w:=w) (g:=g) (row:=none) (by repeat(first|(with_reducible first|exact HK.out|apply KeepBut.set_|apply keep_drewN|apply keep_drew|apply keep_alloc)|exact HK.out))));have n4_:=am (IsS45.below (by repeat(first|(with_reducible first|exact HI0.out|apply IsS45.alloc|apply IsS45.drewN|apply IsS45.drew|apply IsS45.set_1|apply IsS45.set_2)|exact HI0.out)) hb);have n5_:=am (KeepBut.trans (by repeat(first|(with_reducible first|exact HK.out|apply KeepBut.set_|apply keep_drewN|apply keep_drew|apply keep_alloc)|exact HK.out)) (KeepBut.of_below hb g none) (.inl rfl));have n6_:=am (below_step (by repeat(first|(with_reducible first|exact HB.out|apply below_alloc|apply pw_below_drewN|apply below_drew1|refine below_set ?_ (IsS45.ge HI0.out))|exact HB.out)) hb);clear HO_3 HO323 HO326 HI0 HK HB;have HO_3:=n0_;have HO323:=n1_;have HO326:=n2_;have HO329:=n3_;have HI0:=n4_;have HK:=n5_;have HB:=n6_;clear n0_ n1_ n2_ n3_ n4_ n5_ n6_ hb ho48;obtain⟨Ao49,co49,eo49⟩:=Kd.R_slice HO329.out;subst eo49)|((with_reducible refine gate_dst (N:=43) rfl ?_);refine Kd.N_lit k26 _ 26 ?hg (N':=43) ?hd (xs:=([(⟨20,y321⟩:S26),(⟨11,y324⟩:S26),(⟨23,y327⟩:S26)]:List (S26))) (inner:=[.int .i64 20,.slice Ao43 y321.length co43,.int .i64 11,.slice Ao46 y324.length co46,.int .i64 23,.slice Ao49 y327.length co49]) (ok:=(fun k_=>(w.heap.size≤k_)∧some k_≠(.slice Ao39 x3_2.length co39:Value).ownBlock∧k_≠g)) (okp:=(fun k_=>(w.heap.size≤k_)∧some k_≠(.slice Ao39 x3_2.length co39:Value).ownBlock∧k_≠g)) ?hr ?hp (fun _ hk=>hk) ((show ∀ k_,w47.heap.size≤k_→(fun k_=>(w.heap.size≤k_)∧some k_≠(.slice Ao39 x3_2.length co39:Value).ownBlock∧k_≠g) k_ from fun k_ hk=>⟨(Nat.le_trans (keep_size (w:=w) (g:=g) (row:=none) (by repeat(first|(with_reducible first|exact HK.out|apply KeepBut.set_|apply keep_drewN|apply keep_drew|apply keep_alloc)|exact HK.out))) hk),Kd.fresh' (Kd.N_lt (by(with_reducible repeat(first|apply Kd.N_alloc|apply Kd.N_drewN|apply Kd.N_drew));exact HO_3.out)) k_ hk,IsS45.fresh (by repeat(first|(with_reducible first|exact HI0.out|apply IsS45.alloc|apply IsS45.drewN|apply IsS45.drew|apply IsS45.set_1|apply IsS45.set_2)|exact HI0.out)) k_ hk⟩) _ (Nat.le_refl _)) (Below.refl _ _) (Nat.le_refl _) (by simp) ?_;(case hd=>rfl);(case hg=>rfl);(case hr=>first|(go_simp;done)|(go_simp;rfl));(case hp=>exact(Reps.c2 (show Kd.FK k26 _ _ (⟨20,y321⟩:S26) [.int .i64 20,.slice Ao43 y321.length co43] from(k26_mkF _ _ (⟨20,y321⟩:S26) (Kd.R_reads' (Kd.R_mono (ok':=(fun k_=>(w.heap.size≤k_)∧some k_≠(.slice Ao39 x3_2.length co39:Value).ownBlock∧k_≠g)) (IsS45.apart HI0.out (Kd.R_apart' (HO323.out) (Kd.N_typed HO_3.out) (by decide)) (by decide)) (fun k_ hk=>⟨hk.1.1.1.1.1,⟨hk.1.2,hk.2⟩⟩))).2.1 (Kd.R_F (Kd.R_mono (ok':=(fun k_=>(w.heap.size≤k_)∧some k_≠(.slice Ao39 x3_2.length co39:Value).ownBlock∧k_≠g)) (IsS45.apart HI0.out (Kd.R_apart' (HO323.out) (Kd.N_typed HO_3.out) (by decide)) (by decide)) (fun k_ hk=>⟨hk.1.1.1.1.1,⟨hk.1.2,hk.2⟩⟩))))) (Reps.c2 (show Kd.FK k26 _ _ (⟨11,y324⟩:S26) [.int .i64 11,.slice Ao46 y324.length co46] from(k26_mkF _ _ (⟨11,y324⟩:S26) (Kd.R_reads' (Kd.R_mono (ok':=(fun k_=>(w.heap.size≤k_)∧some k_≠(.slice Ao39 x3_2.length co39:Value).ownBlock∧k_≠g)) (IsS45.apart HI0.out (Kd.R_apart' (HO326.out) (Kd.N_typed HO_3.out) (by decide)) (by decide)) (fun k_ hk=>⟨hk.1.1.1.1.1,⟨hk.1.2,hk.2⟩⟩))).2.1 (Kd.R_F (Kd.R_mono (ok':=(fun k_=>(w.heap.size≤k_)∧some k_≠(.slice Ao39 x3_2.length co39:Value).ownBlock∧k_≠g)) (IsS45.apart HI0.out (Kd.R_apart' (HO326.out) (Kd.N_typed HO_3.out) (by decide)) (by decide)) (fun k_ hk=>⟨hk.1.1.1.1.1,⟨hk.1.2,hk.2⟩⟩))))) (Reps.c2 (show Kd.FK k26 _ _ (⟨23,y327⟩:S26) [.int .i64 23,.slice Ao49 y327.length co49] from(k26_mkF _ _ (⟨23,y327⟩:S26) (Kd.R_reads' (Kd.R_mono (ok':=(fun k_=>(w.heap.size≤k_)∧some k_≠(.slice Ao39 x3_2.length co39:Value).ownBlock∧k_≠g)) (IsS45.apart HI0.out (Kd.R_apart' (HO329.out) (Kd.N_typed HO_3.out) (by decide)) (by decide)) (fun k_ hk=>⟨hk.1.1.1.1.1,⟨hk.1.2,hk.2⟩⟩))).2.1 (Kd.R_F (Kd.R_mono (ok':=(fun k_=>(w.heap.size≤k_)∧some k_≠(.slice Ao39 x3_2.length co39:Value).ownBlock∧k_≠g)) (IsS45.apart HI0.out (Kd.R_apart' (HO329.out) (Kd.N_typed HO_3.out) (by decide)) (by decide)) (fun k_ hk=>⟨hk.1.1.1.1.1,⟨hk.1.2,hk.2⟩⟩))))) (Reps.none _ _)))));intro v331 w50 ho51 hb hg_ hnew_;clear hg_ hnew_;(first|rw[← Ny330.out] at ho51|(simp only[Int.reduceToNat] at ho51;rw[← Ny330.out] at ho51));have n0_:=am (Kd.N_elder' (by(with_reducible repeat(first|apply Kd.N_alloc|apply Kd.N_drewN|apply Kd.N_drew));exact HO_3.out) (Kd.N_base ho51) hb);have n1_:=am (Kd.N_lower ho51 (keep_size (w:=w) (g:=g) (row:=none) (by repeat(first|(with_reducible first|exact HK.out|apply KeepBut.set_|apply keep_drewN|apply keep_drew|apply keep_alloc)|exact HK.out))));have n2_:=am (IsS45.below (by repeat(first|(with_reducible first|exact HI0.out|apply IsS45.alloc|apply IsS45.drewN|apply IsS45.drew|apply IsS45.set_1|apply IsS45.set_2)|exact HI0.out)) hb);have n3_:=am (KeepBut.trans (by repeat(first|(with_reducible first|exact HK.out|apply KeepBut.set_|apply keep_drewN|apply keep_drew|apply keep_alloc)|exact HK.out)) (KeepBut.of_below hb g none) (.inl rfl));have n4_:=am (below_step (by repeat(first|(with_reducible first|exact HB.out|apply below_alloc|apply pw_below_drewN|apply below_drew1|refine below_set ?_ (IsS45.ge HI0.out))|exact HB.out)) hb);clear HO_3 HI0 HK HB HO323 HO326 HO329;have HO_3:=n0_;have HO332:=n1_;have HI0:=n2_;have HK:=n3_;have HB:=n4_;clear n0_ n1_ n2_ n3_ n4_ hb ho51))
        go_ret
        exact⟨_,fin1,by(with_reducible repeat(first|apply Kd.N_alloc|apply Kd.N_drewN|apply Kd.N_drew));exact Kd.N_mono HO332.out (fun _ hk=>hk.1),by repeat(first|(with_reducible first|exact HI0.out|apply IsS45.alloc|apply IsS45.drewN|apply IsS45.drew|apply IsS45.set_1|apply IsS45.set_2)|exact HI0.out),by repeat(first|(with_reducible first|exact HB.out|apply below_alloc|apply pw_below_drewN|apply below_drew1|refine below_set ?_ (IsS45.ge HI0.out))|exact HB.out),by repeat(first|(with_reducible first|exact HK.out|apply KeepBut.set_|apply keep_drewN|apply keep_drew|apply keep_alloc)|exact HK.out)⟩
       ·rw[if_neg c38] at H
        have c38b0:(t303 == 1)=false:=beq_eq_false_iff_ne.mpr c38
        have c38b1:(t303 != 1)=true:=bne_iff_ne.mpr c38
        simp only[Option.some.injEq,Prod.mk.injEq] at H
        obtain⟨rfl,rfl,rfl⟩:=H
        obtain⟨Ao52,co52,eo52⟩:=Kd.N_slice HO_3.out
        subst eo52
        go_wp2_with (first|((with_reducible refine gate_callee (f:=36) rfl ?_);refine goesL_ (some 23) rfl rfl Try.func36 (by kernel_rfl) rfl #[.pointer (some ⟨g,0,none⟩),.int .i64 24] rfl tl ?_;(with_reducible refine(spec_l1Cur_pick.calls g s0_0 x1001_2 x1002_2 24 t303 t304 t305 w0 _ ?side1 ?side2 A20.out).mono ?_);(case side1=>repeat(first|(with_reducible first|exact HI0.out|apply IsS45.alloc|apply IsS45.drewN|apply IsS45.drew|apply IsS45.set_1|apply IsS45.set_2)|exact HI0.out));(case side2=>repeat(first|(with_reducible first|exact HB.out|apply below_alloc|apply pw_below_drewN|apply below_drew1|refine below_set ?_ (IsS45.ge HI0.out))|exact HB.out));rintro e w53 ⟨rfl,hi,hb,hk⟩;refine⟨_,rfl,?_⟩;have n0_:=am (Kd.N_mono (Kd.N_keep (Kd.N_mono (ok:=fun k_=>(((w.heap.size≤k_))∧k_≠g)) (by(with_reducible repeat(first|apply Kd.N_alloc|apply Kd.N_drewN|apply Kd.N_drew));exact HO_3.out) (fun k_ hk_=>(⟨hk_,hk_.2⟩:_∧k_≠g))) hk (fun _ h=>h.2)) (fun _ h=>h.1));have n1_:=am (KeepBut.trans (by repeat(first|(with_reducible first|exact HK.out|apply KeepBut.set_|apply keep_drewN|apply keep_drew|apply keep_alloc)|exact HK.out)) hk (.inl rfl));have n2_:=am (hb);have n3_:=am (hi);clear HO_3 HK HB HI0;have HO_3:=n0_;have HK:=n1_;have HB:=n2_;have HI0:=n3_;clear n0_ n1_ n2_ n3_;(try clear hb);(try clear hb2);(try clear hk);(try clear hi)))
        go_ret
        exact⟨_,fin1,by(with_reducible repeat(first|apply Kd.N_alloc|apply Kd.N_drewN|apply Kd.N_drew));exact Kd.N_mono HO_3.out (fun _ hk=>hk.1),by repeat(first|(with_reducible first|exact HI0.out|apply IsS45.alloc|apply IsS45.drewN|apply IsS45.drew|apply IsS45.set_1|apply IsS45.set_2)|exact HI0.out),by repeat(first|(with_reducible first|exact HB.out|apply below_alloc|apply pw_below_drewN|apply below_drew1|refine below_set ?_ (IsS45.ge HI0.out))|exact HB.out),by repeat(first|(with_reducible first|exact HK.out|apply KeepBut.set_|apply keep_drewN|apply keep_drew|apply keep_alloc)|exact HK.out)⟩

/-! ### spec_DrawCommonSteps: function 30 -/
def spec_DrawCommonSteps.f (k:Nat) (l0:List Int):Option ((List (S26))):=(spec_l1Cur_patterns.f k l0 0 0).bind fun bt334=>(some bt334.1)
set_option maxHeartbeats 8000000 in
set_option maxRecDepth 100000 in
theorem spec_DrawCommonSteps.calls (k:Nat) (A0:Option Addr) (c0:Nat) (l0:List Int) (r:List (S26)) (w:World) (hr0:Kd.C (Kd.int .u8) w A0 l0.length l0) (hc0:l0.length≤c0) (h:spec_DrawCommonSteps.f k l0=some r) :
  Calls Try.prog 30 #[.slice A0 l0.length c0] w fun e w'=>∃ v0_:Value,e = .returned (v0_)∧Kd.N k26 26 w' w.heap.size (fun k_=>(w.heap.size≤k_)) v0_ r∧Below w.heap.size w w':=by
 have hu45:=Try.underlying45
 have HR0:=am hr0
 have HC0:=am hc0
 clear hr0 hc0
 have HB:=am (Below.refl w.heap.size w)
 have H:((spec_l1Cur_patterns.f k l0 0 0).bind fun bt334=>(some bt334.1))=some r:=h
 clear h
 replace H:=Option.bind_eq_some_iff.mp H
 obtain⟨⟨t334,t337,t338⟩,A20,H⟩:=H
 replace H:(some t334)=some r:=H
 have A2:=am A20
 clear A20
 obtain rfl:=Option.some.inj H
 go_enter Try.func30,Try.ntmps30
 go_wp2_with (first|((with_reducible refine gate_dst (N:=6) rfl ?_);refine box_event ?hg (N:=6) ?hd (cs := #[.slice A0 l0.length c0,.int .i64 0,.int .u64 0]) (t:=45) ?hr ?_;(case hd=>rfl);(case hg=>rfl);(case hr=>first|(go_simp;done)|(go_simp;rfl));intro gb333 hg w3 hbox hb;have n0_:=am (below_step bl hb);have n1_:=am (hbox);have n2_:=am (ge_ bl hg);have n3_:=am (ge_ bl hg);have n4_:=am ((show IsS45 w w3 gb333 l0 0 0 from⟨_,_,hbox,(by rw[hg];exact(below_size bl):w.heap.size≤gb333),HR0.out⟩));clear HB;have HB:=n0_;have BK333:=n1_;have GW333:=n2_;have GE333:=n3_;have HI333:=n4_;clear n0_ n1_ n2_ n3_ n4_ hb hbox hg)|((with_reducible refine gate_callee (f:=40) rfl ?_);refine goesL_ (some 8) rfl rfl Try.func40 (by kernel_rfl) rfl #[.pointer (some ⟨gb333,0,none⟩)] rfl tl ?_;(with_reducible refine(spec_l1Cur_patterns.calls k gb333 l0 0 0 t334 t337 t338 w _ ?side1 ?side2 A2.out).mono ?_);(case side1=>repeat(first|(with_reducible first|exact HI333.out|apply IsS45.alloc|apply IsS45.drewN|apply IsS45.drew|apply IsS45.set_1|apply IsS45.set_2)|exact HI333.out));(case side2=>repeat(first|(with_reducible first|exact HB.out|apply below_alloc|apply pw_below_drewN|apply below_drew1|refine below_set ?_ (IsS45.ge HI333.out))|exact HB.out));rintro e w4 ⟨v335,rfl,ho0,hi,hb,hk⟩;refine⟨_,rfl,?_⟩;have n0_:=am (Kd.N_lower (Kd.N_mono (ok':=fun k_=>(w.heap.size≤k_)∧k_≠gb333) ho0 (fun k_ hk_=>⟨(Nat.le_trans (below_size (by repeat(first|(with_reducible first|exact HB.out|apply below_alloc|apply pw_below_drewN|apply below_drew1|refine below_set ?_ (IsS45.ge HI333.out))|exact HB.out))) hk_),(IsS45.fresh (by repeat(first|(with_reducible first|exact HI333.out|apply IsS45.alloc|apply IsS45.drewN|apply IsS45.drew|apply IsS45.set_1|apply IsS45.set_2)|exact HI333.out)) k_ hk_)⟩)) (below_size (by repeat(first|(with_reducible first|exact HB.out|apply below_alloc|apply pw_below_drewN|apply below_drew1|refine below_set ?_ (IsS45.ge HI333.out))|exact HB.out))));have n1_:=am (hb);have n2_:=am (hi);clear HB HI333;have HO336:=n0_;have HB:=n1_;have HI333:=n2_;clear n0_ n1_ n2_;(try clear hb);(try clear hb2);(try clear hk);(try clear hi);(try clear ho0)))
 go_ret
 exact⟨_,fin1,by(with_reducible repeat(first|apply Kd.N_alloc|apply Kd.N_drewN|apply Kd.N_drew));exact Kd.N_mono HO336.out (fun _ hk=>hk.1),by repeat(first|(with_reducible first|exact HB.out|apply below_alloc|apply pw_below_drewN|apply below_drew1|refine below_set ?_ (IsS45.ge HI333.out))|exact HB.out)⟩

/-! ### spec_DrawMostTogether: function 12 -/
def spec_DrawMostTogether.f (k:Nat) (l0:List Int):Option ((List (S26))):=(spec_DrawCommonSteps.f k l0).bind fun t339=>(some t339)
set_option maxHeartbeats 8000000 in
set_option maxRecDepth 100000 in
theorem spec_DrawMostTogether.calls (k:Nat) (A0:Option Addr) (c0:Nat) (l0:List Int) (r:List (S26)) (w:World) (hr0:Kd.C (Kd.int .u8) w A0 l0.length l0) (hc0:l0.length≤c0) (h:spec_DrawMostTogether.f k l0=some r) :
  Calls Try.prog 12 #[.slice A0 l0.length c0] w fun e w'=>∃ v0_:Value,e = .returned (v0_)∧Kd.N k26 26 w' w.heap.size (fun k_=>(w.heap.size≤k_)) v0_ r∧Below w.heap.size w w':=by
 have HR0:=am hr0
 have HC0:=am hc0
 clear hr0 hc0
 have HB:=am (Below.refl w.heap.size w)
 have H:((spec_DrawCommonSteps.f k l0).bind fun t339=>(some t339))=some r:=h
 clear h
 replace H:=Option.bind_eq_some_iff.mp H
 obtain⟨t339,A20,H⟩:=H
 replace H:(some t339)=some r:=H
 have A2:=am A20
 clear A20
 obtain rfl:=Option.some.inj H
 go_enter Try.func12,Try.ntmps12
 go_wp2_with (first|((with_reducible refine gate_callee (f:=30) rfl ?_);refine goesL_ (some 4) rfl rfl Try.func30 (by kernel_rfl) rfl #[.slice A0 l0.length c0] rfl tl ?_;(with_reducible refine(spec_DrawCommonSteps.calls k _ _ l0 t339 _ ?side1 ?side2 A2.out).mono ?_);(case side1=>repeat(first|exact HR0.out|(with_reducible refine Kd.C_alloc ?_ _)|(with_reducible refine Kd.C_drewN ?_ _)|(with_reducible refine Kd.C_drew ?_)));(case side2=>exact HC0.out);rintro e w3 ⟨v340,rfl,ho0,hb⟩;refine⟨_,rfl,?_⟩;have n0_:=am (Kd.N_lower (Kd.N_mono (ok':=fun k_=>(w.heap.size≤k_)) ho0 (fun k_ hk_=>(Nat.le_trans (below_size bl) hk_))) (below_size bl));have n1_:=am (below_step bl hb);clear HB;have HO341:=n0_;have HB:=n1_;clear n0_ n1_;(try clear hb);(try clear hb2);(try clear hk);(try clear hi);(try clear ho0)))
 go_ret
 exact⟨_,fin1,by(with_reducible repeat(first|apply Kd.N_alloc|apply Kd.N_drewN|apply Kd.N_drew));exact HO341.out,bl⟩

/-! ### impl_gcd: function 41 -/
def impl_gcd.l0:Nat→Int→Int→Option (Int)
 | 0,_,_=>none
 | k+1,x0,x1=>if x1=0 then(some x0) else(impl_gcd.l0 k x1 (Int.tmod x0 x1))
def impl_gcd.f (k:Nat) (a0:Int) (a1:Int):Option (Int):=impl_gcd.l0 k a0 a1
set_option maxHeartbeats 8000000 in
set_option maxRecDepth 100000 in
theorem impl_gcd.calls (k:Nat) (a0:Int) (a1:Int) (r:Int) (w:World) (h:impl_gcd.f k a0 a1=some r) :
  Calls Try.prog 41 #[.int .i64 a0,.int .i64 a1] w fun e w'=>e = .returned (.int .i64 r)∧Drawn0 w w':=by
 have H:(impl_gcd.l0 k a0 a1)=some r:=h
 clear h
 have H':=am H
 clear H
 go_enter Try.func41,Try.ntmps41
 go_wp2
 repeat(go_quiet (fail);try go_wp2)
 go_loopg [0,1] k (fun kq v0 v1 w'=>∃(x0_1:Int) (x1_1:Int),v0 = .int .i64 x0_1∧v1 = .int .i64 x1_1∧Aside0 (impl_gcd.l0 kq x0_1 x1_1=some r)∧Aside0 (kq≤k)∧Drawn0 w w')
 case atStart=>exact⟨(a0),(a1),fin2,fin2,H',⟨Nat.le_refl _⟩,by repeat(first|exact Drawn0.refl _|apply Drawn0.step)⟩
 case round =>
  clear H'
  try clear p2
  obtain⟨x0_1,x1_1,rfl,rfl,HA,HK1,⟨m1,rfl⟩⟩:=hrel
  cases gk with
  | zero=>exact absurd HA.out (by simp [impl_gcd.l0])
  | succ k1 =>
   have H:=HA.out
   clear HA
   simp only[impl_gcd.l0] at H
   by_cases c3:x1_1=0
   ·rw[if_pos c3] at H
    have c3b0:(x1_1 == 0)=true:=beq_iff_eq.mpr c3
    have c3b1:(x1_1 != 0)=false:=bne_eq_false_iff_eq.mpr c3
    clear c3
    obtain rfl:=Option.some.inj H
    go_wp2
    repeat(go_quiet (fail);try go_wp2)
    go_ret
    exact⟨by first|rfl|(simp;done)|(simp [*];done),by repeat(first|exact Drawn0.refl _|apply Drawn0.step)⟩
   ·rw[if_neg c3] at H
    have c3b0:(x1_1 == 0)=false:=beq_eq_false_iff_ne.mpr c3
    have c3b1:(x1_1 != 0)=true:=bne_iff_ne.mpr c3
    have H':=am H
    clear H
    go_wp2
    repeat(go_quiet (fail);try go_wp2)
    go_roundg k1
    case measure=>have:=HK1.out;omega
    case rel=>exact⟨(x1_1),(Int.tmod x0_1 x1_1),fin2,fin2,H',⟨by have:=HK1.out;omega⟩,by repeat(first|exact Drawn0.refl _|apply Drawn0.step)⟩

/-! ### impl_commonSteps: function 31 -/
mutual
def impl_commonSteps.j0:Nat→List (S26)→Bool→Option (Int×Bool)
 | 0,_,_=>none
 | k+1,x0,x14=>if x14=true then(some (0,false)) else(impl_commonSteps.l0 k 1 x0 (x0.length:Int) 0)
def impl_commonSteps.l0:Nat→Int→List (S26)→Int→Int→Option (Int×Bool)
 | 0,_,_,_,_=>none
 | k+1,x4,x15,x16,x17=>if x17<x16 then(if 0≤x17 then(if x17<(x15.length:Int) then((impl_IsPattern.f k ((rd_T26 x15 x17).f0) ((rd_T26 x15 x17).f1)).bind fun t344=>(if t344=true then((impl_gcd.f k x4 ((rd_T26 x15 x17).f0)).bind fun t345=>(if t345=0 then(none) else(impl_commonSteps.l0 k (wrap64 ((wrap64 (Int.tdiv x4 t345))*((rd_T26 x15 x17).f0))) x15 x16 (wrap64 (x17+1))))) else(some (0,false)))) else(none)) else(none)) else(some (x4,decide (x4≤5040)))
end
def impl_commonSteps.f (k:Nat) (l0:List (S26)):Option (Int×Bool):=if(l0.length:Int)<1 then(impl_commonSteps.j0 k l0 true) else(impl_commonSteps.j0 k l0 (decide ((l0.length:Int)>5)))
set_option maxHeartbeats 8000000 in
set_option maxRecDepth 100000 in
theorem impl_commonSteps.calls (k:Nat) (A0:Option Addr) (c0:Nat) (l0:List (S26)) (r1:Int) (r2:Bool) (w:World) (hr0:Kd.C k26 w A0 l0.length l0) (hc0:l0.length≤c0) (h:impl_commonSteps.f k l0=some (r1,r2)) :
  Calls Try.prog 31 #[.slice A0 l0.length c0] w fun e w'=>e = .returned (.tuple #[.int .i64 r1,.bool r2])∧Below w.heap.size w w':=by
 have hu26:=Try.underlying26
 have HR0:=am hr0
 have HC0:=am hc0
 clear hr0 hc0
 have HB:=am (Below.refl w.heap.size w)
 have H:(if(l0.length:Int)<1 then(impl_commonSteps.j0 k l0 true) else(impl_commonSteps.j0 k l0 (decide ((l0.length:Int)>5))))=some (r1,r2):=h
 clear h
 have HC2:=am H
 clear H
 go_enter Try.func31,Try.ntmps31
 go_upto_region 1 with(fail)
 repeat(go_quiet (fail);go_upto_region 1 with(fail))
 go_cut [14] (fun v14 wc=>∃(kq:Nat) (x14_1:Bool),v14 = .bool x14_1∧Aside0 (impl_commonSteps.j0 kq l0 x14_1=some (r1,r2))∧Aside0 (kq≤k)∧Aside0 (Below w.heap.size w wc))
 case first =>
  have H:=HC2.out
  clear HC2
  by_cases c3:(l0.length:Int)<1
  ·rw[if_pos c3] at H
   have c3b0:decide ((l0.length:Int)<1)=true:=decide_eq_true c3
   have c3b1:decide (l0.length<1)=true:=decide_eq_true (by omega)
   clear c3
   (first|rw[c3b0]|(simp only[i64_w,i32_w];rw[c3b0])|skip)
   have H':=am H
   clear H
   go_wp2
   repeat(go_quiet (fail);try go_wp2)
   go_meet
   case rel=>exact⟨_,(true),fin2,H',⟨by first|omega|exact Nat.le_refl _⟩,⟨bl⟩⟩
  ·rw[if_neg c3] at H
   have c3b0:decide ((l0.length:Int)<1)=false:=decide_eq_false c3
   have c3b1:decide (l0.length<1)=false:=decide_eq_false (by omega)
   clear c3
   (first|rw[c3b0]|(simp only[i64_w,i32_w];rw[c3b0])|skip)
   have H':=am H
   clear H
   go_wp2
   repeat(go_quiet (fail);try go_wp2)
   go_meet
   case rel=>exact⟨_,(decide ((l0.length:Int)>5)),fin2,H',⟨by first|omega|exact Nat.le_refl _⟩,⟨bl⟩⟩
 case rest =>
  clear HC2
  try clear p2
  try clear c3
  try clear c3b0
  try clear c3b1
  obtain⟨kq,x14_1,rfl,HA,HJ1,HB⟩:=hcut
  cases kq with
  | zero=>exact absurd HA.out (by simp [impl_commonSteps.j0])
  | succ kj1 =>
   have H:=HA.out
   clear HA
   simp only[impl_commonSteps.j0] at H
   by_cases c4:x14_1=true
   ·subst c4
    have H1:(some (0,false))=some (r1,r2):=by rw[if_pos rfl] at H;exact H
    clear H
    have H:=H1
    clear H1
    simp only[Option.some.injEq,Prod.mk.injEq] at H
    obtain⟨rfl,rfl⟩:=H
    go_wp2
    repeat(go_quiet (fail);try go_wp2)
    go_ret2
    exact⟨fin1,bl⟩
   ·replace c4:=Bool.eq_false_iff.mpr c4
    subst c4
    have H1:(impl_commonSteps.l0 kj1 1 l0 (l0.length:Int) 0)=some (r1,r2):=by rw[if_neg (show ¬ (false=true) by decide)] at H;exact H
    clear H
    have H:=H1
    clear H1
    have H':=am H
    clear H
    go_wp2
    repeat(go_quiet (fail);try go_wp2)
    go_loopg [4,17] kj1 (fun kq v4 v17 w'=>∃(x4_2:Int) (x17_2:Int),v4 = .int .i64 x4_2∧v17 = .int .i64 x17_2∧Aside0 (impl_commonSteps.l0 kq x4_2 l0 (l0.length:Int) x17_2=some (r1,r2))∧Aside0 (kq≤kj1)∧Aside0 (Below w.heap.size w w'))
    case atStart=>exact⟨(1),(0),fin2,fin2,H',⟨Nat.le_refl _⟩,⟨bl⟩⟩
    case round =>
     clear H'
     try clear p2
     try clear c3
     try clear c3b0
     try clear c3b1
     try clear c4
     try clear p2
     obtain⟨x4_2,x17_2,rfl,rfl,HA,HK2,HB⟩:=hrel
     cases gk with
     | zero=>exact absurd HA.out (by simp [impl_commonSteps.l0])
     | succ k2 =>
      have H:=HA.out
      clear HA
      simp only[impl_commonSteps.l0] at H
      by_cases c5:x17_2<(l0.length:Int)
      ·rw[if_pos c5] at H
       have c5b0:decide (x17_2<(l0.length:Int))=true:=decide_eq_true c5
       clear c5
       by_cases c6:0≤x17_2
       ·rw[if_pos c6] at H
        have c6b0:decide (0≤x17_2)=true:=decide_eq_true c6
        clear c6
        by_cases c7:x17_2<(l0.length:Int)
        ·rw[if_pos c7] at H
         have c7b0:decide (x17_2<(l0.length:Int))=true:=decide_eq_true c7
         clear c7
         replace H:=Option.bind_eq_some_iff.mp H
         obtain⟨t344,A80,H⟩:=H
         replace H:(if t344=true then((impl_gcd.f k2 x4_2 ((rd_T26 l0 x17_2).f0)).bind fun t345=>(if t345=0 then(none) else(impl_commonSteps.l0 k2 (wrap64 ((wrap64 (Int.tdiv x4_2 t345))*((rd_T26 l0 x17_2).f0))) l0 (l0.length:Int) (wrap64 (x17_2+1))))) else(some (0,false)))=some (r1,r2):=H
         have A8:=am A80
         clear A80
         by_cases c9:t344=true
         ·subst c9
          have H1:((impl_gcd.f k2 x4_2 ((rd_T26 l0 x17_2).f0)).bind fun t345=>(if t345=0 then(none) else(impl_commonSteps.l0 k2 (wrap64 ((wrap64 (Int.tdiv x4_2 t345))*((rd_T26 l0 x17_2).f0))) l0 (l0.length:Int) (wrap64 (x17_2+1)))))=some (r1,r2):=by rw[if_pos rfl] at H;exact H
          clear H
          have H:=H1
          clear H1
          replace H:=Option.bind_eq_some_iff.mp H
          obtain⟨t345,A100,H⟩:=H
          replace H:(if t345=0 then(none) else(impl_commonSteps.l0 k2 (wrap64 ((wrap64 (Int.tdiv x4_2 t345))*((rd_T26 l0 x17_2).f0))) l0 (l0.length:Int) (wrap64 (x17_2+1))))=some (r1,r2):=H
          have A10:=am A100
          clear A100
          by_cases c11:t345=0
          ·rw[if_pos c11] at H
           exact absurd H (by simp)
          ·rw[if_neg c11] at H
           have c11b0:(t345 == 0)=false:=beq_eq_false_iff_ne.mpr c11
           have c11b1:(t345 != 0)=true:=bne_iff_ne.mpr c11
           have H':=am H
           clear H
           have p342:0≤(x17_2:Int):=od
           have q342:x17_2<(l0.length:Int):=od
           obtain⟨ad342,A342_1,c342_1,e342,hx342_0,hx342_1,hl342_1,hi342_1⟩:=at_T26 HR0.out x17_2 p342 q342
           cases e342
           replace hx342_0:=(HB.out.cell (World.block_lt_of_cell? w _ hx342_0)).trans hx342_0
           replace hx342_1:=(HB.out.cell (World.block_lt_of_cell? w _ hx342_1)).trans hx342_1
           have HR342_1:=am hi342_1
           have HC342_1:=am hl342_1
           clear hi342_1 hl342_1
           replace p342:=eq_true p342
           replace q342:=eq_true q342
           go_wp2_with (first|((with_reducible refine gate_dst (N:=6) rfl ?_);(try(refine gate_guard (by rfl) ?_;dsimp only));refine box_event ?hg (N:=6) ?hd (cs := #[.int .i64 0,.slice none 0 0]) (t:=26) ?hr ?_;(case hd=>rfl);(case hg=>rfl);(case hr=>first|(go_simp;done)|(go_simp;rfl));intro gb343 hg w12 hbox hb;have n0_:=am (below_step bl hb);have n1_:=am (hbox);have n2_:=am (ge_ bl hg);have n3_:=am (ge_ bl hg);clear HB;have HB:=n0_;have BK343:=n1_;have GW343:=n2_;have GE343:=n3_;clear n0_ n1_ n2_ n3_ hb hbox hg;have hcz13_0:w12.cell? ⟨gb343,0,none⟩=some (.int .i64 0):=(blk_cell BK343.out 0).trans rfl;have hcz13_1:w12.cell? ⟨gb343,1,none⟩=some (.slice none 0 0):=(blk_cell BK343.out 1).trans rfl;have hfz13_0:=blk_frozen BK343.out 0;have hfz13_1:=blk_frozen BK343.out 1)|(go_at_call 22;(with_reducible refine(impl_IsPattern.calls k2 ((rd_T26 l0 x17_2).f0) _ _ ((rd_T26 l0 x17_2).f1) true _ ?side1 ?side2 A8.out).mono ?_);(case side1=>exact Kd.C_below HR342_1.out bl);(case side2=>exact HC342_1.out);rintro e w14 ⟨rfl,hb⟩;have n0_:=am (blk_below (g:=gb343) (o := .cells #[.int .i64 ((rd_T26 l0 x17_2).f0),.slice A342_1 ((rd_T26 l0 x17_2).f1).length c342_1] 26 (0,0)) (by(with_reducible repeat(first|refine bN_ ?_ _|refine bD_ ?_|refine bA_ ?_ _));refine blk_put (cs := #[.int .i64 ((rd_T26 l0 x17_2).f0),.slice none 0 0]) ?_ 1 _ rfl;(with_reducible repeat(first|refine bN_ ?_ _|refine bD_ ?_|refine bA_ ?_ _));refine blk_put (cs := #[.int .i64 0,.slice none 0 0]) ?_ 0 _ rfl;exact bup BK343.out) hb);have n1_:=am (below_step bl hb);clear BK343 HB;have BK343:=n0_;have HB:=n1_;clear n0_ n1_;(try clear hb);(try clear hb2);(try clear hk);(try clear hi);have hcz15_0:w14.cell? ⟨gb343,0,none⟩=some (.int .i64 ((rd_T26 l0 x17_2).f0)):=(blk_cell BK343.out 0).trans rfl;have hcz15_1:w14.cell? ⟨gb343,1,none⟩=some (.slice A342_1 ((rd_T26 l0 x17_2).f1).length c342_1):=(blk_cell BK343.out 1).trans rfl;have hfz15_0:=blk_frozen BK343.out 0;have hfz15_1:=blk_frozen BK343.out 1)|(go_at_call 41;(with_reducible refine(impl_gcd.calls k2 x4_2 ((rd_T26 l0 x17_2).f0) t345 _ A10.out).mono ?_);rintro e w' ⟨rfl,⟨nd,rfl⟩⟩;(try first|exact⟨rfl,_,World.drewN_drewN _ _ _⟩|exact⟨rfl,_,Eq.trans (World.drewN_drewN _ _ _) (congrArg (World.drewN _) (Nat.add_assoc _ _ _))⟩)))
           repeat(go_quiet (first|((with_reducible refine gate_dst (N:=6) rfl ?_);(try(refine gate_guard (by rfl) ?_;dsimp only));refine box_event ?hg (N:=6) ?hd (cs := #[.int .i64 0,.slice none 0 0]) (t:=26) ?hr ?_;(case hd=>rfl);(case hg=>rfl);(case hr=>first|(go_simp;done)|(go_simp;rfl));intro gb343 hg w12 hbox hb;have n0_:=am (below_step bl hb);have n1_:=am (hbox);have n2_:=am (ge_ bl hg);have n3_:=am (ge_ bl hg);clear HB;have HB:=n0_;have BK343:=n1_;have GW343:=n2_;have GE343:=n3_;clear n0_ n1_ n2_ n3_ hb hbox hg;have hcz13_0:w12.cell? ⟨gb343,0,none⟩=some (.int .i64 0):=(blk_cell BK343.out 0).trans rfl;have hcz13_1:w12.cell? ⟨gb343,1,none⟩=some (.slice none 0 0):=(blk_cell BK343.out 1).trans rfl;have hfz13_0:=blk_frozen BK343.out 0;have hfz13_1:=blk_frozen BK343.out 1)|(go_at_call 22;(with_reducible refine(impl_IsPattern.calls k2 ((rd_T26 l0 x17_2).f0) _ _ ((rd_T26 l0 x17_2).f1) true _ ?side1 ?side2 A8.out).mono ?_);(case side1=>exact Kd.C_below HR342_1.out bl);(case side2=>exact HC342_1.out);rintro e w14 ⟨rfl,hb⟩;have n0_:=am (blk_below (g:=gb343) (o := .cells #[.int .i64 ((rd_T26 l0 x17_2).f0),.slice A342_1 ((rd_T26 l0 x17_2).f1).length c342_1] 26 (0,0)) (by(with_reducible repeat(first|refine bN_ ?_ _|refine bD_ ?_|refine bA_ ?_ _));refine blk_put (cs := #[.int .i64 ((rd_T26 l0 x17_2).f0),.slice none 0 0]) ?_ 1 _ rfl;(with_reducible repeat(first|refine bN_ ?_ _|refine bD_ ?_|refine bA_ ?_ _));refine blk_put (cs := #[.int .i64 0,.slice none 0 0]) ?_ 0 _ rfl;exact bup BK343.out) hb);have n1_:=am (below_step bl hb);clear BK343 HB;have BK343:=n0_;have HB:=n1_;clear n0_ n1_;(try clear hb);(try clear hb2);(try clear hk);(try clear hi);have hcz15_0:w14.cell? ⟨gb343,0,none⟩=some (.int .i64 ((rd_T26 l0 x17_2).f0)):=(blk_cell BK343.out 0).trans rfl;have hcz15_1:w14.cell? ⟨gb343,1,none⟩=some (.slice A342_1 ((rd_T26 l0 x17_2).f1).length c342_1):=(blk_cell BK343.out 1).trans rfl;have hfz15_0:=blk_frozen BK343.out 0;have hfz15_1:=blk_frozen BK343.out 1)|(go_at_call 41;(with_reducible refine(impl_gcd.calls k2 x4_2 ((rd_T26 l0 x17_2).f0) t345 _ A10.out).mono ?_);rintro e w' ⟨rfl,⟨nd,rfl⟩⟩;(try first|exact⟨rfl,_,World.drewN_drewN _ _ _⟩|exact⟨rfl,_,Eq.trans (World.drewN_drewN _ _ _) (congrArg (World.drewN _) (Nat.add_assoc _ _ _))⟩)));try go_wp2_with (first|((with_reducible refine gate_dst (N:=6) rfl ?_);(try(refine gate_guard (by rfl) ?_;dsimp only));refine box_event ?hg (N:=6) ?hd (cs := #[.int .i64 0,.slice none 0 0]) (t:=26) ?hr ?_;(case hd=>rfl);(case hg=>rfl);(case hr=>first|(go_simp;done)|(go_simp;rfl));intro gb343 hg w12 hbox hb;have n0_:=am (below_step bl hb);have n1_:=am (hbox);have n2_:=am (ge_ bl hg);have n3_:=am (ge_ bl hg);clear HB;have HB:=n0_;have BK343:=n1_;have GW343:=n2_;have GE343:=n3_;clear n0_ n1_ n2_ n3_ hb hbox hg;have hcz13_0:w12.cell? ⟨gb343,0,none⟩=some (.int .i64 0):=(blk_cell BK343.out 0).trans rfl;have hcz13_1:w12.cell? ⟨gb343,1,none⟩=some (.slice none 0 0):=(blk_cell BK343.out 1).trans rfl;have hfz13_0:=blk_frozen BK343.out 0;have hfz13_1:=blk_frozen BK343.out 1)|(go_at_call 22;(with_reducible refine(impl_IsPattern.calls k2 ((rd_T26 l0 x17_2).f0) _ _ ((rd_T26 l0 x17_2).f1) true _ ?side1 ?side2 A8.out).mono ?_);(case side1=>exact Kd.C_below HR342_1.out bl);(case side2=>exact HC342_1.out);rintro e w14 ⟨rfl,hb⟩;have n0_:=am (blk_below (g:=gb343) (o := .cells #[.int .i64 ((rd_T26 l0 x17_2).f0),.slice A342_1 ((rd_T26 l0 x17_2).f1).length c342_1] 26 (0,0)) (by(with_reducible repeat(first|refine bN_ ?_ _|refine bD_ ?_|refine bA_ ?_ _));refine blk_put (cs := #[.int .i64 ((rd_T26 l0 x17_2).f0),.slice none 0 0]) ?_ 1 _ rfl;(with_reducible repeat(first|refine bN_ ?_ _|refine bD_ ?_|refine bA_ ?_ _));refine blk_put (cs := #[.int .i64 0,.slice none 0 0]) ?_ 0 _ rfl;exact bup BK343.out) hb);have n1_:=am (below_step bl hb);clear BK343 HB;have BK343:=n0_;have HB:=n1_;clear n0_ n1_;(try clear hb);(try clear hb2);(try clear hk);(try clear hi);have hcz15_0:w14.cell? ⟨gb343,0,none⟩=some (.int .i64 ((rd_T26 l0 x17_2).f0)):=(blk_cell BK343.out 0).trans rfl;have hcz15_1:w14.cell? ⟨gb343,1,none⟩=some (.slice A342_1 ((rd_T26 l0 x17_2).f1).length c342_1):=(blk_cell BK343.out 1).trans rfl;have hfz15_0:=blk_frozen BK343.out 0;have hfz15_1:=blk_frozen BK343.out 1)|(go_at_call 41;(with_reducible refine(impl_gcd.calls k2 x4_2 ((rd_T26 l0 x17_2).f0) t345 _ A10.out).mono ?_);rintro e w' ⟨rfl,⟨nd,rfl⟩⟩;(try first|exact⟨rfl,_,World.drewN_drewN _ _ _⟩|exact⟨rfl,_,Eq.trans (World.drewN_drewN _ _ _) (congrArg (World.drewN _) (Nat.add_assoc _ _ _))⟩))))
           go_roundg k2
           case measure=>have:=HJ1.out;have:=HK2.out;omega
           case rel=>exact⟨(wrap64 ((wrap64 (Int.tdiv x4_2 t345))*((rd_T26 l0 x17_2).f0))),(wrap64 (x17_2+1)),fin2,fin2,H',⟨by have:=HJ1.out;have:=HK2.out;omega⟩,⟨bl⟩⟩
         ·replace c9:=Bool.eq_false_iff.mpr c9
          subst c9
          have H1:(some (0,false))=some (r1,r2):=by rw[if_neg (show ¬ (false=true) by decide)] at H;exact H
          clear H
          have H:=H1
          clear H1
          simp only[Option.some.injEq,Prod.mk.injEq] at H
          obtain⟨rfl,rfl⟩:=H
          have p342:0≤(x17_2:Int):=od
          have q342:x17_2<(l0.length:Int):=od
          obtain⟨ad342,A342_1,c342_1,e342,hx342_0,hx342_1,hl342_1,hi342_1⟩:=at_T26 HR0.out x17_2 p342 q342
          cases e342
          replace hx342_0:=(HB.out.cell (World.block_lt_of_cell? w _ hx342_0)).trans hx342_0
          replace hx342_1:=(HB.out.cell (World.block_lt_of_cell? w _ hx342_1)).trans hx342_1
          have HR342_1:=am hi342_1
          have HC342_1:=am hl342_1
          clear hi342_1 hl342_1
          replace p342:=eq_true p342
          replace q342:=eq_true q342
          go_wp2_with (first|((with_reducible refine gate_dst (N:=6) rfl ?_);(try(refine gate_guard (by rfl) ?_;dsimp only));refine box_event ?hg (N:=6) ?hd (cs := #[.int .i64 0,.slice none 0 0]) (t:=26) ?hr ?_;(case hd=>rfl);(case hg=>rfl);(case hr=>first|(go_simp;done)|(go_simp;rfl));intro gb343 hg w16 hbox hb;have n0_:=am (below_step bl hb);have n1_:=am (hbox);have n2_:=am (ge_ bl hg);have n3_:=am (ge_ bl hg);clear HB;have HB:=n0_;have BK343:=n1_;have GW343:=n2_;have GE343:=n3_;clear n0_ n1_ n2_ n3_ hb hbox hg;have hcz17_0:w16.cell? ⟨gb343,0,none⟩=some (.int .i64 0):=(blk_cell BK343.out 0).trans rfl;have hcz17_1:w16.cell? ⟨gb343,1,none⟩=some (.slice none 0 0):=(blk_cell BK343.out 1).trans rfl;have hfz17_0:=blk_frozen BK343.out 0;have hfz17_1:=blk_frozen BK343.out 1)|(go_at_call 22;(with_reducible refine(impl_IsPattern.calls k2 ((rd_T26 l0 x17_2).f0) _ _ ((rd_T26 l0 x17_2).f1) false _ ?side1 ?side2 A8.out).mono ?_);(case side1=>exact Kd.C_below HR342_1.out bl);(case side2=>exact HC342_1.out);rintro e w18 ⟨rfl,hb⟩;have n0_:=am (blk_below (g:=gb343) (o := .cells #[.int .i64 ((rd_T26 l0 x17_2).f0),.slice A342_1 ((rd_T26 l0 x17_2).f1).length c342_1] 26 (0,0)) (by(with_reducible repeat(first|refine bN_ ?_ _|refine bD_ ?_|refine bA_ ?_ _));refine blk_put (cs := #[.int .i64 ((rd_T26 l0 x17_2).f0),.slice none 0 0]) ?_ 1 _ rfl;(with_reducible repeat(first|refine bN_ ?_ _|refine bD_ ?_|refine bA_ ?_ _));refine blk_put (cs := #[.int .i64 0,.slice none 0 0]) ?_ 0 _ rfl;exact bup BK343.out) hb);have n1_:=am (below_step bl hb);clear BK343 HB;have BK343:=n0_;have HB:=n1_;clear n0_ n1_;(try clear hb);(try clear hb2);(try clear hk);(try clear hi)))
          repeat(go_quiet (first|((with_reducible refine gate_dst (N:=6) rfl ?_);(try(refine gate_guard (by rfl) ?_;dsimp only));refine box_event ?hg (N:=6) ?hd (cs := #[.int .i64 0,.slice none 0 0]) (t:=26) ?hr ?_;(case hd=>rfl);(case hg=>rfl);(case hr=>first|(go_simp;done)|(go_simp;rfl));intro gb343 hg w16 hbox hb;have n0_:=am (below_step bl hb);have n1_:=am (hbox);have n2_:=am (ge_ bl hg);have n3_:=am (ge_ bl hg);clear HB;have HB:=n0_;have BK343:=n1_;have GW343:=n2_;have GE343:=n3_;clear n0_ n1_ n2_ n3_ hb hbox hg;have hcz17_0:w16.cell? ⟨gb343,0,none⟩=some (.int .i64 0):=(blk_cell BK343.out 0).trans rfl;have hcz17_1:w16.cell? ⟨gb343,1,none⟩=some (.slice none 0 0):=(blk_cell BK343.out 1).trans rfl;have hfz17_0:=blk_frozen BK343.out 0;have hfz17_1:=blk_frozen BK343.out 1)|(go_at_call 22;(with_reducible refine(impl_IsPattern.calls k2 ((rd_T26 l0 x17_2).f0) _ _ ((rd_T26 l0 x17_2).f1) false _ ?side1 ?side2 A8.out).mono ?_);(case side1=>exact Kd.C_below HR342_1.out bl);(case side2=>exact HC342_1.out);rintro e w18 ⟨rfl,hb⟩;have n0_:=am (blk_below (g:=gb343) (o := .cells #[.int .i64 ((rd_T26 l0 x17_2).f0),.slice A342_1 ((rd_T26 l0 x17_2).f1).length c342_1] 26 (0,0)) (by(with_reducible repeat(first|refine bN_ ?_ _|refine bD_ ?_|refine bA_ ?_ _));refine blk_put (cs := #[.int .i64 ((rd_T26 l0 x17_2).f0),.slice none 0 0]) ?_ 1 _ rfl;(with_reducible repeat(first|refine bN_ ?_ _|refine bD_ ?_|refine bA_ ?_ _));refine blk_put (cs := #[.int .i64 0,.slice none 0 0]) ?_ 0 _ rfl;exact bup BK343.out) hb);have n1_:=am (below_step bl hb);clear BK343 HB;have BK343:=n0_;have HB:=n1_;clear n0_ n1_;(try clear hb);(try clear hb2);(try clear hk);(try clear hi)));try go_wp2_with (first|((with_reducible refine gate_dst (N:=6) rfl ?_);(try(refine gate_guard (by rfl) ?_;dsimp only));refine box_event ?hg (N:=6) ?hd (cs := #[.int .i64 0,.slice none 0 0]) (t:=26) ?hr ?_;(case hd=>rfl);(case hg=>rfl);(case hr=>first|(go_simp;done)|(go_simp;rfl));intro gb343 hg w16 hbox hb;have n0_:=am (below_step bl hb);have n1_:=am (hbox);have n2_:=am (ge_ bl hg);have n3_:=am (ge_ bl hg);clear HB;have HB:=n0_;have BK343:=n1_;have GW343:=n2_;have GE343:=n3_;clear n0_ n1_ n2_ n3_ hb hbox hg;have hcz17_0:w16.cell? ⟨gb343,0,none⟩=some (.int .i64 0):=(blk_cell BK343.out 0).trans rfl;have hcz17_1:w16.cell? ⟨gb343,1,none⟩=some (.slice none 0 0):=(blk_cell BK343.out 1).trans rfl;have hfz17_0:=blk_frozen BK343.out 0;have hfz17_1:=blk_frozen BK343.out 1)|(go_at_call 22;(with_reducible refine(impl_IsPattern.calls k2 ((rd_T26 l0 x17_2).f0) _ _ ((rd_T26 l0 x17_2).f1) false _ ?side1 ?side2 A8.out).mono ?_);(case side1=>exact Kd.C_below HR342_1.out bl);(case side2=>exact HC342_1.out);rintro e w18 ⟨rfl,hb⟩;have n0_:=am (blk_below (g:=gb343) (o := .cells #[.int .i64 ((rd_T26 l0 x17_2).f0),.slice A342_1 ((rd_T26 l0 x17_2).f1).length c342_1] 26 (0,0)) (by(with_reducible repeat(first|refine bN_ ?_ _|refine bD_ ?_|refine bA_ ?_ _));refine blk_put (cs := #[.int .i64 ((rd_T26 l0 x17_2).f0),.slice none 0 0]) ?_ 1 _ rfl;(with_reducible repeat(first|refine bN_ ?_ _|refine bD_ ?_|refine bA_ ?_ _));refine blk_put (cs := #[.int .i64 0,.slice none 0 0]) ?_ 0 _ rfl;exact bup BK343.out) hb);have n1_:=am (below_step bl hb);clear BK343 HB;have BK343:=n0_;have HB:=n1_;clear n0_ n1_;(try clear hb);(try clear hb2);(try clear hk);(try clear hi))))
          go_ret2
          exact⟨fin1,bl⟩
        ·rw[if_neg c7] at H
         exact absurd H (by simp)
       ·rw[if_neg c6] at H
        exact absurd H (by simp)
      ·rw[if_neg c5] at H
       have c5b0:decide (x17_2<(l0.length:Int))=false:=decide_eq_false c5
       clear c5
       simp only[Option.some.injEq,Prod.mk.injEq] at H
       obtain⟨rfl,rfl⟩:=H
       go_wp2
       repeat(go_quiet (fail);try go_wp2)
       go_ret2
       exact⟨fin1,bl⟩

/-! ### slices_Index_int_int: function 47 -/
def slices_Index_int_int.l0:Nat→List Int→Int→Int→Int→Option (Int)
 | 0,_,_,_,_=>none
 | k+1,x0,x1,x7,x8=>if x8<x7 then(if 0≤x8 then(if x8<(x0.length:Int) then(if x1=(rd x0 x8) then(some x8) else(slices_Index_int_int.l0 k x0 x1 x7 (wrap64 (x8+1)))) else(none)) else(none)) else(some (-1))
def slices_Index_int_int.f (k:Nat) (l0:List Int) (a1:Int):Option (Int):=slices_Index_int_int.l0 k l0 a1 (l0.length:Int) 0
set_option maxHeartbeats 8000000 in
set_option maxRecDepth 100000 in
theorem slices_Index_int_int.calls (k:Nat) (A0:Option Addr) (c0:Nat) (l0:List Int) (a1:Int) (r:Int) (w:World) (hr0:Kd.C (Kd.int .i64) w A0 l0.length l0) (hc0:l0.length≤c0) (h:slices_Index_int_int.f k l0 a1=some r) :
  Calls Try.prog 47 #[.slice A0 l0.length c0,.int .i64 a1] w fun e w'=>e = .returned (.int .i64 r)∧Drawn0 w w':=by
 have HR0:=am hr0
 have HC0:=am hc0
 clear hr0 hc0
 have H:(slices_Index_int_int.l0 k l0 a1 (l0.length:Int) 0)=some r:=h
 clear h
 have H':=am H
 clear H
 go_enter Try.func47,Try.ntmps47
 go_wp2
 go_loopg [8] k (fun kq v8 w'=>∃(x8_1:Int),v8 = .int .i64 x8_1∧Aside0 (slices_Index_int_int.l0 kq l0 a1 (l0.length:Int) x8_1=some r)∧Aside0 (kq≤k)∧Drawn0 w w')
 case atStart=>exact⟨(0),fin2,H',⟨Nat.le_refl _⟩,by repeat(first|exact Drawn0.refl _|apply Drawn0.step)⟩
 case round =>
  clear H'
  try clear p2
  obtain⟨x8_1,rfl,HA,HK1,⟨m1,rfl⟩⟩:=hrel
  cases gk with
  | zero=>exact absurd HA.out (by simp [slices_Index_int_int.l0])
  | succ k1 =>
   have H:=HA.out
   clear HA
   simp only[slices_Index_int_int.l0] at H
   by_cases c3:x8_1<(l0.length:Int)
   ·rw[if_pos c3] at H
    have c3b0:decide (x8_1<(l0.length:Int))=true:=decide_eq_true c3
    clear c3
    by_cases c4:0≤x8_1
    ·rw[if_pos c4] at H
     have c4b0:decide (0≤x8_1)=true:=decide_eq_true c4
     clear c4
     by_cases c5:x8_1<(l0.length:Int)
     ·rw[if_pos c5] at H
      have c5b0:decide (x8_1<(l0.length:Int))=true:=decide_eq_true c5
      clear c5
      by_cases c6:a1=(rd l0 x8_1)
      ·rw[if_pos c6] at H
       have c6b0:(a1 == (rd l0 x8_1))=true:=beq_iff_eq.mpr c6
       have c6b1:(a1 != (rd l0 x8_1))=false:=bne_eq_false_iff_eq.mpr c6
       clear c6
       obtain rfl:=Option.some.inj H
       have p346:0≤(x8_1:Int):=od
       have q346:x8_1<(l0.length:Int):=od
       obtain⟨ad346,e346,hx346_0⟩:=Kd.at_int HR0.out x8_1 p346 q346
       cases e346
       replace p346:=eq_true p346
       replace q346:=eq_true q346
       go_wp2
       go_ret
       exact⟨by first|rfl|(simp;done)|(simp [*];done),by repeat(first|exact Drawn0.refl _|apply Drawn0.step)⟩
      ·rw[if_neg c6] at H
       have c6b0:(a1 == (rd l0 x8_1))=false:=beq_eq_false_iff_ne.mpr c6
       have c6b1:(a1 != (rd l0 x8_1))=true:=bne_iff_ne.mpr c6
       have H':=am H
       clear H
       have p346:0≤(x8_1:Int):=od
       have q346:x8_1<(l0.length:Int):=od
       obtain⟨ad346,e346,hx346_0⟩:=Kd.at_int HR0.out x8_1 p346 q346
       cases e346
       replace p346:=eq_true p346
       replace q346:=eq_true q346
       go_wp2
       go_roundg k1
       case measure=>have:=HK1.out;omega
       case rel=>exact⟨(wrap64 (x8_1+1)),fin2,H',⟨by have:=HK1.out;omega⟩,by repeat(first|exact Drawn0.refl _|apply Drawn0.step)⟩
     ·rw[if_neg c5] at H
      exact absurd H (by simp)
    ·rw[if_neg c4] at H
     exact absurd H (by simp)
   ·rw[if_neg c3] at H
    have c3b0:decide (x8_1<(l0.length:Int))=false:=decide_eq_false c3
    clear c3
    obtain rfl:=Option.some.inj H
    go_wp2
    go_ret
    exact⟨by first|rfl|(simp;done)|(simp [*];done),by repeat(first|exact Drawn0.refl _|apply Drawn0.step)⟩

/-! ### slices_Contains_int_int: function 42 -/
def slices_Contains_int_int.f (k:Nat) (l0:List Int) (a1:Int):Option (Bool):=(slices_Index_int_int.f k l0 a1).bind fun t347=>(some (decide (t347≥0)))
set_option maxHeartbeats 8000000 in
set_option maxRecDepth 100000 in
theorem slices_Contains_int_int.calls (k:Nat) (A0:Option Addr) (c0:Nat) (l0:List Int) (a1:Int) (r:Bool) (w:World) (hr0:Kd.C (Kd.int .i64) w A0 l0.length l0) (hc0:l0.length≤c0) (h:slices_Contains_int_int.f k l0 a1=some r) :
  Calls Try.prog 42 #[.slice A0 l0.length c0,.int .i64 a1] w fun e w'=>e = .returned (.bool r)∧Drawn0 w w':=by
 have HR0:=am hr0
 have HC0:=am hc0
 clear hr0 hc0
 have H:((slices_Index_int_int.f k l0 a1).bind fun t347=>(some (decide (t347≥0))))=some r:=h
 clear h
 replace H:=Option.bind_eq_some_iff.mp H
 obtain⟨t347,A30,H⟩:=H
 replace H:(some (decide (t347≥0)))=some r:=H
 have A3:=am A30
 clear A30
 obtain rfl:=Option.some.inj H
 go_enter Try.func42,Try.ntmps42
 go_wp2_with (first|((with_reducible refine gate_callee (f:=47) rfl ?_);refine goesL_ (some 7) rfl rfl Try.func47 (by kernel_rfl) rfl #[.slice A0 l0.length c0,.int .i64 a1] rfl tl ?_;(with_reducible refine(slices_Index_int_int.calls k _ _ l0 a1 t347 _ ?side1 ?side2 A3.out).mono ?_);(case side1=>repeat(first|exact HR0.out|(with_reducible refine Kd.C_alloc ?_ _)|(with_reducible refine Kd.C_drewN ?_ _)|(with_reducible refine Kd.C_drew ?_)));(case side2=>exact HC0.out);rintro e w' ⟨rfl,⟨nd,rfl⟩⟩;refine⟨_,rfl,?_⟩))
 go_ret
 exact⟨by first|rfl|(simp;done)|(simp [*];done),by repeat(first|exact Drawn0.refl _|apply Drawn0.step)⟩

/-! ### impl_beatsAt: function 32 -/
def impl_beatsAt.f (k:Nat) (a0_0:Int) (l0_1:List Int) (a1:Int):Option (Bool):=if a0_0=0 then(none) else((slices_Contains_int_int.f k l0_1 (Int.tmod a1 a0_0)).bind fun t349=>(some t349))
set_option maxHeartbeats 8000000 in
set_option maxRecDepth 100000 in
theorem impl_beatsAt.calls (k:Nat) (a0_0:Int) (A0_1:Option Addr) (c0_1:Nat) (l0_1:List Int) (a1:Int) (r:Bool) (w:World) (hr0_1:Kd.C (Kd.int .i64) w A0_1 l0_1.length l0_1) (hc0_1:l0_1.length≤c0_1) (h:impl_beatsAt.f k a0_0 l0_1 a1=some r) :
  Calls Try.prog 32 #[.agg #[.int .i64 a0_0,.slice A0_1 l0_1.length c0_1],.int .i64 a1] w fun e w'=>e = .returned (.bool r)∧Below w.heap.size w w':=by
 have hu26:=Try.underlying26
 have HR0_1:=am hr0_1
 have HC0_1:=am hc0_1
 clear hr0_1 hc0_1
 have HB:=am (Below.refl w.heap.size w)
 have H:(if a0_0=0 then(none) else((slices_Contains_int_int.f k l0_1 (Int.tmod a1 a0_0)).bind fun t349=>(some t349)))=some r:=h
 clear h
 by_cases c3:a0_0=0
 ·rw[if_pos c3] at H
  exact absurd H (by simp)
 ·rw[if_neg c3] at H
  have c3b0:(a0_0 == 0)=false:=beq_eq_false_iff_ne.mpr c3
  have c3b1:(a0_0 != 0)=true:=bne_iff_ne.mpr c3
  replace H:=Option.bind_eq_some_iff.mp H
  obtain⟨t349,A40,H⟩:=H
  replace H:(some t349)=some r:=H
  have A4:=am A40
  clear A40
  obtain rfl:=Option.some.inj H
  go_enter Try.func32,Try.ntmps32
  go_wp2_with (first|((with_reducible refine gate_dst (N:=2) rfl ?_);refine box_event ?hg (N:=2) ?hd (cs := #[.int .i64 a0_0,.slice A0_1 l0_1.length c0_1]) (t:=26) ?hr ?_;(case hd=>rfl);(case hg=>rfl);(case hr=>first|(go_simp;done)|(go_simp;rfl));intro gb348 hg w5 hbox hb;have n0_:=am (below_step bl hb);have n1_:=am (hbox);have n2_:=am (ge_ bl hg);have n3_:=am (ge_ bl hg);clear HB;have HB:=n0_;have BK348:=n1_;have GW348:=n2_;have GE348:=n3_;clear n0_ n1_ n2_ n3_ hb hbox hg;have hcz6_0:w5.cell? ⟨gb348,0,none⟩=some (.int .i64 a0_0):=(blk_cell BK348.out 0).trans rfl;have hcz6_1:w5.cell? ⟨gb348,1,none⟩=some (.slice A0_1 l0_1.length c0_1):=(blk_cell BK348.out 1).trans rfl;have hfz6_0:=blk_frozen BK348.out 0;have hfz6_1:=blk_frozen BK348.out 1)|(go_at_call 42;(with_reducible refine(slices_Contains_int_int.calls k _ _ l0_1 (Int.tmod a1 a0_0) t349 _ ?side1 ?side2 A4.out).mono ?_);(case side1=>exact cup (Kd.C_below HR0_1.out HB.out));(case side2=>exact HC0_1.out);rintro e w' ⟨rfl,⟨nd,rfl⟩⟩;(try first|exact⟨rfl,_,World.drewN_drewN _ _ _⟩|exact⟨rfl,_,Eq.trans (World.drewN_drewN _ _ _) (congrArg (World.drewN _) (Nat.add_assoc _ _ _))⟩)))
  repeat(go_quiet (first|((with_reducible refine gate_dst (N:=2) rfl ?_);refine box_event ?hg (N:=2) ?hd (cs := #[.int .i64 a0_0,.slice A0_1 l0_1.length c0_1]) (t:=26) ?hr ?_;(case hd=>rfl);(case hg=>rfl);(case hr=>first|(go_simp;done)|(go_simp;rfl));intro gb348 hg w5 hbox hb;have n0_:=am (below_step bl hb);have n1_:=am (hbox);have n2_:=am (ge_ bl hg);have n3_:=am (ge_ bl hg);clear HB;have HB:=n0_;have BK348:=n1_;have GW348:=n2_;have GE348:=n3_;clear n0_ n1_ n2_ n3_ hb hbox hg;have hcz6_0:w5.cell? ⟨gb348,0,none⟩=some (.int .i64 a0_0):=(blk_cell BK348.out 0).trans rfl;have hcz6_1:w5.cell? ⟨gb348,1,none⟩=some (.slice A0_1 l0_1.length c0_1):=(blk_cell BK348.out 1).trans rfl;have hfz6_0:=blk_frozen BK348.out 0;have hfz6_1:=blk_frozen BK348.out 1)|(go_at_call 42;(with_reducible refine(slices_Contains_int_int.calls k _ _ l0_1 (Int.tmod a1 a0_0) t349 _ ?side1 ?side2 A4.out).mono ?_);(case side1=>exact cup (Kd.C_below HR0_1.out HB.out));(case side2=>exact HC0_1.out);rintro e w' ⟨rfl,⟨nd,rfl⟩⟩;(try first|exact⟨rfl,_,World.drewN_drewN _ _ _⟩|exact⟨rfl,_,Eq.trans (World.drewN_drewN _ _ _) (congrArg (World.drewN _) (Nat.add_assoc _ _ _))⟩)));try go_wp2_with (first|((with_reducible refine gate_dst (N:=2) rfl ?_);refine box_event ?hg (N:=2) ?hd (cs := #[.int .i64 a0_0,.slice A0_1 l0_1.length c0_1]) (t:=26) ?hr ?_;(case hd=>rfl);(case hg=>rfl);(case hr=>first|(go_simp;done)|(go_simp;rfl));intro gb348 hg w5 hbox hb;have n0_:=am (below_step bl hb);have n1_:=am (hbox);have n2_:=am (ge_ bl hg);have n3_:=am (ge_ bl hg);clear HB;have HB:=n0_;have BK348:=n1_;have GW348:=n2_;have GE348:=n3_;clear n0_ n1_ n2_ n3_ hb hbox hg;have hcz6_0:w5.cell? ⟨gb348,0,none⟩=some (.int .i64 a0_0):=(blk_cell BK348.out 0).trans rfl;have hcz6_1:w5.cell? ⟨gb348,1,none⟩=some (.slice A0_1 l0_1.length c0_1):=(blk_cell BK348.out 1).trans rfl;have hfz6_0:=blk_frozen BK348.out 0;have hfz6_1:=blk_frozen BK348.out 1)|(go_at_call 42;(with_reducible refine(slices_Contains_int_int.calls k _ _ l0_1 (Int.tmod a1 a0_0) t349 _ ?side1 ?side2 A4.out).mono ?_);(case side1=>exact cup (Kd.C_below HR0_1.out HB.out));(case side2=>exact HC0_1.out);rintro e w' ⟨rfl,⟨nd,rfl⟩⟩;(try first|exact⟨rfl,_,World.drewN_drewN _ _ _⟩|exact⟨rfl,_,Eq.trans (World.drewN_drewN _ _ _) (congrArg (World.drewN _) (Nat.add_assoc _ _ _))⟩))))
  go_ret
  exact⟨fin1,bl⟩

end Go.Proofs.Ytlhjjpdlfddflac.PFnDrums
