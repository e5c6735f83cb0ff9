/- Walks of functions that FnStrikes reaches. No conditions beyond the arguments' being read. -/
import Derived.Test.YtiekokdlcgpcdaaSFnStrikes0
import Derived.Test.YtiekokdlcgpcdaaSFnStrikes2
import Derived.Test.YtiekokdlcgpcdaaSFnStrikes3
import Derived.Test.YtiekokdlcgpcdaaSFnStrikes4
import Derived.Test.YtiekokdlcgpcdaaSFnStrikes5
import Derived.Test.YtiekokdlcgpcdaaSFnStrikes6
import Derived.Test.YtiekokdlcgpcdaaSFnStrikes10
namespace Go.Proofs.Ytiekokdlcgpcdaa.PFnStrikes
open Go.RowKit Go.Proofs.YtiekokdlcgpcdaaW.PrintWords Go.Proofs.YtiekokdlcgpcdaaW.PrintLast Go.Proofs.YtiekokdlcgpcdaaW.PrintMore
attribute [local go_sem] max2_int min2_int max_two min_two max_three min_three max_four min_four
set_option linter.unusedVariables false
set_option linter.unusedSimpArgs false

mutual
def spec_DampersNeeded.j0:Nat→List (S41)→List (S45)→Int→Int→Bool→Option (List Int×Bool)
 | 0,_,_,_,_,_=>none
 | k+1,x0,x1,x2,x3,x25=>if x25=true then(some (([]:List Int),false)) else((spec_coGive.f k x0 x1 x2).bind fun bt507=>(if bt507.2=true then(spec_DampersNeeded.l0 k x0 x1 x3 bt507.1 ([]:List Int) bt507.1 (bt507.1.length:Int) 0) else(some (([]:List Int),false))))
def spec_DampersNeeded.l0:Nat→List (S41)→List (S45)→Int→List Int→List Int→List Int→Int→Int→Option (List Int×Bool)
 | 0,_,_,_,_,_,_,_,_=>none
 | k+1,x0,x1,x3,x10,x12,x35,x36,x37=>if x37<x36 then(if 0≤x37 then(if x37<(x35.length:Int) then(if x37≤(x10.length:Int) then(spec_DampersNeeded.l1 k x0 x1 x3 x10 x12 x37 (rd x35 x37) x35 x36 x37 ((x10.take (x37:Int).toNat).length:Int) 0) else(none)) else(none)) else(none)) else(some (x12,true))
def spec_DampersNeeded.l1:Nat→List (S41)→List (S45)→Int→List Int→List Int→Int→Int→List Int→Int→Int→Int→Int→Option (List Int×Bool)
 | 0,_,_,_,_,_,_,_,_,_,_,_,_=>none
 | k+1,x0,x1,x3,x10,x12,x13,x14,x35,x36,x37,x45,x46=>if x46<x45 then(if 0≤x46 then(if x46<(x10.length:Int) then(if(rd x10 x46)=x14 then(if 0≤x13 then(if x13<(x1.length:Int) then(if x46<(x1.length:Int) then(if(wrap64 (((rd_T45 x1 x13).f1) - ((rd_T45 x1 x46).f1)))<x3 then(if 0≤x14 then(if x14<(x0.length:Int) then(if((rd_T41 x0 x14).f2)=0 then((spec_l1Put.f k x12 x14).bind fun t520=>(spec_DampersNeeded.l1 k x0 x1 x3 x10 t520 x13 x14 x35 x36 x37 x45 (wrap64 (x46+1)))) else(spec_DampersNeeded.l1 k x0 x1 x3 x10 x12 x13 x14 x35 x36 x37 x45 (wrap64 (x46+1)))) else(none)) else(none)) else(spec_DampersNeeded.l1 k x0 x1 x3 x10 x12 x13 x14 x35 x36 x37 x45 (wrap64 (x46+1)))) else(none)) else(none)) else(none)) else(spec_DampersNeeded.l1 k x0 x1 x3 x10 x12 x13 x14 x35 x36 x37 x45 (wrap64 (x46+1)))) else(none)) else(none)) else(spec_DampersNeeded.l0 k x0 x1 x3 x10 x12 x35 x36 (wrap64 (x37+1)))
end
def spec_DampersNeeded.f (k:Nat) (l0:List (S41)) (l1:List (S45)) (a2:Int) (a3:Int):Option (List Int×Bool):=(spec_coAsked.f k l0 l1 a2).bind fun t505=>(if t505=true then((spec_l1In.f a3 1 500).bind fun t506=>(spec_DampersNeeded.j0 k l0 l1 a2 a3 (!t506))) else(spec_DampersNeeded.j0 k l0 l1 a2 a3 true))
set_option maxHeartbeats 8000000 in
set_option maxRecDepth 100000 in
theorem spec_DampersNeeded.calls (k:Nat) (A0:Option Addr) (c0:Nat) (l0:List (S41)) (A1:Option Addr) (c1:Nat) (l1:List (S45)) (a2:Int) (a3:Int) (r1:List Int) (r2:Bool) (w:World) (hr0:Kd.C k41 w A0 l0.length l0) (hc0:l0.length≤c0) (hr1:Kd.C k45 w A1 l1.length l1) (hc1:l1.length≤c1) (h:spec_DampersNeeded.f k l0 l1 a2 a3=some (r1,r2)) :
  Calls Try.prog 14 #[.slice A0 l0.length c0,.slice A1 l1.length c1,.int .i64 a2,.int .i64 a3] w fun e w'=>∃ v0_:Value,e = .returned (.tuple #[v0_,.bool r2])∧Kd.R (Kd.int .i64) 3 w' w.heap.size (fun _=>True) v0_ r1∧Below w.heap.size w w':=by
 have HR0:=am hr0
 have HC0:=am hc0
 clear hr0 hc0
 have HR1:=am hr1
 have HC1:=am hc1
 clear hr1 hc1
 have HB:=am (Below.refl w.heap.size w)
 have H:((spec_coAsked.f k l0 l1 a2).bind fun t505=>(if t505=true then((spec_l1In.f a3 1 500).bind fun t506=>(spec_DampersNeeded.j0 k l0 l1 a2 a3 (!t506))) else(spec_DampersNeeded.j0 k l0 l1 a2 a3 true)))=some (r1,r2):=h
 clear h
 have HC5:=am H
 clear H
 go_enter Try.func14,Try.ntmps14
 go_upto_region 1 with(fail)
 repeat(go_quiet (fail);go_upto_region 1 with(fail))
 go_cut [25] (fun v25 wc=>∃(kq:Nat) (x25_4:Bool),v25 = .bool x25_4∧Aside0 (spec_DampersNeeded.j0 kq l0 l1 a2 a3 x25_4=some (r1,r2))∧Aside0 (kq≤k)∧Aside0 (Below w.heap.size w wc))
 case first =>
  have H:=HC5.out
  clear HC5
  replace H:=Option.bind_eq_some_iff.mp H
  obtain⟨t505,A60,H⟩:=H
  replace H:(if t505=true then((spec_l1In.f a3 1 500).bind fun t506=>(spec_DampersNeeded.j0 k l0 l1 a2 a3 (!t506))) else(spec_DampersNeeded.j0 k l0 l1 a2 a3 true))=some (r1,r2):=H
  have A6:=am A60
  clear A60
  by_cases c7:t505=true
  ·subst c7
   replace H:=(if_pos rfl).symm.trans H
   replace H:=Option.bind_eq_some_iff.mp H
   obtain⟨t506,A80,H⟩:=H
   replace H:(spec_DampersNeeded.j0 k l0 l1 a2 a3 (!t506))=some (r1,r2):=H
   have A8:=am A80
   clear A80
   have H':=am H
   clear H
   go_wp2_with (first|(go_at_call 26;(with_reducible refine(spec_coAsked.calls k _ _ l0 _ _ l1 a2 true _ ?side1 ?side2 ?side3 ?side4 A6.out).mono ?_);(case side1=>exact cup (Kd.C_below HR0.out HB.out));(case side2=>exact HC0.out);(case side3=>exact cup (Kd.C_below HR1.out HB.out));(case side4=>exact HC1.out);rintro e w9 ⟨rfl,hb⟩;replace HB:=am (below_step bl hb);(try clear hb))|(go_at_call 29;(with_reducible refine(spec_l1In.calls a3 1 500 t506 _ A8.out).mono ?_);rintro e w' ⟨rfl,⟨nd,rfl⟩⟩;(try first|exact⟨rfl,_,World.drewN_drewN _ _ _⟩|exact⟨rfl,_,Eq.trans (World.drewN_drewN _ _ _) (congrArg (World.drewN _) (Nat.add_assoc _ _ _))⟩)))
   repeat(go_quiet (first|(go_at_call 26;(with_reducible refine(spec_coAsked.calls k _ _ l0 _ _ l1 a2 true _ ?side1 ?side2 ?side3 ?side4 A6.out).mono ?_);(case side1=>exact cup (Kd.C_below HR0.out HB.out));(case side2=>exact HC0.out);(case side3=>exact cup (Kd.C_below HR1.out HB.out));(case side4=>exact HC1.out);rintro e w9 ⟨rfl,hb⟩;replace HB:=am (below_step bl hb);(try clear hb))|(go_at_call 29;(with_reducible refine(spec_l1In.calls a3 1 500 t506 _ A8.out).mono ?_);rintro e w' ⟨rfl,⟨nd,rfl⟩⟩;(try first|exact⟨rfl,_,World.drewN_drewN _ _ _⟩|exact⟨rfl,_,Eq.trans (World.drewN_drewN _ _ _) (congrArg (World.drewN _) (Nat.add_assoc _ _ _))⟩)));try go_wp2_with (first|(go_at_call 26;(with_reducible refine(spec_coAsked.calls k _ _ l0 _ _ l1 a2 true _ ?side1 ?side2 ?side3 ?side4 A6.out).mono ?_);(case side1=>exact cup (Kd.C_below HR0.out HB.out));(case side2=>exact HC0.out);(case side3=>exact cup (Kd.C_below HR1.out HB.out));(case side4=>exact HC1.out);rintro e w9 ⟨rfl,hb⟩;replace HB:=am (below_step bl hb);(try clear hb))|(go_at_call 29;(with_reducible refine(spec_l1In.calls a3 1 500 t506 _ A8.out).mono ?_);rintro e w' ⟨rfl,⟨nd,rfl⟩⟩;(try first|exact⟨rfl,_,World.drewN_drewN _ _ _⟩|exact⟨rfl,_,Eq.trans (World.drewN_drewN _ _ _) (congrArg (World.drewN _) (Nat.add_assoc _ _ _))⟩))))
   go_meet
   case rel=>exact⟨_,(!t506),fin2,H',⟨by first|omega|exact Nat.le_refl _⟩,⟨bl⟩⟩
  ·replace c7:=Bool.eq_false_iff.mpr c7
   subst c7
   replace H:=(if_neg Bool.false_ne_true).symm.trans H
   have H':=am H
   clear H
   go_wp2_with (first|(go_at_call 26;(with_reducible refine(spec_coAsked.calls k _ _ l0 _ _ l1 a2 false _ ?side1 ?side2 ?side3 ?side4 A6.out).mono ?_);(case side1=>exact cup (Kd.C_below HR0.out HB.out));(case side2=>exact HC0.out);(case side3=>exact cup (Kd.C_below HR1.out HB.out));(case side4=>exact HC1.out);rintro e w10 ⟨rfl,hb⟩;replace HB:=am (below_step bl hb);(try clear hb)))
   repeat(go_quiet (first|(go_at_call 26;(with_reducible refine(spec_coAsked.calls k _ _ l0 _ _ l1 a2 false _ ?side1 ?side2 ?side3 ?side4 A6.out).mono ?_);(case side1=>exact cup (Kd.C_below HR0.out HB.out));(case side2=>exact HC0.out);(case side3=>exact cup (Kd.C_below HR1.out HB.out));(case side4=>exact HC1.out);rintro e w10 ⟨rfl,hb⟩;replace HB:=am (below_step bl hb);(try clear hb)));try go_wp2_with (first|(go_at_call 26;(with_reducible refine(spec_coAsked.calls k _ _ l0 _ _ l1 a2 false _ ?side1 ?side2 ?side3 ?side4 A6.out).mono ?_);(case side1=>exact cup (Kd.C_below HR0.out HB.out));(case side2=>exact HC0.out);(case side3=>exact cup (Kd.C_below HR1.out HB.out));(case side4=>exact HC1.out);rintro e w10 ⟨rfl,hb⟩;replace HB:=am (below_step bl hb);(try clear hb))))
   go_meet
   case rel=>exact⟨_,(true),fin2,H',⟨by first|omega|exact Nat.le_refl _⟩,⟨bl⟩⟩
 case rest =>
  clear HC5
  obtain⟨kq,x25_4,rfl,HA,HJ4,HB⟩:=hcut
  cases kq with
  | zero=>exact absurd HA.out (by simp [spec_DampersNeeded.j0])
  | succ kj4 =>
   have H:=HA.out
   clear HA
   simp only[spec_DampersNeeded.j0] at H
   by_cases c11:x25_4=true
   ·subst c11
    replace H:=(if_pos rfl).symm.trans H
    simp only[Option.some.injEq,Prod.mk.injEq] at H
    obtain⟨rfl,rfl⟩:=H
    go_wp2
    repeat(go_quiet (fail);try go_wp2)
    go_ret2
    exact⟨_,fin1,by first|exact Kd.R_nil _ _ _ _ _|exact Kd.N_nil _ _ _ _ _|exact Kd.V_nil _ _ _ _ _|exact Kd.Q_nil _ _ _ _ _|exact Kd.S_nil _ _ _ _ _,bl⟩
   ·replace c11:=Bool.eq_false_iff.mpr c11
    subst c11
    replace H:=(if_neg Bool.false_ne_true).symm.trans H
    replace H:=Option.bind_eq_some_iff.mp H
    obtain⟨⟨t507,t508⟩,A120,H⟩:=H
    replace H:(if t508=true then(spec_DampersNeeded.l0 kj4 l0 l1 a3 t507 ([]:List Int) t507 (t507.length:Int) 0) else(some (([]:List Int),false)))=some (r1,r2):=H
    have A12:=am A120
    clear A120
    by_cases c13:t508=true
    ·subst c13
     replace H:=(if_pos rfl).symm.trans H
     have H':=am H
     clear H
     go_wp2_with (first|(go_at_call 27;(with_reducible refine(spec_coGive.calls kj4 _ _ l0 _ _ l1 a2 t507 true _ ?side1 ?side2 ?side3 ?side4 A12.out).mono ?_);(case side1=>exact cup (Kd.C_below HR0.out HB.out));(case side2=>exact HC0.out);(case side3=>exact cup (Kd.C_below HR1.out HB.out));(case side4=>exact HC1.out);rintro e w14 ⟨v509,rfl,ho0,hb⟩;have HO510:=am (Kd.R_lower ho0 (below_size bl));replace HB:=am (below_step bl hb);(try clear hb);(try clear ho0);obtain⟨Ao15,co15,eo15⟩:=Kd.R_slice HO510.out;subst eo15))
     repeat(go_quiet (first|(go_at_call 27;(with_reducible refine(spec_coGive.calls kj4 _ _ l0 _ _ l1 a2 t507 true _ ?side1 ?side2 ?side3 ?side4 A12.out).mono ?_);(case side1=>exact cup (Kd.C_below HR0.out HB.out));(case side2=>exact HC0.out);(case side3=>exact cup (Kd.C_below HR1.out HB.out));(case side4=>exact HC1.out);rintro e w14 ⟨v509,rfl,ho0,hb⟩;have HO510:=am (Kd.R_lower ho0 (below_size bl));replace HB:=am (below_step bl hb);(try clear hb);(try clear ho0);obtain⟨Ao15,co15,eo15⟩:=Kd.R_slice HO510.out;subst eo15));try go_wp2_with (first|(go_at_call 27;(with_reducible refine(spec_coGive.calls kj4 _ _ l0 _ _ l1 a2 t507 true _ ?side1 ?side2 ?side3 ?side4 A12.out).mono ?_);(case side1=>exact cup (Kd.C_below HR0.out HB.out));(case side2=>exact HC0.out);(case side3=>exact cup (Kd.C_below HR1.out HB.out));(case side4=>exact HC1.out);rintro e w14 ⟨v509,rfl,ho0,hb⟩;have HO510:=am (Kd.R_lower ho0 (below_size bl));replace HB:=am (below_step bl hb);(try clear hb);(try clear ho0);obtain⟨Ao15,co15,eo15⟩:=Kd.R_slice HO510.out;subst eo15)))
     go_loopg [12,37] kj4 (fun kq v12 v37 w'=>∃(x12_2:List Int) (x37_2:Int),v37 = .int .i64 x37_2∧Aside0 (spec_DampersNeeded.l0 kq l0 l1 a3 t507 x12_2 t507 (t507.length:Int) x37_2=some (r1,r2))∧Aside0 (kq≤kj4)∧Aside0 (Kd.R (Kd.int .i64) 3 w' w.heap.size (fun k_=>some k_≠(v12:Value).ownBlock) (.slice Ao15 t507.length co15) t507)∧Aside0 (Kd.R (Kd.int .i64) 3 w' w.heap.size (fun k_=>some k_≠((.slice Ao15 t507.length co15):Value).ownBlock∧some k_≠((.slice Ao15 t507.length co15):Value).ownBlock) v12 x12_2)∧Aside0 (Kd.R (Kd.int .i64) 3 w' w.heap.size (fun k_=>some k_≠(v12:Value).ownBlock) (.slice Ao15 t507.length co15) t507)∧Aside0 (Below w.heap.size w w'))
     case atStart=>exact⟨(([]:List Int)),(0),fin2,H',⟨Nat.le_refl _⟩,⟨rup (Kd.R_mono HO510.out (fun _ hk=>(by simp [Value.ownBlock])))⟩,⟨by first|exact Kd.R_nil _ _ _ _ _|exact Kd.N_nil _ _ _ _ _|exact Kd.V_nil _ _ _ _ _|exact Kd.Q_nil _ _ _ _ _|exact Kd.S_nil _ _ _ _ _⟩,⟨rup (Kd.R_mono HO510.out (fun _ hk=>(by simp [Value.ownBlock])))⟩,⟨bl⟩⟩
     case round =>
      clear H'
      try clear c11
      try clear c13
      obtain⟨x12_2,x37_2,rfl,HA,HK2,HO_10,HO_12,HO_35,HB⟩:=hrel
      cases gk with
      | zero=>exact absurd HA.out (by simp [spec_DampersNeeded.l0])
      | succ k2 =>
       have H:=HA.out
       clear HA
       simp only[spec_DampersNeeded.l0] at H
       rcases itc H with⟨c16,H⟩|⟨c16,H⟩
       ·have c16b0:=decide_eq_true c16
        clear c16
        obtain⟨c17b0,H⟩:=ifb H
        obtain⟨c18b0,H⟩:=ifb H
        have c19b0:=eq_true (od:0≤x37_2)
        obtain⟨c20,H⟩:=ifp H
        have c20b0:=eq_true c20
        have c20b1:decide (x37_2≤(t507.length:Int))=true:=decide_eq_true c20
        clear c20
        obtain⟨y512,hy512⟩:∃ y_:List Int,y_=(t507.take (x37_2:Int).toNat):=⟨_,rfl⟩
        replace H:(spec_DampersNeeded.l1 k2 l0 l1 a3 t507 x12_2 x37_2 (rd t507 x37_2) t507 (t507.length:Int) x37_2 (y512.length:Int) 0)=some (r1,r2):=by subst hy512;exact H
        have Ny512:=am hy512
        clear hy512
        have H':=am H
        clear H
        have p511:0≤(x37_2:Int):=od
        have q511:x37_2<(t507.length:Int):=od
        obtain⟨ad511,e511,hx511_0⟩:=Kd.at_int (Kd.R_reads' HO_35.out).2.2 x37_2 p511 q511
        cases e511
        replace p511:=eq_true p511
        replace q511:=eq_true q511
        have q21:(x37_2:Int)≤((t507.length:Int):Int):=od
        obtain⟨i021,hi021,_,hsz21,_⟩:=info_parts info3
        have hroom21:t507.length≤co15:=(Kd.R_reads' HO_10.out).2.1
        have hC21:Kd.C (Kd.int .i64) _ (some ad511) t507.length t507:=(Kd.R_reads' HO_10.out).2.2
        have hcut21:=cut_to (P:=Try.prog) 27 3 .i64 Try.underlying27 hi021 (some ad511) t507.length co15 x37_2 (od) q21 hroom21
        have hr21:=Kd.C_take (m:=(x37_2:Int).toNat) hC21 (by omega)
        have hy21:y512.length=(x37_2:Int).toNat:=(by rw[Ny512.out,List.length_take];omega)
        rw[← Ny512.out] at hr21
        rw[← hy21] at hcut21
        have HR515:=am hr21
        have HC515:=am (show y512.length≤co15 from by omega)
        clear hr21 hC21 hroom21 hi021 hsz21
        have KY21:=am hy21
        clear hy21
        have KL21:=am (show(x37_2:Int).toNat≤t507.length from by omega)
        replace q21:=eq_true q21
        go_wp2
        repeat(go_quiet (fail);try go_wp2)
        go_loopg [12,46] k2 (fun kq v12 v46 w'=>∃(x12_3:List Int) (x46_3:Int),v46 = .int .i64 x46_3∧Aside0 (spec_DampersNeeded.l1 kq l0 l1 a3 t507 x12_3 x37_2 (rd t507 x37_2) t507 (t507.length:Int) x37_2 (y512.length:Int) x46_3=some (r1,r2))∧Aside0 (kq≤k2)∧Aside0 (Kd.R (Kd.int .i64) 3 w' w.heap.size (fun k_=>some k_≠(v12:Value).ownBlock) (.slice (some ad511) t507.length co15) t507)∧Aside0 (Kd.R (Kd.int .i64) 3 w' w.heap.size (fun k_=>some k_≠((.slice (some ad511) t507.length co15):Value).ownBlock∧some k_≠((.slice (some ad511) t507.length co15):Value).ownBlock) v12 x12_3)∧Aside0 (Kd.R (Kd.int .i64) 3 w' w.heap.size (fun k_=>some k_≠(v12:Value).ownBlock) (.slice (some ad511) t507.length co15) t507)∧Aside0 (Below w.heap.size w w'))
        case atStart=>exact⟨(x12_2),(0),fin2,H',⟨Nat.le_refl _⟩,⟨rup HO_10.out⟩,⟨rup HO_12.out⟩,⟨rup HO_35.out⟩,⟨bl⟩⟩
        case round =>
         clear H'
         try clear c16b0
         try clear c17b0
         try clear c18b0
         try clear c19b0
         try clear c20b0
         try clear c20b1
         try clear q21
         try clear hx511_0
         try clear p511
         try clear q511
         obtain⟨x12_3,x46_3,rfl,HA,HK3,HO_10,HO_12,HO_35,HB⟩:=hrel
         cases gk with
         | zero=>exact absurd HA.out (by simp [spec_DampersNeeded.l1])
         | succ k3 =>
          have H:=HA.out
          clear HA
          simp only[spec_DampersNeeded.l1] at H
          rcases itc H with⟨c22,H⟩|⟨c22,H⟩
          ·have c22b0:=decide_eq_true c22
           clear c22
           obtain⟨c23b0,H⟩:=ifb H
           obtain⟨c24b0,H⟩:=ifb H
           rcases itc H with⟨c25,H⟩|⟨c25,H⟩
           ·have c25b0:((rd t507 x46_3) == (rd t507 x37_2))=true:=beq_iff_eq.mpr c25
            have c25b1:((rd t507 x46_3) != (rd t507 x37_2))=false:=bne_eq_false_iff_eq.mpr c25
            clear c25
            obtain⟨c26b0,H⟩:=ifb H
            obtain⟨c27b0,H⟩:=ifb H
            obtain⟨c28b0,H⟩:=ifb H
            rcases itc H with⟨c29,H⟩|⟨c29,H⟩
            ·have c29b0:=decide_eq_true c29
             clear c29
             obtain⟨c30b0,H⟩:=ifb H
             obtain⟨c31b0,H⟩:=ifb H
             rcases itc H with⟨c32,H⟩|⟨c32,H⟩
             ·have c32b0:(((rd_T41 l0 (rd t507 x37_2)).f2) == 0)=true:=beq_iff_eq.mpr c32
              have c32b1:(((rd_T41 l0 (rd t507 x37_2)).f2) != 0)=false:=bne_eq_false_iff_eq.mpr c32
              clear c32
              replace H:=Option.bind_eq_some_iff.mp H
              obtain⟨t520,A330,H⟩:=H
              replace H:(spec_DampersNeeded.l1 k3 l0 l1 a3 t507 t520 x37_2 (rd t507 x37_2) t507 (t507.length:Int) x37_2 (y512.length:Int) (wrap64 (x46_3+1)))=some (r1,r2):=H
              have A33:=am A330
              clear A330
              have H':=am H
              clear H
              have p516:0≤(x46_3:Int):=od
              have q516:x46_3<(t507.length:Int):=od
              obtain⟨ad516,e516,hx516_0⟩:=Kd.at_int (Kd.R_reads' HO_10.out).2.2 x46_3 p516 q516
              obtain rfl:ad511=ad516:=(by injection e516)
              replace p516:=eq_true p516
              replace q516:=eq_true q516
              have p517:0≤(x37_2:Int):=od
              have q517:x37_2<(l1.length:Int):=od
              obtain⟨ad517,e517,hx517_0,hx517_1⟩:=at_T45 HR1.out x37_2 p517 q517
              cases e517
              replace hx517_0:=(HB.out.cell (World.block_lt_of_cell? w _ hx517_0)).trans hx517_0
              replace hx517_1:=(HB.out.cell (World.block_lt_of_cell? w _ hx517_1)).trans hx517_1
              replace p517:=eq_true p517
              replace q517:=eq_true q517
              have p518:0≤(x46_3:Int):=od
              have q518:x46_3<(l1.length:Int):=od
              obtain⟨ad518,e518,hx518_0,hx518_1⟩:=at_T45 HR1.out x46_3 p518 q518
              obtain rfl:ad517=ad518:=(by injection e518)
              replace hx518_0:=(HB.out.cell (World.block_lt_of_cell? w _ hx518_0)).trans hx518_0
              replace hx518_1:=(HB.out.cell (World.block_lt_of_cell? w _ hx518_1)).trans hx518_1
              replace p518:=eq_true p518
              replace q518:=eq_true q518
              have p519:0≤((rd t507 x37_2):Int):=od
              have q519:(rd t507 x37_2)<(l0.length:Int):=od
              obtain⟨ad519,e519,hx519_0,hx519_1,hx519_2⟩:=at_T41 HR0.out (rd t507 x37_2) p519 q519
              cases e519
              replace hx519_0:=(HB.out.cell (World.block_lt_of_cell? w _ hx519_0)).trans hx519_0
              replace hx519_1:=(HB.out.cell (World.block_lt_of_cell? w _ hx519_1)).trans hx519_1
              replace hx519_2:=(HB.out.cell (World.block_lt_of_cell? w _ hx519_2)).trans hx519_2
              replace p519:=eq_true p519
              replace q519:=eq_true q519
              obtain⟨Ao34,co34,eo34⟩:=Kd.R_slice HO_12.out
              subst eo34
              go_wp2_with (first|(go_at_call 33;(with_reducible refine(spec_l1Put.calls k3 (fun k_=>some k_=(.slice Ao34 x12_3.length co34:Value).ownBlock) (.slice Ao34 x12_3.length co34) x12_3 (rd t507 x37_2) t520 w _ ?side1 ?side2 A33.out).mono ?_);(case side1=>repeat(first|(with_reducible first|exact HB.out|apply below_alloc|apply pw_below_drewN|apply below_drew1)|exact HB.out));(case side2=>exact Kd.R_tight rfl HO_12.out);rintro e w35 ⟨v521,rfl,ho0,hb,hkp⟩;have HO522:=am (Kd.R_mono (ok':=fun k_=>some k_≠(.slice (some ad511) t507.length co15:Value).ownBlock∧some k_≠(.slice (some ad511) t507.length co15:Value).ownBlock) ho0 (fun k_ hk_=>⟨Or.elim hk_ (fun hs_=>fun e_=>(((HO_10.out).1 k_ e_.symm)) hs_) (fun hn_=>(Kd.fresh' (Kd.R_lt (rup HO_10.out)) k_ hn_)),Or.elim hk_ (fun hs_=>fun e_=>(((HO_35.out).1 k_ e_.symm)) hs_) (fun hn_=>(Kd.fresh' (Kd.R_lt (rup HO_35.out)) k_ hn_))⟩));replace HO_10:=am (Kd.R_mono (ok':=fun k_=>some k_≠(v521:Value).ownBlock) (Kd.R_keptB (HO_10.out) hkp (fun k_ hk_ hs_=>(hk_) hs_)) (fun k_ hk_=>fun e_=>Or.elim (ho0.1 k_ e_.symm) (fun hs_=>hk_.2.1 hs_) (fun hn_=>Nat.not_le.2 hk_.2.2 hn_)));replace HO_35:=am (Kd.R_mono (ok':=fun k_=>some k_≠(v521:Value).ownBlock) (Kd.R_keptB (HO_35.out) hkp (fun k_ hk_ hs_=>(hk_) hs_)) (fun k_ hk_=>fun e_=>Or.elim (ho0.1 k_ e_.symm) (fun hs_=>hk_.2.1 hs_) (fun hn_=>Nat.not_le.2 hk_.2.2 hn_)));replace HB:=am (hb);clear HO_12;(try clear hb);(try clear hkp);(try clear ho0)))
              repeat(go_quiet (first|(go_at_call 33;(with_reducible refine(spec_l1Put.calls k3 (fun k_=>some k_=(.slice Ao34 x12_3.length co34:Value).ownBlock) (.slice Ao34 x12_3.length co34) x12_3 (rd t507 x37_2) t520 w _ ?side1 ?side2 A33.out).mono ?_);(case side1=>repeat(first|(with_reducible first|exact HB.out|apply below_alloc|apply pw_below_drewN|apply below_drew1)|exact HB.out));(case side2=>exact Kd.R_tight rfl HO_12.out);rintro e w35 ⟨v521,rfl,ho0,hb,hkp⟩;have HO522:=am (Kd.R_mono (ok':=fun k_=>some k_≠(.slice (some ad511) t507.length co15:Value).ownBlock∧some k_≠(.slice (some ad511) t507.length co15:Value).ownBlock) ho0 (fun k_ hk_=>⟨Or.elim hk_ (fun hs_=>fun e_=>(((HO_10.out).1 k_ e_.symm)) hs_) (fun hn_=>(Kd.fresh' (Kd.R_lt (rup HO_10.out)) k_ hn_)),Or.elim hk_ (fun hs_=>fun e_=>(((HO_35.out).1 k_ e_.symm)) hs_) (fun hn_=>(Kd.fresh' (Kd.R_lt (rup HO_35.out)) k_ hn_))⟩));replace HO_10:=am (Kd.R_mono (ok':=fun k_=>some k_≠(v521:Value).ownBlock) (Kd.R_keptB (HO_10.out) hkp (fun k_ hk_ hs_=>(hk_) hs_)) (fun k_ hk_=>fun e_=>Or.elim (ho0.1 k_ e_.symm) (fun hs_=>hk_.2.1 hs_) (fun hn_=>Nat.not_le.2 hk_.2.2 hn_)));replace HO_35:=am (Kd.R_mono (ok':=fun k_=>some k_≠(v521:Value).ownBlock) (Kd.R_keptB (HO_35.out) hkp (fun k_ hk_ hs_=>(hk_) hs_)) (fun k_ hk_=>fun e_=>Or.elim (ho0.1 k_ e_.symm) (fun hs_=>hk_.2.1 hs_) (fun hn_=>Nat.not_le.2 hk_.2.2 hn_)));replace HB:=am (hb);clear HO_12;(try clear hb);(try clear hkp);(try clear ho0)));try go_wp2_with (first|(go_at_call 33;(with_reducible refine(spec_l1Put.calls k3 (fun k_=>some k_=(.slice Ao34 x12_3.length co34:Value).ownBlock) (.slice Ao34 x12_3.length co34) x12_3 (rd t507 x37_2) t520 w _ ?side1 ?side2 A33.out).mono ?_);(case side1=>repeat(first|(with_reducible first|exact HB.out|apply below_alloc|apply pw_below_drewN|apply below_drew1)|exact HB.out));(case side2=>exact Kd.R_tight rfl HO_12.out);rintro e w35 ⟨v521,rfl,ho0,hb,hkp⟩;have HO522:=am (Kd.R_mono (ok':=fun k_=>some k_≠(.slice (some ad511) t507.length co15:Value).ownBlock∧some k_≠(.slice (some ad511) t507.length co15:Value).ownBlock) ho0 (fun k_ hk_=>⟨Or.elim hk_ (fun hs_=>fun e_=>(((HO_10.out).1 k_ e_.symm)) hs_) (fun hn_=>(Kd.fresh' (Kd.R_lt (rup HO_10.out)) k_ hn_)),Or.elim hk_ (fun hs_=>fun e_=>(((HO_35.out).1 k_ e_.symm)) hs_) (fun hn_=>(Kd.fresh' (Kd.R_lt (rup HO_35.out)) k_ hn_))⟩));replace HO_10:=am (Kd.R_mono (ok':=fun k_=>some k_≠(v521:Value).ownBlock) (Kd.R_keptB (HO_10.out) hkp (fun k_ hk_ hs_=>(hk_) hs_)) (fun k_ hk_=>fun e_=>Or.elim (ho0.1 k_ e_.symm) (fun hs_=>hk_.2.1 hs_) (fun hn_=>Nat.not_le.2 hk_.2.2 hn_)));replace HO_35:=am (Kd.R_mono (ok':=fun k_=>some k_≠(v521:Value).ownBlock) (Kd.R_keptB (HO_35.out) hkp (fun k_ hk_ hs_=>(hk_) hs_)) (fun k_ hk_=>fun e_=>Or.elim (ho0.1 k_ e_.symm) (fun hs_=>hk_.2.1 hs_) (fun hn_=>Nat.not_le.2 hk_.2.2 hn_)));replace HB:=am (hb);clear HO_12;(try clear hb);(try clear hkp);(try clear ho0))))
              go_roundg k3
              case measure=>have:=HJ4.out;have:=HK2.out;have:=HK3.out;omega
              case rel=>exact⟨(t520),(wrap64 (x46_3+1)),fin2,H',⟨by have:=HJ4.out;have:=HK2.out;have:=HK3.out;omega⟩,⟨rup HO_10.out⟩,⟨rup HO522.out⟩,⟨rup HO_35.out⟩,⟨bl⟩⟩
             ·have c32b0:(((rd_T41 l0 (rd t507 x37_2)).f2) == 0)=false:=beq_eq_false_iff_ne.mpr c32
              have c32b1:(((rd_T41 l0 (rd t507 x37_2)).f2) != 0)=true:=bne_iff_ne.mpr c32
              have H':=am H
              clear H
              have p516:0≤(x46_3:Int):=od
              have q516:x46_3<(t507.length:Int):=od
              obtain⟨ad516,e516,hx516_0⟩:=Kd.at_int (Kd.R_reads' HO_10.out).2.2 x46_3 p516 q516
              obtain rfl:ad511=ad516:=(by injection e516)
              replace p516:=eq_true p516
              replace q516:=eq_true q516
              have p517:0≤(x37_2:Int):=od
              have q517:x37_2<(l1.length:Int):=od
              obtain⟨ad517,e517,hx517_0,hx517_1⟩:=at_T45 HR1.out x37_2 p517 q517
              cases e517
              replace hx517_0:=(HB.out.cell (World.block_lt_of_cell? w _ hx517_0)).trans hx517_0
              replace hx517_1:=(HB.out.cell (World.block_lt_of_cell? w _ hx517_1)).trans hx517_1
              replace p517:=eq_true p517
              replace q517:=eq_true q517
              have p518:0≤(x46_3:Int):=od
              have q518:x46_3<(l1.length:Int):=od
              obtain⟨ad518,e518,hx518_0,hx518_1⟩:=at_T45 HR1.out x46_3 p518 q518
              obtain rfl:ad517=ad518:=(by injection e518)
              replace hx518_0:=(HB.out.cell (World.block_lt_of_cell? w _ hx518_0)).trans hx518_0
              replace hx518_1:=(HB.out.cell (World.block_lt_of_cell? w _ hx518_1)).trans hx518_1
              replace p518:=eq_true p518
              replace q518:=eq_true q518
              have p519:0≤((rd t507 x37_2):Int):=od
              have q519:(rd t507 x37_2)<(l0.length:Int):=od
              obtain⟨ad519,e519,hx519_0,hx519_1,hx519_2⟩:=at_T41 HR0.out (rd t507 x37_2) p519 q519
              cases e519
              replace hx519_0:=(HB.out.cell (World.block_lt_of_cell? w _ hx519_0)).trans hx519_0
              replace hx519_1:=(HB.out.cell (World.block_lt_of_cell? w _ hx519_1)).trans hx519_1
              replace hx519_2:=(HB.out.cell (World.block_lt_of_cell? w _ hx519_2)).trans hx519_2
              replace p519:=eq_true p519
              replace q519:=eq_true q519
              go_wp2
              repeat(go_quiet (fail);try go_wp2)
              go_roundg k3
              case measure=>have:=HJ4.out;have:=HK2.out;have:=HK3.out;omega
              case rel=>exact⟨(x12_3),(wrap64 (x46_3+1)),fin2,H',⟨by have:=HJ4.out;have:=HK2.out;have:=HK3.out;omega⟩,⟨rup HO_10.out⟩,⟨rup HO_12.out⟩,⟨rup HO_35.out⟩,⟨bl⟩⟩
            ·have c29b0:=decide_eq_false c29
             clear c29
             have H':=am H
             clear H
             have p516:0≤(x46_3:Int):=od
             have q516:x46_3<(t507.length:Int):=od
             obtain⟨ad516,e516,hx516_0⟩:=Kd.at_int (Kd.R_reads' HO_10.out).2.2 x46_3 p516 q516
             obtain rfl:ad511=ad516:=(by injection e516)
             replace p516:=eq_true p516
             replace q516:=eq_true q516
             have p517:0≤(x37_2:Int):=od
             have q517:x37_2<(l1.length:Int):=od
             obtain⟨ad517,e517,hx517_0,hx517_1⟩:=at_T45 HR1.out x37_2 p517 q517
             cases e517
             replace hx517_0:=(HB.out.cell (World.block_lt_of_cell? w _ hx517_0)).trans hx517_0
             replace hx517_1:=(HB.out.cell (World.block_lt_of_cell? w _ hx517_1)).trans hx517_1
             replace p517:=eq_true p517
             replace q517:=eq_true q517
             have p518:0≤(x46_3:Int):=od
             have q518:x46_3<(l1.length:Int):=od
             obtain⟨ad518,e518,hx518_0,hx518_1⟩:=at_T45 HR1.out x46_3 p518 q518
             obtain rfl:ad517=ad518:=(by injection e518)
             replace hx518_0:=(HB.out.cell (World.block_lt_of_cell? w _ hx518_0)).trans hx518_0
             replace hx518_1:=(HB.out.cell (World.block_lt_of_cell? w _ hx518_1)).trans hx518_1
             replace p518:=eq_true p518
             replace q518:=eq_true q518
             go_wp2
             repeat(go_quiet (fail);try go_wp2)
             go_roundg k3
             case measure=>have:=HJ4.out;have:=HK2.out;have:=HK3.out;omega
             case rel=>exact⟨(x12_3),(wrap64 (x46_3+1)),fin2,H',⟨by have:=HJ4.out;have:=HK2.out;have:=HK3.out;omega⟩,⟨rup HO_10.out⟩,⟨rup HO_12.out⟩,⟨rup HO_35.out⟩,⟨bl⟩⟩
           ·have c25b0:((rd t507 x46_3) == (rd t507 x37_2))=false:=beq_eq_false_iff_ne.mpr c25
            have c25b1:((rd t507 x46_3) != (rd t507 x37_2))=true:=bne_iff_ne.mpr c25
            have H':=am H
            clear H
            have p516:0≤(x46_3:Int):=od
            have q516:x46_3<(t507.length:Int):=od
            obtain⟨ad516,e516,hx516_0⟩:=Kd.at_int (Kd.R_reads' HO_10.out).2.2 x46_3 p516 q516
            obtain rfl:ad511=ad516:=(by injection e516)
            replace p516:=eq_true p516
            replace q516:=eq_true q516
            go_wp2
            repeat(go_quiet (fail);try go_wp2)
            go_roundg k3
            case measure=>have:=HJ4.out;have:=HK2.out;have:=HK3.out;omega
            case rel=>exact⟨(x12_3),(wrap64 (x46_3+1)),fin2,H',⟨by have:=HJ4.out;have:=HK2.out;have:=HK3.out;omega⟩,⟨rup HO_10.out⟩,⟨rup HO_12.out⟩,⟨rup HO_35.out⟩,⟨bl⟩⟩
          ·have c22b0:=decide_eq_false c22
           clear c22
           have H':=am H
           clear H
           go_wp2
           repeat(go_quiet (fail);try go_wp2)
           go_roundg k3
           case measure=>have:=HJ4.out;have:=HK2.out;have:=HK3.out;omega
           case rel=>exact⟨(x12_3),(wrap64 (x37_2+1)),fin2,H',⟨by have:=HJ4.out;have:=HK2.out;have:=HK3.out;omega⟩,⟨rup HO_10.out⟩,⟨rup HO_12.out⟩,⟨rup HO_35.out⟩,⟨bl⟩⟩
       ·have c16b0:=decide_eq_false c16
        clear c16
        simp only[Option.some.injEq,Prod.mk.injEq] at H
        obtain⟨rfl,rfl⟩:=H
        go_wp2
        repeat(go_quiet (fail);try go_wp2)
        go_ret2
        exact⟨_,fin1,rup (Kd.R_mono HO_12.out (fun _ hk=>trivial)),bl⟩
    ·replace c13:=Bool.eq_false_iff.mpr c13
     subst c13
     replace H:=(if_neg Bool.false_ne_true).symm.trans H
     simp only[Option.some.injEq,Prod.mk.injEq] at H
     obtain⟨rfl,rfl⟩:=H
     go_wp2_with (first|(go_at_call 27;(with_reducible refine(spec_coGive.calls kj4 _ _ l0 _ _ l1 a2 t507 false _ ?side1 ?side2 ?side3 ?side4 A12.out).mono ?_);(case side1=>exact cup (Kd.C_below HR0.out HB.out));(case side2=>exact HC0.out);(case side3=>exact cup (Kd.C_below HR1.out HB.out));(case side4=>exact HC1.out);rintro e w36 ⟨v509,rfl,ho0,hb⟩;have HO510:=am (Kd.R_lower ho0 (below_size bl));replace HB:=am (below_step bl hb);(try clear hb);(try clear ho0)))
     repeat(go_quiet (first|(go_at_call 27;(with_reducible refine(spec_coGive.calls kj4 _ _ l0 _ _ l1 a2 t507 false _ ?side1 ?side2 ?side3 ?side4 A12.out).mono ?_);(case side1=>exact cup (Kd.C_below HR0.out HB.out));(case side2=>exact HC0.out);(case side3=>exact cup (Kd.C_below HR1.out HB.out));(case side4=>exact HC1.out);rintro e w36 ⟨v509,rfl,ho0,hb⟩;have HO510:=am (Kd.R_lower ho0 (below_size bl));replace HB:=am (below_step bl hb);(try clear hb);(try clear ho0)));try go_wp2_with (first|(go_at_call 27;(with_reducible refine(spec_coGive.calls kj4 _ _ l0 _ _ l1 a2 t507 false _ ?side1 ?side2 ?side3 ?side4 A12.out).mono ?_);(case side1=>exact cup (Kd.C_below HR0.out HB.out));(case side2=>exact HC0.out);(case side3=>exact cup (Kd.C_below HR1.out HB.out));(case side4=>exact HC1.out);rintro e w36 ⟨v509,rfl,ho0,hb⟩;have HO510:=am (Kd.R_lower ho0 (below_size bl));replace HB:=am (below_step bl hb);(try clear hb);(try clear ho0))))
     go_ret2
     exact⟨_,fin1,by first|exact Kd.R_nil _ _ _ _ _|exact Kd.N_nil _ _ _ _ _|exact Kd.V_nil _ _ _ _ _|exact Kd.Q_nil _ _ _ _ _|exact Kd.S_nil _ _ _ _ _,bl⟩

def laws_qInts.l0:Nat→List Int→List Int→Int→Int→Option (Bool)
 | 0,_,_,_,_=>none
 | k+1,x0,x1,x12,x13=>if x13<x12 then(if 0≤x13 then(if x13<(x0.length:Int) then(if x13<(x1.length:Int) then(if(rd x0 x13)=(rd x1 x13) then(laws_qInts.l0 k x0 x1 x12 (wrap64 (x13+1))) else(some false)) else(none)) else(none)) else(none)) else(some true)
def laws_qInts.f (k:Nat) (l0:List Int) (l1:List Int):Option (Bool):=if(l0.length:Int)=(l1.length:Int) then(laws_qInts.l0 k l0 l1 (l0.length:Int) 0) else(some false)
set_option maxHeartbeats 8000000 in
set_option maxRecDepth 100000 in
theorem laws_qInts.calls (k:Nat) (A0:Option Addr) (c0:Nat) (l0:List Int) (A1:Option Addr) (c1:Nat) (l1:List Int) (r:Bool) (w:World) (hr0:Kd.C (Kd.int .i64) w A0 l0.length l0) (hc0:l0.length≤c0) (hr1:Kd.C (Kd.int .i64) w A1 l1.length l1) (hc1:l1.length≤c1) (h:laws_qInts.f k l0 l1=some r) :
  Calls Try.prog 15 #[.slice A0 l0.length c0,.slice A1 l1.length c1] w fun e w'=>e = .returned (.bool r)∧Drawn0 w w':=by
 have HR0:=am hr0
 have HC0:=am hc0
 clear hr0 hc0
 have HR1:=am hr1
 have HC1:=am hc1
 clear hr1 hc1
 have H:(if(l0.length:Int)=(l1.length:Int) then(laws_qInts.l0 k l0 l1 (l0.length:Int) 0) else(some false))=some r:=h
 clear h
 rcases itc H with⟨c3,H⟩|⟨c3,H⟩
 ·have c3b0:((l0.length:Int) == (l1.length:Int))=true:=beq_iff_eq.mpr c3
  have c3b1:((l0.length:Int) != (l1.length:Int))=false:=bne_eq_false_iff_eq.mpr c3
  have c3b2:(l0.length == l1.length)=true:=by first|simpa using c3|(simp at c3 ⊢;omega)
  clear c3
  have H':=am H
  clear H
  go_enter Try.func15,Try.ntmps15
  go_wp2
  repeat(go_quiet (fail);try go_wp2)
  go_loopg [13] k (fun kq v13 w'=>∃(x13_1:Int),v13 = .int .i64 x13_1∧Aside0 (laws_qInts.l0 kq l0 l1 (l0.length:Int) x13_1=some r)∧Aside0 (kq≤k)∧Drawn0 w w')
  case atStart=>exact⟨(0),fin2,H',⟨Nat.le_refl _⟩,by repeat(first|exact Drawn0.refl _|apply Drawn0.step)⟩
  case round =>
   clear H'
   try clear c3b0
   try clear c3b1
   try clear c3b2
   obtain⟨x13_1,rfl,HA,HK1,⟨m1,rfl⟩⟩:=hrel
   cases gk with
   | zero=>exact absurd HA.out (by simp [laws_qInts.l0])
   | succ k1 =>
    have H:=HA.out
    clear HA
    simp only[laws_qInts.l0] at H
    rcases itc H with⟨c4,H⟩|⟨c4,H⟩
    ·have c4b0:=decide_eq_true c4
     clear c4
     obtain⟨c5b0,H⟩:=ifb H
     obtain⟨c6b0,H⟩:=ifb H
     obtain⟨c7b0,H⟩:=ifb H
     rcases itc H with⟨c8,H⟩|⟨c8,H⟩
     ·have c8b0:((rd l0 x13_1) == (rd l1 x13_1))=true:=beq_iff_eq.mpr c8
      have c8b1:((rd l0 x13_1) != (rd l1 x13_1))=false:=bne_eq_false_iff_eq.mpr c8
      clear c8
      have H':=am H
      clear H
      have p523:0≤(x13_1:Int):=od
      have q523:x13_1<(l0.length:Int):=od
      obtain⟨ad523,e523,hx523_0⟩:=Kd.at_int HR0.out x13_1 p523 q523
      cases e523
      replace p523:=eq_true p523
      replace q523:=eq_true q523
      have p524:0≤(x13_1:Int):=od
      have q524:x13_1<(l1.length:Int):=od
      obtain⟨ad524,e524,hx524_0⟩:=Kd.at_int HR1.out x13_1 p524 q524
      cases e524
      replace p524:=eq_true p524
      replace q524:=eq_true q524
      go_wp2
      repeat(go_quiet (fail);try go_wp2)
      go_roundg k1
      case measure=>have:=HK1.out;omega
      case rel=>exact⟨(wrap64 (x13_1+1)),fin2,H',⟨by have:=HK1.out;omega⟩,by repeat(first|exact Drawn0.refl _|apply Drawn0.step)⟩
     ·have c8b0:((rd l0 x13_1) == (rd l1 x13_1))=false:=beq_eq_false_iff_ne.mpr c8
      have c8b1:((rd l0 x13_1) != (rd l1 x13_1))=true:=bne_iff_ne.mpr c8
      obtain rfl:=Option.some.inj H
      have p523:0≤(x13_1:Int):=od
      have q523:x13_1<(l0.length:Int):=od
      obtain⟨ad523,e523,hx523_0⟩:=Kd.at_int HR0.out x13_1 p523 q523
      cases e523
      replace p523:=eq_true p523
      replace q523:=eq_true q523
      have p524:0≤(x13_1:Int):=od
      have q524:x13_1<(l1.length:Int):=od
      obtain⟨ad524,e524,hx524_0⟩:=Kd.at_int HR1.out x13_1 p524 q524
      cases e524
      replace p524:=eq_true p524
      replace q524:=eq_true q524
      go_wp2
      repeat(go_quiet (fail);try go_wp2)
      go_ret
      exact⟨by first|rfl|(simp;done)|(simp [*];done),by repeat(first|exact Drawn0.refl _|apply Drawn0.step)⟩
    ·have c4b0:=decide_eq_false c4
     clear c4
     obtain rfl:=Option.some.inj H
     go_wp2
     repeat(go_quiet (fail);try go_wp2)
     go_ret
     exact⟨by first|rfl|(simp;done)|(simp [*];done),by repeat(first|exact Drawn0.refl _|apply Drawn0.step)⟩
 ·have c3b0:((l0.length:Int) == (l1.length:Int))=false:=beq_eq_false_iff_ne.mpr c3
  have c3b1:((l0.length:Int) != (l1.length:Int))=true:=bne_iff_ne.mpr c3
  have c3b2:(l0.length == l1.length)=false:=by first|simpa using c3|(simp at c3 ⊢;omega)
  obtain rfl:=Option.some.inj H
  go_enter Try.func15,Try.ntmps15
  go_wp2
  repeat(go_quiet (fail);try go_wp2)
  go_ret
  exact⟨by first|rfl|(simp;done)|(simp [*];done),by repeat(first|exact Drawn0.refl _|apply Drawn0.step)⟩

def spec_AreStrikes.f (k:Nat) (l0:List (S45)):Option (Bool):=(spec_coStrikes.f k l0).bind fun t525=>(some t525)
set_option maxHeartbeats 8000000 in
set_option maxRecDepth 100000 in
theorem spec_AreStrikes.calls (k:Nat) (A0:Option Addr) (c0:Nat) (l0:List (S45)) (r:Bool) (w:World) (hr0:Kd.C k45 w A0 l0.length l0) (hc0:l0.length≤c0) (h:spec_AreStrikes.f k l0=some r) :
  Calls Try.prog 17 #[.slice A0 l0.length c0] w fun e w'=>e = .returned (.bool r)∧Below w.heap.size w w':=by
 have HR0:=am hr0
 have HC0:=am hc0
 clear hr0 hc0
 have HB:=am (Below.refl w.heap.size w)
 have H:((spec_coStrikes.f k l0).bind fun t525=>(some t525))=some r:=h
 clear h
 obtain⟨t525,A2,H⟩:=bnd H
 obtain rfl:=Option.some.inj H
 go_enter Try.func17,Try.ntmps17
 go_wp2_with (first|((with_reducible refine gate_callee (f:=28) rfl ?_);refine goesL_ (some 4) rfl rfl Try.func28 (by kernel_rfl) rfl #[.slice A0 l0.length c0] rfl tl ?_;(with_reducible refine(spec_coStrikes.calls k _ _ l0 t525 _ ?side1 ?side2 A2.out).mono ?_);(case side1=>repeat(first|exact HR0.out|(with_reducible refine Kd.C_alloc ?_ _)|(with_reducible refine Kd.C_drewN ?_ _)|(with_reducible refine Kd.C_drew ?_)));(case side2=>exact HC0.out);rintro e w3 ⟨rfl,hb⟩;refine⟨_,rfl,?_⟩;replace HB:=am (below_step bl hb);(try clear hb)))
 go_ret
 exact⟨fin1,bl⟩

def impl_TeethOf.f (k:Nat) (l0:List (S41)) (a1:Int):Option (List Int×Bool):=(impl_IsComb.f k l0).bind fun t526=>(if t526=true then((impl_isPitch.f a1).bind fun t527=>(if t527=true then((impl_teethOf.f k l0 a1).bind fun t528=>(some (t528,true))) else(some (([]:List Int),false)))) else(some (([]:List Int),false)))
set_option maxHeartbeats 8000000 in
set_option maxRecDepth 100000 in
theorem impl_TeethOf.calls (k:Nat) (A0:Option Addr) (c0:Nat) (l0:List (S41)) (a1:Int) (r1:List Int) (r2:Bool) (w:World) (hr0:Kd.C k41 w A0 l0.length l0) (hc0:l0.length≤c0) (h:impl_TeethOf.f k l0 a1=some (r1,r2)) :
  Calls Try.prog 19 #[.slice A0 l0.length c0,.int .i64 a1] w fun e w'=>∃ v0_:Value,e = .returned (.tuple #[v0_,.bool r2])∧Kd.R (Kd.int .i64) 3 w' w.heap.size (fun _=>True) v0_ r1∧Below w.heap.size w w':=by
 have HR0:=am hr0
 have HC0:=am hc0
 clear hr0 hc0
 have HB:=am (Below.refl w.heap.size w)
 have H:((impl_IsComb.f k l0).bind fun t526=>(if t526=true then((impl_isPitch.f a1).bind fun t527=>(if t527=true then((impl_teethOf.f k l0 a1).bind fun t528=>(some (t528,true))) else(some (([]:List Int),false)))) else(some (([]:List Int),false))))=some (r1,r2):=h
 clear h
 replace H:=Option.bind_eq_some_iff.mp H
 obtain⟨t526,A30,H⟩:=H
 replace H:(if t526=true then((impl_isPitch.f a1).bind fun t527=>(if t527=true then((impl_teethOf.f k l0 a1).bind fun t528=>(some (t528,true))) else(some (([]:List Int),false)))) else(some (([]:List Int),false)))=some (r1,r2):=H
 have A3:=am A30
 clear A30
 by_cases c4:t526=true
 ·subst c4
  replace H:=(if_pos rfl).symm.trans H
  replace H:=Option.bind_eq_some_iff.mp H
  obtain⟨t527,A50,H⟩:=H
  replace H:(if t527=true then((impl_teethOf.f k l0 a1).bind fun t528=>(some (t528,true))) else(some (([]:List Int),false)))=some (r1,r2):=H
  have A5:=am A50
  clear A50
  by_cases c6:t527=true
  ·subst c6
   replace H:=(if_pos rfl).symm.trans H
   replace H:=Option.bind_eq_some_iff.mp H
   obtain⟨t528,A70,H⟩:=H
   replace H:(some (t528,true))=some (r1,r2):=H
   have A7:=am A70
   clear A70
   simp only[Option.some.injEq,Prod.mk.injEq] at H
   obtain⟨rfl,rfl⟩:=H
   go_enter Try.func19,Try.ntmps19
   go_wp2_with (first|((with_reducible refine gate_callee (f:=18) rfl ?_);refine goesL_ (some 7) rfl rfl Try.func18 (by kernel_rfl) rfl #[.slice A0 l0.length c0] rfl tl ?_;(with_reducible refine(impl_IsComb.calls k _ _ l0 true _ ?side1 ?side2 A3.out).mono ?_);(case side1=>repeat(first|exact HR0.out|(with_reducible refine Kd.C_alloc ?_ _)|(with_reducible refine Kd.C_drewN ?_ _)|(with_reducible refine Kd.C_drew ?_)));(case side2=>exact HC0.out);rintro e w8 ⟨rfl,hb⟩;refine⟨_,rfl,?_⟩;replace HB:=am (below_step bl hb);(try clear hb))|(go_at_call 34;(with_reducible refine(impl_isPitch.calls a1 true _ A5.out).mono ?_);rintro e w' ⟨rfl,⟨nd,rfl⟩⟩)|((with_reducible refine gate_callee (f:=36) rfl ?_);refine goesL_ (some 16) rfl rfl Try.func36 (by kernel_rfl) rfl #[.slice A0 l0.length c0,.int .i64 a1] rfl tl ?_;(with_reducible refine(impl_teethOf.calls k _ _ l0 a1 t528 _ ?side1 ?side2 A7.out).mono ?_);(case side1=>repeat(first|exact(Kd.C_below HR0.out bl)|(with_reducible refine Kd.C_alloc ?_ _)|(with_reducible refine Kd.C_drewN ?_ _)|(with_reducible refine Kd.C_drew ?_)));(case side2=>exact HC0.out);rintro e w9 ⟨v529,rfl,ho0,hb⟩;refine⟨_,rfl,?_⟩;have HO530:=am (Kd.R_lower ho0 (below_size bl));replace HB:=am (below_step bl hb);(try clear hb);(try clear ho0)))
   go_ret2
   exact⟨_,fin1,by(with_reducible repeat(first|apply Kd.R_alloc|apply Kd.R_drewN|apply Kd.R_drew));exact HO530.out,bl⟩
  ·replace c6:=Bool.eq_false_iff.mpr c6
   subst c6
   replace H:=(if_neg Bool.false_ne_true).symm.trans H
   simp only[Option.some.injEq,Prod.mk.injEq] at H
   obtain⟨rfl,rfl⟩:=H
   go_enter Try.func19,Try.ntmps19
   go_wp2_with (first|((with_reducible refine gate_callee (f:=18) rfl ?_);refine goesL_ (some 7) rfl rfl Try.func18 (by kernel_rfl) rfl #[.slice A0 l0.length c0] rfl tl ?_;(with_reducible refine(impl_IsComb.calls k _ _ l0 true _ ?side1 ?side2 A3.out).mono ?_);(case side1=>repeat(first|exact HR0.out|(with_reducible refine Kd.C_alloc ?_ _)|(with_reducible refine Kd.C_drewN ?_ _)|(with_reducible refine Kd.C_drew ?_)));(case side2=>exact HC0.out);rintro e w10 ⟨rfl,hb⟩;refine⟨_,rfl,?_⟩;replace HB:=am (below_step bl hb);(try clear hb))|(go_at_call 34;(with_reducible refine(impl_isPitch.calls a1 false _ A5.out).mono ?_);rintro e w' ⟨rfl,⟨nd,rfl⟩⟩))
   go_ret2
   exact⟨_,fin1,by first|exact Kd.R_nil _ _ _ _ _|exact Kd.N_nil _ _ _ _ _|exact Kd.V_nil _ _ _ _ _|exact Kd.Q_nil _ _ _ _ _|exact Kd.S_nil _ _ _ _ _,bl⟩
 ·replace c4:=Bool.eq_false_iff.mpr c4
  subst c4
  replace H:=(if_neg Bool.false_ne_true).symm.trans H
  simp only[Option.some.injEq,Prod.mk.injEq] at H
  obtain⟨rfl,rfl⟩:=H
  go_enter Try.func19,Try.ntmps19
  go_wp2_with (first|((with_reducible refine gate_callee (f:=18) rfl ?_);refine goesL_ (some 7) rfl rfl Try.func18 (by kernel_rfl) rfl #[.slice A0 l0.length c0] rfl tl ?_;(with_reducible refine(impl_IsComb.calls k _ _ l0 false _ ?side1 ?side2 A3.out).mono ?_);(case side1=>repeat(first|exact HR0.out|(with_reducible refine Kd.C_alloc ?_ _)|(with_reducible refine Kd.C_drewN ?_ _)|(with_reducible refine Kd.C_drew ?_)));(case side2=>exact HC0.out);rintro e w11 ⟨rfl,hb⟩;refine⟨_,rfl,?_⟩;replace HB:=am (below_step bl hb);(try clear hb)))
  go_ret2
  exact⟨_,fin1,by first|exact Kd.R_nil _ _ _ _ _|exact Kd.N_nil _ _ _ _ _|exact Kd.V_nil _ _ _ _ _|exact Kd.Q_nil _ _ _ _ _|exact Kd.S_nil _ _ _ _ _,bl⟩

end Go.Proofs.Ytiekokdlcgpcdaa.PFnStrikes
