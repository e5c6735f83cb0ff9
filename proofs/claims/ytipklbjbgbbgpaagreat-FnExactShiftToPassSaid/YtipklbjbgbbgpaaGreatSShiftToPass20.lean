/- Walks of functions that FnExactShiftToPass reaches. No conditions beyond the arguments' being read. -/
import Derived.Test.YtipklbjbgbbgpaaGreatSShiftToPass0
import Derived.Test.YtipklbjbgbbgpaaGreatSShiftToPass19
namespace Go.Proofs.YtipklbjbgbbgpaaGreat.PFnExactShiftToPass
open Go.RowKit Go.Proofs.YtipklbjbgbbgpaaGreatW.PrintWords Go.Proofs.YtipklbjbgbbgpaaGreatW.PrintLast Go.Proofs.YtipklbjbgbbgpaaGreatW.PrintMore
attribute [local go_sem] max2_int min2_int max_two min_two max_three min_three max_four min_four
set_option linter.unusedVariables false
set_option linter.unusedSimpArgs false

def laws_eqNoteS.l0:Nat→List (S55)→List (S55)→Int→Option (Bool)
 | 0,_,_,_=>none
 | k+1,x0,x1,x5=>if x5<(x0.length:Int) then(if 0≤x5 then(if x5<(x1.length:Int) then((laws_eqNote.f ((rd_T55 x0 x5).f0) ((rd_T55 x0 x5).f1) ((rd_T55 x0 x5).f2) ((rd_T55 x1 x5).f0) ((rd_T55 x1 x5).f1) ((rd_T55 x1 x5).f2)).bind fun t484=>(if t484=true then(laws_eqNoteS.l0 k x0 x1 (wrap64 (x5+1))) else(some false))) else(none)) else(none)) else(some true)
def laws_eqNoteS.f (k:Nat) (l0:List (S55)) (l1:List (S55)):Option (Bool):=if(l0.length:Int)=(l1.length:Int) then(laws_eqNoteS.l0 k l0 l1 0) else(some false)
def laws_eqNoteS.T6:Bool×List (List Nat×List Nat):=(true,[([],[]),([],[]),([0,1],[0,1]),([2],[2]),([],[]),([],[]),([4,5],[4,5]),([6],[6]),([3,7],[3,7]),([8],[8])])
def laws_eqNoteS.B6:List Nat:=[0,0,3,7,0,0,48,112,255,511]
theorem laws_eqNoteS.tab6:rtab .any (opsOf Tryz.f14 6)=laws_eqNoteS.T6:=by kernel_rfl
theorem laws_eqNoteS.bits6:waitsOk laws_eqNoteS.T6.2 laws_eqNoteS.B6=true:=by kernel_rfl
set_option maxHeartbeats 8000000 in
set_option maxRecDepth 100000 in
theorem laws_eqNoteS.calls (k:Nat) (A0:Option Addr) (c0:Nat) (l0:List (S55)) (A1:Option Addr) (c1:Nat) (l1:List (S55)) (r:Bool) (w:World) (hr0:Kd.C k55 w A0 l0.length l0) (hc0:l0.length≤c0) (hr1:Kd.C k55 w A1 l1.length l1) (hc1:l1.length≤c1) (h:laws_eqNoteS.f k l0 l1=some r) :
  Calls Tryz.prog 14 #[.slice A0 l0.length c0,.slice A1 l1.length c1] w fun e w'=>e = .returned (.bool r)∧Below w.heap.size w w':=by
 have hu55:=Tryz.underlying55
 have HR0:=am hr0
 have HC0:=am hc0
 clear hr0 hc0
 have HR1:=am hr1
 have HC1:=am hc1
 clear hr1 hc1
 have HB:=am (Below.refl w.heap.size w)
 have H:(if(l0.length:Int)=(l1.length:Int) then(laws_eqNoteS.l0 k l0 l1 0) else(some false))=some r:=h
 clear h
 rcases itc H with⟨c3,H⟩|⟨c3,H⟩
 ·have c3b0:((l0.length:Int) == (l1.length:Int))=true:=beq_iff_eq.mpr c3
  have c3b1:((l0.length:Int) != (l1.length:Int))=false:=bne_eq_false_iff_eq.mpr c3
  have c3b2:(l0.length == l1.length)=true:=by first|simpa using c3|(simp at c3 ⊢;omega)
  clear c3
  have H':=am H
  clear H
  go_enter Tryz.func14,Tryz.ntmps14
  go_wp2
  go_loopg [5] k (fun kq v5 w'=>∃(x5_1:Int),v5 = .int .i64 x5_1∧Aside0 (laws_eqNoteS.l0 kq l0 l1 x5_1=some r)∧Aside0 (kq≤k)∧Aside0 (Below w.heap.size w w'))
  case atStart=>exact⟨(0),fin2,H',⟨Nat.le_refl _⟩,⟨bl⟩⟩
  case round =>
   clear H'
   try clear c3b0
   try clear c3b1
   try clear c3b2
   obtain⟨x5_1,rfl,HA,HK1,HB⟩:=hrel
   cases gk with
   | zero=>exact absurd HA.out (by simp [laws_eqNoteS.l0])
   | succ k1 =>
    have H:=HA.out
    clear HA
    simp only[laws_eqNoteS.l0] at H
    rcases itc H with⟨c4,H⟩|⟨c4,H⟩
    ·have c4b0:=decide_eq_true c4
     clear c4
     obtain⟨c5b0,H⟩:=ifb H
     obtain⟨c6b0,H⟩:=ifb H
     obtain⟨t484,A7,H⟩:=bnd H
     by_cases c8:t484=true
     ·subst c8
      replace H:=(if_pos rfl).symm.trans H
      have H':=am H
      clear H
      try go_wp2
      replace HB:=am (below_drew1 HB.out)
      have p482:0≤(x5_1:Int):=od
      have q482:x5_1<(l0.length:Int):=od
      obtain⟨ad482,e482,hx482_0,hx482_1,hx482_2⟩:=at_T55 HR0.out x5_1 p482 q482
      have hw482_2:=hx482_2
      have hw482_1:=hx482_1
      have hw482_0:=hx482_0
      cases e482
      replace hx482_0:=(HB.out.cell (World.block_lt_of_cell? w _ hx482_0)).trans hx482_0
      replace hx482_1:=(HB.out.cell (World.block_lt_of_cell? w _ hx482_1)).trans hx482_1
      replace hx482_2:=(HB.out.cell (World.block_lt_of_cell? w _ hx482_2)).trans hx482_2
      replace p482:=eq_true p482
      replace q482:=eq_true q482
      have p483:0≤(x5_1:Int):=od
      have q483:x5_1<(l1.length:Int):=od
      obtain⟨ad483,e483,hx483_0,hx483_1,hx483_2⟩:=at_T55 HR1.out x5_1 p483 q483
      have hw483_2:=hx483_2
      have hw483_1:=hx483_1
      have hw483_0:=hx483_0
      cases e483
      replace hx483_0:=(HB.out.cell (World.block_lt_of_cell? w _ hx483_0)).trans hx483_0
      replace hx483_1:=(HB.out.cell (World.block_lt_of_cell? w _ hx483_1)).trans hx483_1
      replace hx483_2:=(HB.out.cell (World.block_lt_of_cell? w _ hx483_2)).trans hx483_2
      replace p483:=eq_true p483
      replace q483:=eq_true q483
      refine start_ (n:=10) (S:=fun w'=>w'.cell? (ad482.add ((x5_1).toNat*3))=some (.int .i64 ((rd_T55 l0 x5_1).f0))∧w'.cell? ⟨(ad482.add ((x5_1).toNat*3)).block,(ad482.add ((x5_1).toNat*3)).off+1,none⟩=some (.int .i64 ((rd_T55 l0 x5_1).f1))∧w'.cell? ⟨(ad482.add ((x5_1).toNat*3)).block,(ad482.add ((x5_1).toNat*3)).off+2,none⟩=some (.int .i64 ((rd_T55 l0 x5_1).f2))∧w'.cell? (ad483.add ((x5_1).toNat*3))=some (.int .i64 ((rd_T55 l1 x5_1).f0))∧w'.cell? ⟨(ad483.add ((x5_1).toNat*3)).block,(ad483.add ((x5_1).toNat*3)).off+1,none⟩=some (.int .i64 ((rd_T55 l1 x5_1).f1))∧w'.cell? ⟨(ad483.add ((x5_1).toNat*3)).block,(ad483.add ((x5_1).toNat*3)).off+2,none⟩=some (.int .i64 ((rd_T55 l1 x5_1).f2))) (ds:=[]) (fl 0 10) (by kernel_rfl) rfl rfl ⟨((HB.out.cell (World.block_lt_of_cell? w _ hw482_0)).trans hw482_0),((HB.out.cell (World.block_lt_of_cell? w _ hw482_1)).trans hw482_1),((HB.out.cell (World.block_lt_of_cell? w _ hw482_2)).trans hw482_2),((HB.out.cell (World.block_lt_of_cell? w _ hw483_0)).trans hw483_0),((HB.out.cell (World.block_lt_of_cell? w _ hw483_1)).trans hw483_1),((HB.out.cell (World.block_lt_of_cell? w _ hw483_2)).trans hw483_2)⟩ (fun hHeld=>?_);refine with_tabW laws_eqNoteS.tab6 laws_eqNoteS.bits6 (fun HT_ HW_=>?_)
      generalize wr.drew=w9 at HB hx482_0 hx482_1 hx482_2 hx483_0 hx483_1 hx483_2 hHeld ⊢
      refine pu HT_.out 0 (some 17) (fl 1 10) (h:=?_)
      refine pu HT_.out 1 (some 18) (fl 2 10) (h:=?_)
      refine pu HT_.out 2 (some 19) (fl 3 10) (h:=?_)
      refine pu HT_.out 4 (some 21) #[true,true,true,false,true,false,false,false,false,false] (h:=?_)
      refine pu HT_.out 5 (some 22) #[true,true,true,false,true,true,false,false,false,false] (h:=?_)
      refine pu HT_.out 6 (some 23) #[true,true,true,false,true,true,true,false,false,false] (h:=?_)
      refine ta HT_.out HW_.out 3 (some 20) (fl 7 10) hHeld rfl (by rintro w' ⟨s0,s1,s2,s3,s4,s5⟩;go_simp;with_reducible rfl) (h:=?_)
      refine ta HT_.out HW_.out 7 (some 24) (fl 8 10) hHeld rfl (by rintro w' ⟨s0,s1,s2,s3,s4,s5⟩;go_simp;with_reducible rfl) (h:=?_)
      refine one_ (i:=8) (N:=some 25) (fl 9 10) rfl rfl (one_of HT_.out (by kernel_rfl)) (by decide) (fun K hK=>?_)
      refine goes_ Tryz.func30 (by kernel_rfl) rfl #[.agg #[.int .i64 ((rd_T55 l0 x5_1).f0),.int .i64 ((rd_T55 l0 x5_1).f1),.int .i64 ((rd_T55 l0 x5_1).f2)],.agg #[.int .i64 ((rd_T55 l1 x5_1).f0),.int .i64 ((rd_T55 l1 x5_1).f1),.int .i64 ((rd_T55 l1 x5_1).f2)]] (by rfl) rfl rfl tl ?_
      with_reducible refine(laws_eqNote.calls ((rd_T55 l0 x5_1).f0) ((rd_T55 l0 x5_1).f1) ((rd_T55 l0 x5_1).f2) ((rd_T55 l1 x5_1).f0) ((rd_T55 l1 x5_1).f1) ((rd_T55 l1 x5_1).f2) true _ A7.out).mono ?_
      rintro e w10 ⟨rfl,hb⟩
      refine⟨_,rfl,?_⟩
      replace HB:=am (below_step bl hb)
      (try clear hb)
      refine hK.out _ _ ⟨((HB.out.cell (World.block_lt_of_cell? w _ hw482_0)).trans hw482_0),((HB.out.cell (World.block_lt_of_cell? w _ hw482_1)).trans hw482_1),((HB.out.cell (World.block_lt_of_cell? w _ hw482_2)).trans hw482_2),((HB.out.cell (World.block_lt_of_cell? w _ hw483_0)).trans hw483_0),((HB.out.cell (World.block_lt_of_cell? w _ hw483_1)).trans hw483_1),((HB.out.cell (World.block_lt_of_cell? w _ hw483_2)).trans hw483_2)⟩ (fun hHeld=>?_)
      clear hK K
      refine norm_ (a':=?_) ?_ ?_
      rotate_left
      ·show Act.put _ (some 25) _=_
       simp only[Act.put,List.setIfInBounds_toArray,List.set_cons_zero,List.set_cons_succ,i64_w,i32_w]
       rfl
      refine pu HT_.out 9 (some 26) (fl 10 10) (h:=?_)
      refine done_ (done_of HT_.out (by kernel_rfl)) ?_
      try go_wp2
      go_roundg k1
      case measure=>have:=HK1.out;omega
      case rel=>exact⟨(wrap64 (x5_1+1)),fin2,H',⟨by have:=HK1.out;omega⟩,⟨bl⟩⟩
     ·replace c8:=Bool.eq_false_iff.mpr c8
      subst c8
      replace H:=(if_neg Bool.false_ne_true).symm.trans H
      obtain rfl:=Option.some.inj H
      try go_wp2
      replace HB:=am (below_drew1 HB.out)
      have p482:0≤(x5_1:Int):=od
      have q482:x5_1<(l0.length:Int):=od
      obtain⟨ad482,e482,hx482_0,hx482_1,hx482_2⟩:=at_T55 HR0.out x5_1 p482 q482
      have hw482_2:=hx482_2
      have hw482_1:=hx482_1
      have hw482_0:=hx482_0
      cases e482
      replace hx482_0:=(HB.out.cell (World.block_lt_of_cell? w _ hx482_0)).trans hx482_0
      replace hx482_1:=(HB.out.cell (World.block_lt_of_cell? w _ hx482_1)).trans hx482_1
      replace hx482_2:=(HB.out.cell (World.block_lt_of_cell? w _ hx482_2)).trans hx482_2
      replace p482:=eq_true p482
      replace q482:=eq_true q482
      have p483:0≤(x5_1:Int):=od
      have q483:x5_1<(l1.length:Int):=od
      obtain⟨ad483,e483,hx483_0,hx483_1,hx483_2⟩:=at_T55 HR1.out x5_1 p483 q483
      have hw483_2:=hx483_2
      have hw483_1:=hx483_1
      have hw483_0:=hx483_0
      cases e483
      replace hx483_0:=(HB.out.cell (World.block_lt_of_cell? w _ hx483_0)).trans hx483_0
      replace hx483_1:=(HB.out.cell (World.block_lt_of_cell? w _ hx483_1)).trans hx483_1
      replace hx483_2:=(HB.out.cell (World.block_lt_of_cell? w _ hx483_2)).trans hx483_2
      replace p483:=eq_true p483
      replace q483:=eq_true q483
      refine start_ (n:=10) (S:=fun w'=>w'.cell? (ad482.add ((x5_1).toNat*3))=some (.int .i64 ((rd_T55 l0 x5_1).f0))∧w'.cell? ⟨(ad482.add ((x5_1).toNat*3)).block,(ad482.add ((x5_1).toNat*3)).off+1,none⟩=some (.int .i64 ((rd_T55 l0 x5_1).f1))∧w'.cell? ⟨(ad482.add ((x5_1).toNat*3)).block,(ad482.add ((x5_1).toNat*3)).off+2,none⟩=some (.int .i64 ((rd_T55 l0 x5_1).f2))∧w'.cell? (ad483.add ((x5_1).toNat*3))=some (.int .i64 ((rd_T55 l1 x5_1).f0))∧w'.cell? ⟨(ad483.add ((x5_1).toNat*3)).block,(ad483.add ((x5_1).toNat*3)).off+1,none⟩=some (.int .i64 ((rd_T55 l1 x5_1).f1))∧w'.cell? ⟨(ad483.add ((x5_1).toNat*3)).block,(ad483.add ((x5_1).toNat*3)).off+2,none⟩=some (.int .i64 ((rd_T55 l1 x5_1).f2))) (ds:=[]) (fl 0 10) (by kernel_rfl) rfl rfl ⟨((HB.out.cell (World.block_lt_of_cell? w _ hw482_0)).trans hw482_0),((HB.out.cell (World.block_lt_of_cell? w _ hw482_1)).trans hw482_1),((HB.out.cell (World.block_lt_of_cell? w _ hw482_2)).trans hw482_2),((HB.out.cell (World.block_lt_of_cell? w _ hw483_0)).trans hw483_0),((HB.out.cell (World.block_lt_of_cell? w _ hw483_1)).trans hw483_1),((HB.out.cell (World.block_lt_of_cell? w _ hw483_2)).trans hw483_2)⟩ (fun hHeld=>?_);refine with_tabW laws_eqNoteS.tab6 laws_eqNoteS.bits6 (fun HT_ HW_=>?_)
      generalize wr.drew=w11 at HB hx482_0 hx482_1 hx482_2 hx483_0 hx483_1 hx483_2 hHeld ⊢
      refine pu HT_.out 0 (some 17) (fl 1 10) (h:=?_)
      refine pu HT_.out 1 (some 18) (fl 2 10) (h:=?_)
      refine pu HT_.out 2 (some 19) (fl 3 10) (h:=?_)
      refine pu HT_.out 4 (some 21) #[true,true,true,false,true,false,false,false,false,false] (h:=?_)
      refine pu HT_.out 5 (some 22) #[true,true,true,false,true,true,false,false,false,false] (h:=?_)
      refine pu HT_.out 6 (some 23) #[true,true,true,false,true,true,true,false,false,false] (h:=?_)
      refine ta HT_.out HW_.out 3 (some 20) (fl 7 10) hHeld rfl (by rintro w' ⟨s0,s1,s2,s3,s4,s5⟩;go_simp;with_reducible rfl) (h:=?_)
      refine ta HT_.out HW_.out 7 (some 24) (fl 8 10) hHeld rfl (by rintro w' ⟨s0,s1,s2,s3,s4,s5⟩;go_simp;with_reducible rfl) (h:=?_)
      refine one_ (i:=8) (N:=some 25) (fl 9 10) rfl rfl (one_of HT_.out (by kernel_rfl)) (by decide) (fun K hK=>?_)
      refine goes_ Tryz.func30 (by kernel_rfl) rfl #[.agg #[.int .i64 ((rd_T55 l0 x5_1).f0),.int .i64 ((rd_T55 l0 x5_1).f1),.int .i64 ((rd_T55 l0 x5_1).f2)],.agg #[.int .i64 ((rd_T55 l1 x5_1).f0),.int .i64 ((rd_T55 l1 x5_1).f1),.int .i64 ((rd_T55 l1 x5_1).f2)]] (by rfl) rfl rfl tl ?_
      with_reducible refine(laws_eqNote.calls ((rd_T55 l0 x5_1).f0) ((rd_T55 l0 x5_1).f1) ((rd_T55 l0 x5_1).f2) ((rd_T55 l1 x5_1).f0) ((rd_T55 l1 x5_1).f1) ((rd_T55 l1 x5_1).f2) false _ A7.out).mono ?_
      rintro e w12 ⟨rfl,hb⟩
      refine⟨_,rfl,?_⟩
      replace HB:=am (below_step bl hb)
      (try clear hb)
      refine hK.out _ _ ⟨((HB.out.cell (World.block_lt_of_cell? w _ hw482_0)).trans hw482_0),((HB.out.cell (World.block_lt_of_cell? w _ hw482_1)).trans hw482_1),((HB.out.cell (World.block_lt_of_cell? w _ hw482_2)).trans hw482_2),((HB.out.cell (World.block_lt_of_cell? w _ hw483_0)).trans hw483_0),((HB.out.cell (World.block_lt_of_cell? w _ hw483_1)).trans hw483_1),((HB.out.cell (World.block_lt_of_cell? w _ hw483_2)).trans hw483_2)⟩ (fun hHeld=>?_)
      clear hK K
      refine norm_ (a':=?_) ?_ ?_
      rotate_left
      ·show Act.put _ (some 25) _=_
       simp only[Act.put,List.setIfInBounds_toArray,List.set_cons_zero,List.set_cons_succ,i64_w,i32_w]
       rfl
      refine pu HT_.out 9 (some 26) (fl 10 10) (h:=?_)
      refine done_ (done_of HT_.out (by kernel_rfl)) ?_
      try go_wp2
      go_ret
      exact⟨fin1,bl⟩
    ·have c4b0:=decide_eq_false c4
     clear c4
     obtain rfl:=Option.some.inj H
     go_wp2
     go_ret
     exact⟨fin1,bl⟩
 ·have c3b0:((l0.length:Int) == (l1.length:Int))=false:=beq_eq_false_iff_ne.mpr c3
  have c3b1:((l0.length:Int) != (l1.length:Int))=true:=bne_iff_ne.mpr c3
  have c3b2:(l0.length == l1.length)=false:=by first|simpa using c3|(simp at c3 ⊢;omega)
  obtain rfl:=Option.some.inj H
  go_enter Tryz.func14,Tryz.ntmps14
  go_wp2
  go_ret
  exact⟨fin1,bl⟩

def laws_eqHole.f (a0_0:Int) (a0_1:Int) (a0_2:Int) (a1_0:Int) (a1_1:Int) (a1_2:Int):Option (Bool):=if a0_0=a1_0 then(if a0_1=a1_1 then(if a0_2=a1_2 then(some true) else(some false)) else(some false)) else(some false)
set_option maxHeartbeats 8000000 in
set_option maxRecDepth 100000 in
theorem laws_eqHole.calls (a0_0:Int) (a0_1:Int) (a0_2:Int) (a1_0:Int) (a1_1:Int) (a1_2:Int) (r:Bool) (w:World) (h:laws_eqHole.f a0_0 a0_1 a0_2 a1_0 a1_1 a1_2=some r) :
  Calls Tryz.prog 31 #[.agg #[.int .i64 a0_0,.int .i64 a0_1,.int .i64 a0_2],.agg #[.int .i64 a1_0,.int .i64 a1_1,.int .i64 a1_2]] w fun e w'=>e = .returned (.bool r)∧Below w.heap.size w w':=by
 have hu59:=Tryz.underlying59
 have HB:=am (Below.refl w.heap.size w)
 have H:(if a0_0=a1_0 then(if a0_1=a1_1 then(if a0_2=a1_2 then(some true) else(some false)) else(some false)) else(some false))=some r:=h
 clear h
 rcases itc H with⟨c3,H⟩|⟨c3,H⟩
 ·have c3b0:(a0_0 == a1_0)=true:=beq_iff_eq.mpr c3
  have c3b1:(a0_0 != a1_0)=false:=bne_eq_false_iff_eq.mpr c3
  clear c3
  rcases itc H with⟨c4,H⟩|⟨c4,H⟩
  ·have c4b0:(a0_1 == a1_1)=true:=beq_iff_eq.mpr c4
   have c4b1:(a0_1 != a1_1)=false:=bne_eq_false_iff_eq.mpr c4
   clear c4
   rcases itc H with⟨c5,H⟩|⟨c5,H⟩
   ·have c5b0:(a0_2 == a1_2)=true:=beq_iff_eq.mpr c5
    have c5b1:(a0_2 != a1_2)=false:=bne_eq_false_iff_eq.mpr c5
    clear c5
    obtain rfl:=Option.some.inj H
    go_enter Tryz.func31,Tryz.ntmps31
    go_wp2_with (first|((with_reducible refine gate_dst (N:=2) rfl ?_);refine box_event ?hg (N:=2) ?hd (cs := #[.int .i64 a0_0,.int .i64 a0_1,.int .i64 a0_2]) (t:=59) ?hr ?_;(case hd=>rfl);(case hg=>rfl);(case hr=>first|(go_simp;done)|(go_simp;rfl));intro gb485 hg w6 hbox hb;have BK485:=am (hbox);have GW485:=am (ge_ bl hg);have GE485:=am (ge_ bl hg);replace HB:=am (below_step bl hb);clear hb hbox hg)|((with_reducible refine gate_dst (N:=3) rfl ?_);refine box_event ?hg (N:=3) ?hd (cs := #[.int .i64 a1_0,.int .i64 a1_1,.int .i64 a1_2]) (t:=59) ?hr ?_;(case hd=>rfl);(case hg=>rfl);(case hr=>first|(go_simp;done)|(go_simp;rfl));intro gb486 hg w7 hbox hb;have BK486:=am (hbox);have GW486:=am (ge_ bl hg);have GE486:=am (ge_ bl hg);replace HB:=am (below_step bl hb);have NB485_486:=am (nl (bup BK485.out) hg);have NB486_485:=am (ng (bup BK485.out) hg);replace BK485:=am (blk_below (bup BK485.out) hb);clear hb hbox hg;have hnb8:=NB485_486.out;have hnc8:=NB486_485.out;have hcz9_0:=bc BK485.out 0;have hcz9_1:=bc BK485.out 1;have hcz9_2:=bc BK485.out 2;have hfz9_0:=blk_frozen BK485.out 0;have hfz9_1:=blk_frozen BK485.out 1;have hfz9_2:=blk_frozen BK485.out 2;have hcz10_0:=bc BK486.out 0;have hcz10_1:=bc BK486.out 1;have hcz10_2:=bc BK486.out 2;have hfz10_0:=blk_frozen BK486.out 0;have hfz10_1:=blk_frozen BK486.out 1;have hfz10_2:=blk_frozen BK486.out 2))
    go_ret
    exact⟨fin1,bl⟩
   ·have c5b0:(a0_2 == a1_2)=false:=beq_eq_false_iff_ne.mpr c5
    have c5b1:(a0_2 != a1_2)=true:=bne_iff_ne.mpr c5
    obtain rfl:=Option.some.inj H
    go_enter Tryz.func31,Tryz.ntmps31
    go_wp2_with (first|((with_reducible refine gate_dst (N:=2) rfl ?_);refine box_event ?hg (N:=2) ?hd (cs := #[.int .i64 a0_0,.int .i64 a0_1,.int .i64 a0_2]) (t:=59) ?hr ?_;(case hd=>rfl);(case hg=>rfl);(case hr=>first|(go_simp;done)|(go_simp;rfl));intro gb485 hg w11 hbox hb;have BK485:=am (hbox);have GW485:=am (ge_ bl hg);have GE485:=am (ge_ bl hg);replace HB:=am (below_step bl hb);clear hb hbox hg)|((with_reducible refine gate_dst (N:=3) rfl ?_);refine box_event ?hg (N:=3) ?hd (cs := #[.int .i64 a1_0,.int .i64 a1_1,.int .i64 a1_2]) (t:=59) ?hr ?_;(case hd=>rfl);(case hg=>rfl);(case hr=>first|(go_simp;done)|(go_simp;rfl));intro gb486 hg w12 hbox hb;have BK486:=am (hbox);have GW486:=am (ge_ bl hg);have GE486:=am (ge_ bl hg);replace HB:=am (below_step bl hb);have NB485_486:=am (nl (bup BK485.out) hg);have NB486_485:=am (ng (bup BK485.out) hg);replace BK485:=am (blk_below (bup BK485.out) hb);clear hb hbox hg;have hnb13:=NB485_486.out;have hnc13:=NB486_485.out;have hcz14_0:=bc BK485.out 0;have hcz14_1:=bc BK485.out 1;have hcz14_2:=bc BK485.out 2;have hfz14_0:=blk_frozen BK485.out 0;have hfz14_1:=blk_frozen BK485.out 1;have hfz14_2:=blk_frozen BK485.out 2;have hcz15_0:=bc BK486.out 0;have hcz15_1:=bc BK486.out 1;have hcz15_2:=bc BK486.out 2;have hfz15_0:=blk_frozen BK486.out 0;have hfz15_1:=blk_frozen BK486.out 1;have hfz15_2:=blk_frozen BK486.out 2))
    go_ret
    exact⟨fin1,bl⟩
  ·have c4b0:(a0_1 == a1_1)=false:=beq_eq_false_iff_ne.mpr c4
   have c4b1:(a0_1 != a1_1)=true:=bne_iff_ne.mpr c4
   obtain rfl:=Option.some.inj H
   go_enter Tryz.func31,Tryz.ntmps31
   go_wp2_with (first|((with_reducible refine gate_dst (N:=2) rfl ?_);refine box_event ?hg (N:=2) ?hd (cs := #[.int .i64 a0_0,.int .i64 a0_1,.int .i64 a0_2]) (t:=59) ?hr ?_;(case hd=>rfl);(case hg=>rfl);(case hr=>first|(go_simp;done)|(go_simp;rfl));intro gb485 hg w16 hbox hb;have BK485:=am (hbox);have GW485:=am (ge_ bl hg);have GE485:=am (ge_ bl hg);replace HB:=am (below_step bl hb);clear hb hbox hg)|((with_reducible refine gate_dst (N:=3) rfl ?_);refine box_event ?hg (N:=3) ?hd (cs := #[.int .i64 a1_0,.int .i64 a1_1,.int .i64 a1_2]) (t:=59) ?hr ?_;(case hd=>rfl);(case hg=>rfl);(case hr=>first|(go_simp;done)|(go_simp;rfl));intro gb486 hg w17 hbox hb;have BK486:=am (hbox);have GW486:=am (ge_ bl hg);have GE486:=am (ge_ bl hg);replace HB:=am (below_step bl hb);have NB485_486:=am (nl (bup BK485.out) hg);have NB486_485:=am (ng (bup BK485.out) hg);replace BK485:=am (blk_below (bup BK485.out) hb);clear hb hbox hg;have hnb18:=NB485_486.out;have hnc18:=NB486_485.out;have hcz19_0:=bc BK485.out 0;have hcz19_1:=bc BK485.out 1;have hcz19_2:=bc BK485.out 2;have hfz19_0:=blk_frozen BK485.out 0;have hfz19_1:=blk_frozen BK485.out 1;have hfz19_2:=blk_frozen BK485.out 2;have hcz20_0:=bc BK486.out 0;have hcz20_1:=bc BK486.out 1;have hcz20_2:=bc BK486.out 2;have hfz20_0:=blk_frozen BK486.out 0;have hfz20_1:=blk_frozen BK486.out 1;have hfz20_2:=blk_frozen BK486.out 2))
   go_ret
   exact⟨fin1,bl⟩
 ·have c3b0:(a0_0 == a1_0)=false:=beq_eq_false_iff_ne.mpr c3
  have c3b1:(a0_0 != a1_0)=true:=bne_iff_ne.mpr c3
  obtain rfl:=Option.some.inj H
  go_enter Tryz.func31,Tryz.ntmps31
  go_wp2_with (first|((with_reducible refine gate_dst (N:=2) rfl ?_);refine box_event ?hg (N:=2) ?hd (cs := #[.int .i64 a0_0,.int .i64 a0_1,.int .i64 a0_2]) (t:=59) ?hr ?_;(case hd=>rfl);(case hg=>rfl);(case hr=>first|(go_simp;done)|(go_simp;rfl));intro gb485 hg w21 hbox hb;have BK485:=am (hbox);have GW485:=am (ge_ bl hg);have GE485:=am (ge_ bl hg);replace HB:=am (below_step bl hb);clear hb hbox hg)|((with_reducible refine gate_dst (N:=3) rfl ?_);refine box_event ?hg (N:=3) ?hd (cs := #[.int .i64 a1_0,.int .i64 a1_1,.int .i64 a1_2]) (t:=59) ?hr ?_;(case hd=>rfl);(case hg=>rfl);(case hr=>first|(go_simp;done)|(go_simp;rfl));intro gb486 hg w22 hbox hb;have BK486:=am (hbox);have GW486:=am (ge_ bl hg);have GE486:=am (ge_ bl hg);replace HB:=am (below_step bl hb);have NB485_486:=am (nl (bup BK485.out) hg);have NB486_485:=am (ng (bup BK485.out) hg);replace BK485:=am (blk_below (bup BK485.out) hb);clear hb hbox hg;have hnb23:=NB485_486.out;have hnc23:=NB486_485.out;have hcz24_0:=bc BK485.out 0;have hcz24_1:=bc BK485.out 1;have hcz24_2:=bc BK485.out 2;have hfz24_0:=blk_frozen BK485.out 0;have hfz24_1:=blk_frozen BK485.out 1;have hfz24_2:=blk_frozen BK485.out 2;have hcz25_0:=bc BK486.out 0;have hcz25_1:=bc BK486.out 1;have hcz25_2:=bc BK486.out 2;have hfz25_0:=blk_frozen BK486.out 0;have hfz25_1:=blk_frozen BK486.out 1;have hfz25_2:=blk_frozen BK486.out 2))
  go_ret
  exact⟨fin1,bl⟩

def laws_eqHoleS.l0:Nat→List (S59)→List (S59)→Int→Option (Bool)
 | 0,_,_,_=>none
 | k+1,x0,x1,x5=>if x5<(x0.length:Int) then(if 0≤x5 then(if x5<(x1.length:Int) then((laws_eqHole.f ((rd_T59 x0 x5).f0) ((rd_T59 x0 x5).f1) ((rd_T59 x0 x5).f2) ((rd_T59 x1 x5).f0) ((rd_T59 x1 x5).f1) ((rd_T59 x1 x5).f2)).bind fun t489=>(if t489=true then(laws_eqHoleS.l0 k x0 x1 (wrap64 (x5+1))) else(some false))) else(none)) else(none)) else(some true)
def laws_eqHoleS.f (k:Nat) (l0:List (S59)) (l1:List (S59)):Option (Bool):=if(l0.length:Int)=(l1.length:Int) then(laws_eqHoleS.l0 k l0 l1 0) else(some false)
def laws_eqHoleS.T6:Bool×List (List Nat×List Nat):=(true,[([],[]),([],[]),([0,1],[0,1]),([2],[2]),([],[]),([],[]),([4,5],[4,5]),([6],[6]),([3,7],[3,7]),([8],[8])])
def laws_eqHoleS.B6:List Nat:=[0,0,3,7,0,0,48,112,255,511]
theorem laws_eqHoleS.tab6:rtab .any (opsOf Tryz.f15 6)=laws_eqHoleS.T6:=by kernel_rfl
theorem laws_eqHoleS.bits6:waitsOk laws_eqHoleS.T6.2 laws_eqHoleS.B6=true:=by kernel_rfl
set_option maxHeartbeats 8000000 in
set_option maxRecDepth 100000 in
theorem laws_eqHoleS.calls (k:Nat) (A0:Option Addr) (c0:Nat) (l0:List (S59)) (A1:Option Addr) (c1:Nat) (l1:List (S59)) (r:Bool) (w:World) (hr0:Kd.C k59 w A0 l0.length l0) (hc0:l0.length≤c0) (hr1:Kd.C k59 w A1 l1.length l1) (hc1:l1.length≤c1) (h:laws_eqHoleS.f k l0 l1=some r) :
  Calls Tryz.prog 15 #[.slice A0 l0.length c0,.slice A1 l1.length c1] w fun e w'=>e = .returned (.bool r)∧Below w.heap.size w w':=by
 have hu59:=Tryz.underlying59
 have HR0:=am hr0
 have HC0:=am hc0
 clear hr0 hc0
 have HR1:=am hr1
 have HC1:=am hc1
 clear hr1 hc1
 have HB:=am (Below.refl w.heap.size w)
 have H:(if(l0.length:Int)=(l1.length:Int) then(laws_eqHoleS.l0 k l0 l1 0) else(some false))=some r:=h
 clear h
 rcases itc H with⟨c3,H⟩|⟨c3,H⟩
 ·have c3b0:((l0.length:Int) == (l1.length:Int))=true:=beq_iff_eq.mpr c3
  have c3b1:((l0.length:Int) != (l1.length:Int))=false:=bne_eq_false_iff_eq.mpr c3
  have c3b2:(l0.length == l1.length)=true:=by first|simpa using c3|(simp at c3 ⊢;omega)
  clear c3
  have H':=am H
  clear H
  go_enter Tryz.func15,Tryz.ntmps15
  go_wp2
  go_loopg [5] k (fun kq v5 w'=>∃(x5_1:Int),v5 = .int .i64 x5_1∧Aside0 (laws_eqHoleS.l0 kq l0 l1 x5_1=some r)∧Aside0 (kq≤k)∧Aside0 (Below w.heap.size w w'))
  case atStart=>exact⟨(0),fin2,H',⟨Nat.le_refl _⟩,⟨bl⟩⟩
  case round =>
   clear H'
   try clear c3b0
   try clear c3b1
   try clear c3b2
   obtain⟨x5_1,rfl,HA,HK1,HB⟩:=hrel
   cases gk with
   | zero=>exact absurd HA.out (by simp [laws_eqHoleS.l0])
   | succ k1 =>
    have H:=HA.out
    clear HA
    simp only[laws_eqHoleS.l0] at H
    rcases itc H with⟨c4,H⟩|⟨c4,H⟩
    ·have c4b0:=decide_eq_true c4
     clear c4
     obtain⟨c5b0,H⟩:=ifb H
     obtain⟨c6b0,H⟩:=ifb H
     obtain⟨t489,A7,H⟩:=bnd H
     by_cases c8:t489=true
     ·subst c8
      replace H:=(if_pos rfl).symm.trans H
      have H':=am H
      clear H
      try go_wp2
      replace HB:=am (below_drew1 HB.out)
      have p487:0≤(x5_1:Int):=od
      have q487:x5_1<(l0.length:Int):=od
      obtain⟨ad487,e487,hx487_0,hx487_1,hx487_2⟩:=at_T59 HR0.out x5_1 p487 q487
      have hw487_2:=hx487_2
      have hw487_1:=hx487_1
      have hw487_0:=hx487_0
      cases e487
      replace hx487_0:=(HB.out.cell (World.block_lt_of_cell? w _ hx487_0)).trans hx487_0
      replace hx487_1:=(HB.out.cell (World.block_lt_of_cell? w _ hx487_1)).trans hx487_1
      replace hx487_2:=(HB.out.cell (World.block_lt_of_cell? w _ hx487_2)).trans hx487_2
      replace p487:=eq_true p487
      replace q487:=eq_true q487
      have p488:0≤(x5_1:Int):=od
      have q488:x5_1<(l1.length:Int):=od
      obtain⟨ad488,e488,hx488_0,hx488_1,hx488_2⟩:=at_T59 HR1.out x5_1 p488 q488
      have hw488_2:=hx488_2
      have hw488_1:=hx488_1
      have hw488_0:=hx488_0
      cases e488
      replace hx488_0:=(HB.out.cell (World.block_lt_of_cell? w _ hx488_0)).trans hx488_0
      replace hx488_1:=(HB.out.cell (World.block_lt_of_cell? w _ hx488_1)).trans hx488_1
      replace hx488_2:=(HB.out.cell (World.block_lt_of_cell? w _ hx488_2)).trans hx488_2
      replace p488:=eq_true p488
      replace q488:=eq_true q488
      refine start_ (n:=10) (S:=fun w'=>w'.cell? (ad487.add ((x5_1).toNat*3))=some (.int .i64 ((rd_T59 l0 x5_1).f0))∧w'.cell? ⟨(ad487.add ((x5_1).toNat*3)).block,(ad487.add ((x5_1).toNat*3)).off+1,none⟩=some (.int .i64 ((rd_T59 l0 x5_1).f1))∧w'.cell? ⟨(ad487.add ((x5_1).toNat*3)).block,(ad487.add ((x5_1).toNat*3)).off+2,none⟩=some (.int .i64 ((rd_T59 l0 x5_1).f2))∧w'.cell? (ad488.add ((x5_1).toNat*3))=some (.int .i64 ((rd_T59 l1 x5_1).f0))∧w'.cell? ⟨(ad488.add ((x5_1).toNat*3)).block,(ad488.add ((x5_1).toNat*3)).off+1,none⟩=some (.int .i64 ((rd_T59 l1 x5_1).f1))∧w'.cell? ⟨(ad488.add ((x5_1).toNat*3)).block,(ad488.add ((x5_1).toNat*3)).off+2,none⟩=some (.int .i64 ((rd_T59 l1 x5_1).f2))) (ds:=[]) (fl 0 10) (by kernel_rfl) rfl rfl ⟨((HB.out.cell (World.block_lt_of_cell? w _ hw487_0)).trans hw487_0),((HB.out.cell (World.block_lt_of_cell? w _ hw487_1)).trans hw487_1),((HB.out.cell (World.block_lt_of_cell? w _ hw487_2)).trans hw487_2),((HB.out.cell (World.block_lt_of_cell? w _ hw488_0)).trans hw488_0),((HB.out.cell (World.block_lt_of_cell? w _ hw488_1)).trans hw488_1),((HB.out.cell (World.block_lt_of_cell? w _ hw488_2)).trans hw488_2)⟩ (fun hHeld=>?_);refine with_tabW laws_eqHoleS.tab6 laws_eqHoleS.bits6 (fun HT_ HW_=>?_)
      generalize wr.drew=w9 at HB hx487_0 hx487_1 hx487_2 hx488_0 hx488_1 hx488_2 hHeld ⊢
      refine pu HT_.out 0 (some 17) (fl 1 10) (h:=?_)
      refine pu HT_.out 1 (some 18) (fl 2 10) (h:=?_)
      refine pu HT_.out 2 (some 19) (fl 3 10) (h:=?_)
      refine pu HT_.out 4 (some 21) #[true,true,true,false,true,false,false,false,false,false] (h:=?_)
      refine pu HT_.out 5 (some 22) #[true,true,true,false,true,true,false,false,false,false] (h:=?_)
      refine pu HT_.out 6 (some 23) #[true,true,true,false,true,true,true,false,false,false] (h:=?_)
      refine ta HT_.out HW_.out 3 (some 20) (fl 7 10) hHeld rfl (by rintro w' ⟨s0,s1,s2,s3,s4,s5⟩;go_simp;with_reducible rfl) (h:=?_)
      refine ta HT_.out HW_.out 7 (some 24) (fl 8 10) hHeld rfl (by rintro w' ⟨s0,s1,s2,s3,s4,s5⟩;go_simp;with_reducible rfl) (h:=?_)
      refine one_ (i:=8) (N:=some 25) (fl 9 10) rfl rfl (one_of HT_.out (by kernel_rfl)) (by decide) (fun K hK=>?_)
      refine goes_ Tryz.func31 (by kernel_rfl) rfl #[.agg #[.int .i64 ((rd_T59 l0 x5_1).f0),.int .i64 ((rd_T59 l0 x5_1).f1),.int .i64 ((rd_T59 l0 x5_1).f2)],.agg #[.int .i64 ((rd_T59 l1 x5_1).f0),.int .i64 ((rd_T59 l1 x5_1).f1),.int .i64 ((rd_T59 l1 x5_1).f2)]] (by rfl) rfl rfl tl ?_
      with_reducible refine(laws_eqHole.calls ((rd_T59 l0 x5_1).f0) ((rd_T59 l0 x5_1).f1) ((rd_T59 l0 x5_1).f2) ((rd_T59 l1 x5_1).f0) ((rd_T59 l1 x5_1).f1) ((rd_T59 l1 x5_1).f2) true _ A7.out).mono ?_
      rintro e w10 ⟨rfl,hb⟩
      refine⟨_,rfl,?_⟩
      replace HB:=am (below_step bl hb)
      (try clear hb)
      refine hK.out _ _ ⟨((HB.out.cell (World.block_lt_of_cell? w _ hw487_0)).trans hw487_0),((HB.out.cell (World.block_lt_of_cell? w _ hw487_1)).trans hw487_1),((HB.out.cell (World.block_lt_of_cell? w _ hw487_2)).trans hw487_2),((HB.out.cell (World.block_lt_of_cell? w _ hw488_0)).trans hw488_0),((HB.out.cell (World.block_lt_of_cell? w _ hw488_1)).trans hw488_1),((HB.out.cell (World.block_lt_of_cell? w _ hw488_2)).trans hw488_2)⟩ (fun hHeld=>?_)
      clear hK K
      refine norm_ (a':=?_) ?_ ?_
      rotate_left
      ·show Act.put _ (some 25) _=_
       simp only[Act.put,List.setIfInBounds_toArray,List.set_cons_zero,List.set_cons_succ,i64_w,i32_w]
       rfl
      refine pu HT_.out 9 (some 26) (fl 10 10) (h:=?_)
      refine done_ (done_of HT_.out (by kernel_rfl)) ?_
      try go_wp2
      go_roundg k1
      case measure=>have:=HK1.out;omega
      case rel=>exact⟨(wrap64 (x5_1+1)),fin2,H',⟨by have:=HK1.out;omega⟩,⟨bl⟩⟩
     ·replace c8:=Bool.eq_false_iff.mpr c8
      subst c8
      replace H:=(if_neg Bool.false_ne_true).symm.trans H
      obtain rfl:=Option.some.inj H
      try go_wp2
      replace HB:=am (below_drew1 HB.out)
      have p487:0≤(x5_1:Int):=od
      have q487:x5_1<(l0.length:Int):=od
      obtain⟨ad487,e487,hx487_0,hx487_1,hx487_2⟩:=at_T59 HR0.out x5_1 p487 q487
      have hw487_2:=hx487_2
      have hw487_1:=hx487_1
      have hw487_0:=hx487_0
      cases e487
      replace hx487_0:=(HB.out.cell (World.block_lt_of_cell? w _ hx487_0)).trans hx487_0
      replace hx487_1:=(HB.out.cell (World.block_lt_of_cell? w _ hx487_1)).trans hx487_1
      replace hx487_2:=(HB.out.cell (World.block_lt_of_cell? w _ hx487_2)).trans hx487_2
      replace p487:=eq_true p487
      replace q487:=eq_true q487
      have p488:0≤(x5_1:Int):=od
      have q488:x5_1<(l1.length:Int):=od
      obtain⟨ad488,e488,hx488_0,hx488_1,hx488_2⟩:=at_T59 HR1.out x5_1 p488 q488
      have hw488_2:=hx488_2
      have hw488_1:=hx488_1
      have hw488_0:=hx488_0
      cases e488
      replace hx488_0:=(HB.out.cell (World.block_lt_of_cell? w _ hx488_0)).trans hx488_0
      replace hx488_1:=(HB.out.cell (World.block_lt_of_cell? w _ hx488_1)).trans hx488_1
      replace hx488_2:=(HB.out.cell (World.block_lt_of_cell? w _ hx488_2)).trans hx488_2
      replace p488:=eq_true p488
      replace q488:=eq_true q488
      refine start_ (n:=10) (S:=fun w'=>w'.cell? (ad487.add ((x5_1).toNat*3))=some (.int .i64 ((rd_T59 l0 x5_1).f0))∧w'.cell? ⟨(ad487.add ((x5_1).toNat*3)).block,(ad487.add ((x5_1).toNat*3)).off+1,none⟩=some (.int .i64 ((rd_T59 l0 x5_1).f1))∧w'.cell? ⟨(ad487.add ((x5_1).toNat*3)).block,(ad487.add ((x5_1).toNat*3)).off+2,none⟩=some (.int .i64 ((rd_T59 l0 x5_1).f2))∧w'.cell? (ad488.add ((x5_1).toNat*3))=some (.int .i64 ((rd_T59 l1 x5_1).f0))∧w'.cell? ⟨(ad488.add ((x5_1).toNat*3)).block,(ad488.add ((x5_1).toNat*3)).off+1,none⟩=some (.int .i64 ((rd_T59 l1 x5_1).f1))∧w'.cell? ⟨(ad488.add ((x5_1).toNat*3)).block,(ad488.add ((x5_1).toNat*3)).off+2,none⟩=some (.int .i64 ((rd_T59 l1 x5_1).f2))) (ds:=[]) (fl 0 10) (by kernel_rfl) rfl rfl ⟨((HB.out.cell (World.block_lt_of_cell? w _ hw487_0)).trans hw487_0),((HB.out.cell (World.block_lt_of_cell? w _ hw487_1)).trans hw487_1),((HB.out.cell (World.block_lt_of_cell? w _ hw487_2)).trans hw487_2),((HB.out.cell (World.block_lt_of_cell? w _ hw488_0)).trans hw488_0),((HB.out.cell (World.block_lt_of_cell? w _ hw488_1)).trans hw488_1),((HB.out.cell (World.block_lt_of_cell? w _ hw488_2)).trans hw488_2)⟩ (fun hHeld=>?_);refine with_tabW laws_eqHoleS.tab6 laws_eqHoleS.bits6 (fun HT_ HW_=>?_)
      generalize wr.drew=w11 at HB hx487_0 hx487_1 hx487_2 hx488_0 hx488_1 hx488_2 hHeld ⊢
      refine pu HT_.out 0 (some 17) (fl 1 10) (h:=?_)
      refine pu HT_.out 1 (some 18) (fl 2 10) (h:=?_)
      refine pu HT_.out 2 (some 19) (fl 3 10) (h:=?_)
      refine pu HT_.out 4 (some 21) #[true,true,true,false,true,false,false,false,false,false] (h:=?_)
      refine pu HT_.out 5 (some 22) #[true,true,true,false,true,true,false,false,false,false] (h:=?_)
      refine pu HT_.out 6 (some 23) #[true,true,true,false,true,true,true,false,false,false] (h:=?_)
      refine ta HT_.out HW_.out 3 (some 20) (fl 7 10) hHeld rfl (by rintro w' ⟨s0,s1,s2,s3,s4,s5⟩;go_simp;with_reducible rfl) (h:=?_)
      refine ta HT_.out HW_.out 7 (some 24) (fl 8 10) hHeld rfl (by rintro w' ⟨s0,s1,s2,s3,s4,s5⟩;go_simp;with_reducible rfl) (h:=?_)
      refine one_ (i:=8) (N:=some 25) (fl 9 10) rfl rfl (one_of HT_.out (by kernel_rfl)) (by decide) (fun K hK=>?_)
      refine goes_ Tryz.func31 (by kernel_rfl) rfl #[.agg #[.int .i64 ((rd_T59 l0 x5_1).f0),.int .i64 ((rd_T59 l0 x5_1).f1),.int .i64 ((rd_T59 l0 x5_1).f2)],.agg #[.int .i64 ((rd_T59 l1 x5_1).f0),.int .i64 ((rd_T59 l1 x5_1).f1),.int .i64 ((rd_T59 l1 x5_1).f2)]] (by rfl) rfl rfl tl ?_
      with_reducible refine(laws_eqHole.calls ((rd_T59 l0 x5_1).f0) ((rd_T59 l0 x5_1).f1) ((rd_T59 l0 x5_1).f2) ((rd_T59 l1 x5_1).f0) ((rd_T59 l1 x5_1).f1) ((rd_T59 l1 x5_1).f2) false _ A7.out).mono ?_
      rintro e w12 ⟨rfl,hb⟩
      refine⟨_,rfl,?_⟩
      replace HB:=am (below_step bl hb)
      (try clear hb)
      refine hK.out _ _ ⟨((HB.out.cell (World.block_lt_of_cell? w _ hw487_0)).trans hw487_0),((HB.out.cell (World.block_lt_of_cell? w _ hw487_1)).trans hw487_1),((HB.out.cell (World.block_lt_of_cell? w _ hw487_2)).trans hw487_2),((HB.out.cell (World.block_lt_of_cell? w _ hw488_0)).trans hw488_0),((HB.out.cell (World.block_lt_of_cell? w _ hw488_1)).trans hw488_1),((HB.out.cell (World.block_lt_of_cell? w _ hw488_2)).trans hw488_2)⟩ (fun hHeld=>?_)
      clear hK K
      refine norm_ (a':=?_) ?_ ?_
      rotate_left
      ·show Act.put _ (some 25) _=_
       simp only[Act.put,List.setIfInBounds_toArray,List.set_cons_zero,List.set_cons_succ,i64_w,i32_w]
       rfl
      refine pu HT_.out 9 (some 26) (fl 10 10) (h:=?_)
      refine done_ (done_of HT_.out (by kernel_rfl)) ?_
      try go_wp2
      go_ret
      exact⟨fin1,bl⟩
    ·have c4b0:=decide_eq_false c4
     clear c4
     obtain rfl:=Option.some.inj H
     go_wp2
     go_ret
     exact⟨fin1,bl⟩
 ·have c3b0:((l0.length:Int) == (l1.length:Int))=false:=beq_eq_false_iff_ne.mpr c3
  have c3b1:((l0.length:Int) != (l1.length:Int))=true:=bne_iff_ne.mpr c3
  have c3b2:(l0.length == l1.length)=false:=by first|simpa using c3|(simp at c3 ⊢;omega)
  obtain rfl:=Option.some.inj H
  go_enter Tryz.func15,Tryz.ntmps15
  go_wp2
  go_ret
  exact⟨fin1,bl⟩

end Go.Proofs.YtipklbjbgbbgpaaGreat.PFnExactShiftToPass
