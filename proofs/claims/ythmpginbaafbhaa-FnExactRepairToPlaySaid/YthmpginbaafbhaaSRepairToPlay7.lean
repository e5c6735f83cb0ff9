/- The walks of functions that FnExactRepairToPlay reaches: what they return is what the plain functions of the same names say. Laid by a program of this session after the kit's print. No conditions beyond the arguments' being read. -/
import Derived.Test.YthmpginbaafbhaaSRepairToPlay0
import Derived.Test.YthmpginbaafbhaaSRepairToPlay1
import Derived.Test.YthmpginbaafbhaaSRepairToPlay2
namespace Go.Proofs.Ythmpginbaafbhaa.PFnExactRepairToPlay
open Go.RowKit Go.Proofs.YthmpginbaafbhaaW.PrintWords Go.Proofs.YthmpginbaafbhaaW.PrintLast Go.Proofs.YthmpginbaafbhaaW.PrintMore
attribute [local go_sem] max2_int min2_int max_two min_two max_three min_three max_four min_four   -- for this text's walks alone
set_option linter.unusedVariables false
set_option linter.unusedSimpArgs false

namespace stab
open Go.Sort
instance:Inhabited S51:=⟨z51⟩
def ltH (x y:S51):Bool:=decide (x.f1<y.f1∨x.f1=y.f1∧x.f0<y.f0)
def encH (x:S51):List Value:=[.int .i64 x.f0,.int .i64 x.f1,.int .i64 x.f2]
theorem swoH:SWO ltH where
 irrefl:=fun x=>by simp [ltH]
 trans:=fun x y z h1 h2=>by simp only[ltH,decide_eq_true_eq] at *;omega
 ntrans:=fun x y z h1 h2=>by simp only[ltH,decide_eq_false_iff_not] at *;omega
theorem holeLess.calls (x y:S51) (w:World) :
  Calls Try.prog 65 #[.agg #[.int .i64 x.f0,.int .i64 x.f1,.int .i64 x.f2],.agg #[.int .i64 y.f0,.int .i64 y.f1,.int .i64 y.f2]] w fun e w'=>e = .returned (.bool (ltH x y))∧∃ os,w'=grow w os:=by
 have hu:=Try.underlying51
 by_cases h:x.f1=y.f1
 ·have h1:decide (x.f1=y.f1)=true:=decide_eq_true h
  have h2:(x.f1 == y.f1)=true:=by simp [h]
  have h3:(x.f1 != y.f1)=false:=by simp [h]
  have hr:decide (x.f0<y.f0)=ltH x y:=decide_eq_decide.mpr ⟨fun q => .inr ⟨h,q⟩,fun q=>by omega⟩
  go_enter Try.func65,Try.ntmps65
  go_wp2
  go_ret
  exact⟨by rw[← hr];rfl,_,by rw[alloc_eq_grow,alloc_eq_grow,grow_grow]⟩
 ·have h1:decide (x.f1=y.f1)=false:=decide_eq_false h
  have h2:(x.f1 == y.f1)=false:=by simp [h]
  have h3:(x.f1 != y.f1)=true:=by simp [h]
  have hr:decide (x.f1<y.f1)=ltH x y:=decide_eq_decide.mpr ⟨fun q => .inl q,fun q=>by omega⟩
  go_enter Try.func65,Try.ntmps65
  go_wp2
  go_ret
  exact⟨by rw[← hr];rfl,_,by rw[alloc_eq_grow,alloc_eq_grow,grow_grow]⟩
def lessT:Bool×List (List Nat×List Nat):=(true,[([],[]),([],[]),([0,1],[0,1]),([2],[2]),([],[]),([],[]),([4,5],[4,5]),([6],[6]),([3,7],[3,7]),([8,8,0,1,2,3,4,5,6,7,8],[8])])
def lessB:List Nat:=[0,0,3,7,0,0,48,112,255,511]
theorem less_tab:rtab .any (opsOf Try.f71 1)=lessT:=by kernel_rfl
theorem less_bits:waitsOk lessT.2 lessB=true:=by kernel_rfl
set_option maxHeartbeats 4000000 in
set_option maxRecDepth 100000 in
theorem less.calls (blk c Bs size:Nat) (W:World) (G:Nat→S51) (hs:W.cell? ⟨Bs,0,none⟩=some (.slice (some ⟨blk,0,none⟩) size c))
  (hc:∀ t,t<size→W.cell? ⟨blk,t*3,none⟩=some (.int .i64 (G t).f0)∧W.cell? ⟨blk,t*3+1,none⟩=some (.int .i64 (G t).f1)∧W.cell? ⟨blk,t*3+2,none⟩=some (.int .i64 (G t).f2)) (i j:Nat) (hi:i<size) (hj:j<size) :
  Calls Try.prog 71 #[.int .i64 i,.int .i64 j,.pointer (some ⟨Bs,0,none⟩)] W fun e w'=>e = .returned (.bool (ltH (G i) (G j)))∧∃ m os,w'=grow (Go.Sort.ahead W m) os:=by
 have hu:=Try.underlying51
 obtain⟨a0,a1,a2⟩:=hc i hi
 obtain⟨b0,b1,b2⟩:=hc j hj
 clear hc
 have p1:(0≤(i:Int))=True:=eq_true (by omega)
 have q1:((i:Int)<(size:Int))=True:=eq_true (by omega)
 have p2:(0≤(j:Int))=True:=eq_true (by omega)
 have q2:((j:Int)<(size:Int))=True:=eq_true (by omega)
 go_enter Try.func71,Try.ntmps71
 go_wp2
 refine start_ (n:=10) (S:=fun w'=>w'.cell? ⟨Bs,0,none⟩=some (.slice (some ⟨blk,0,none⟩) size c)∧w'.cell? ⟨blk,i*3,none⟩=some (.int .i64 (G i).f0)∧w'.cell? ⟨blk,i*3+1,none⟩=some (.int .i64 (G i).f1)∧w'.cell? ⟨blk,i*3+2,none⟩=some (.int .i64 (G i).f2)∧w'.cell? ⟨blk,j*3,none⟩=some (.int .i64 (G j).f0)∧w'.cell? ⟨blk,j*3+1,none⟩=some (.int .i64 (G j).f1)∧w'.cell? ⟨blk,j*3+2,none⟩=some (.int .i64 (G j).f2)) (ds:=[]) (fl 0 10) (by kernel_rfl) rfl rfl ⟨hs,a0,a1,a2,b0,b1,b2⟩ (fun hHeld=>?_)
 refine with_tabW less_tab less_bits (fun HT_ HW_=>?_)
 obtain⟨w1,hw1⟩:∃ w1,w1=W.drew:=⟨_,rfl⟩
 rw[← hw1] at hHeld ⊢
 refine ta HT_.out HW_.out 0 (some 6) (fl 1 10) hHeld rfl (by rintro w' ⟨s0,s1,s2,s3,s4,s5,s6⟩;go_simp;with_reducible rfl) (h:=?_)
 refine pu HT_.out 1 (some 7) (fl 2 10) (h:=?_)
 refine pu HT_.out 2 (some 8) (fl 3 10) (h:=?_)
 refine ta HT_.out HW_.out 3 (some 9) (fl 4 10) hHeld rfl (by rintro w' ⟨s0,s1,s2,s3,s4,s5,s6⟩;go_simp;with_reducible rfl) (h:=?_)
 refine ta HT_.out HW_.out 4 (some 10) (fl 5 10) hHeld rfl (by rintro w' ⟨s0,s1,s2,s3,s4,s5,s6⟩;go_simp;with_reducible rfl) (h:=?_)
 refine pu HT_.out 5 (some 11) (fl 6 10) (h:=?_)
 refine pu HT_.out 6 (some 12) (fl 7 10) (h:=?_)
 refine ta HT_.out HW_.out 7 (some 13) (fl 8 10) hHeld rfl (by rintro w' ⟨s0,s1,s2,s3,s4,s5,s6⟩;go_simp;with_reducible rfl) (h:=?_)
 refine one_ (i:=8) (N:=some 14) (fl 9 10) rfl rfl (one_of HT_.out (by kernel_rfl)) (by decide) (fun K hK=>?_)
 refine goes_ Try.func65 (by kernel_rfl) rfl #[.agg #[.int .i64 (G i).f0,.int .i64 (G i).f1,.int .i64 (G i).f2],.agg #[.int .i64 (G j).f0,.int .i64 (G j).f1,.int .i64 (G j).f2]] (by rfl) rfl rfl (by(try simp only[List.map_toArray,List.map_cons,List.map_nil]);first|done|rfl) ?_
 refine(holeLess.calls (G i) (G j) _).mono ?_
 rintro e w18 ⟨rfl,os,rfl⟩
 refine⟨_,rfl,?_⟩
 obtain⟨g0,g1,g2,g3,g4,g5,g6⟩:=hHeld
 have kp:∀(a:Addr) (v:Value),w1.cell? a=some v→(grow w1 os).cell? a=some v:=fun a v h=>by
  rw[cell?_grow _ _ _ (World.block_lt_of_cell? w1 _ h)];exact h
 refine hK.out _ _ ⟨kp _ _ g0,kp _ _ g1,kp _ _ g2,kp _ _ g3,kp _ _ g4,kp _ _ g5,kp _ _ g6⟩ (fun hHeld=>?_)
 clear hK K
 refine norm_ (a':=?_) ?_ ?_
 rotate_left
 ·show Act.put _ (some 14) _=_
  simp only[Act.put,List.setIfInBounds_toArray,List.set_cons_zero,List.set_cons_succ,i64_w,i32_w]
  rfl
 refine pu HT_.out 9 (some 5) (fl 10 10) (h:=?_)
 refine done_ (done_of HT_.out (by kernel_rfl)) ?_
 go_wp2
 go_ret
 exact⟨rfl,1,os,by rw[hw1];rfl⟩
end stab
namespace sho
open stab
def downTo (x:S51) (out:List S51):Nat→Nat
 | 0=>0
 | k+1=>if ltH x (out.getD k z51)=true then downTo x out k else k+1
theorem downTo_le (x:S51) (out:List S51):∀ k,downTo x out k≤k
 | 0=>Nat.le_refl _
 | k+1=>by
  unfold downTo
  split
  ·exact Nat.le_trans (downTo_le x out k) (Nat.le_succ k)
  ·exact Nat.le_refl _
def insAt (x:S51) (out:List S51):List S51:=(([] ++ out.take (downTo x out out.length)) ++ [x]) ++ out.drop (downTo x out out.length)
def insAll (l:List S51):List S51:=l.foldl (fun out x=>insAt x out) []
theorem insAt_len (x:S51) (out:List S51):(insAt x out).length=out.length+1:=by
 have:=downTo_le x out out.length
 unfold insAt
 simp only[List.nil_append,List.length_append,List.length_take,List.length_drop,List.length_singleton]
 omega
theorem insAll_snoc (l:List S51) (x:S51):insAll (l ++ [x])=insAt x (insAll l):=by unfold insAll;rw[List.foldl_append];rfl
theorem insAll_len (l:List S51):(insAll l).length=l.length:=by
 have key:∀(l o:List S51),(l.foldl (fun out x=>insAt x out) o).length=o.length+l.length:=by
  intro l
  induction l with
  | nil=>intro o;rfl
  | cons x xs ih=>intro o;rw[List.foldl_cons,ih,insAt_len,List.length_cons];omega
 have:=key l []
 unfold insAll
 simpa using this
theorem before_eq (x y:S51):spec_shBefore.f x.f0 x.f1 x.f2 y.f0 y.f1 y.f2=some (ltH x y):=by
 unfold spec_shBefore.f ltH
 by_cases h1:x.f1<y.f1
 ·simp [h1]
 ·by_cases h2:x.f1=y.f1
  ·simp [h2]
  ·simp [h1,h2]
theorem infoH:(Try.prog.info? 51).map (fun i=>(i.zero,i.size,i.bytes))=some (some (.agg #[.int .i64 0,.int .i64 0,.int .i64 0]),3,24):=by kernel_rfl
def cT:Bool×List (List Nat×List Nat):=(true,[([],[]),([0],[0]),([1],[1]),([2],[2]),([2],[2]),([2],[2]),([5,2],[2,5]),([4,6,2],[2,4,6]),([7,2],[2,7]),([3,8,2,2],[2,3,8]),([2,9],[2,9])])
def cB:List Nat:=[0,1,3,7,7,7,39,119,247,511,1023]
theorem c_tab:rtab .any (opsOf Try.f40 6)=cT:=by kernel_rfl
theorem c_bits:waitsOk cT.2 cB=true:=by kernel_rfl
def aT:Bool×List (List Nat×List Nat):=(true,[([],[]),([],[]),([],[]),([1,2],[1,2]),([0,3],[0,3]),([],[]),([5],[5]),([4,6,4],[4,6]),([],[]),([],[]),([8,9],[8,9]),([7,10,7],[7,10]),([11,11,0,1,2,3,4,5,6,7,8,9,10,11],[1,8,11])])
def aB:List Nat:=[0,0,0,6,15,0,32,127,0,0,768,2047,4095]
theorem a_tab:rtab .any (opsOf Try.f40 8)=aT:=by kernel_rfl
theorem a_bits:waitsOk aT.2 aB=true:=by kernel_rfl
end sho
def spec_shSorted.f (k:Nat) (l0:List S51):Option (List S51×Bool):=if l0.length≤100000 then(spec_shGood.f k (sho.insAll l0)).bind fun q=>some (if q=true then(sho.insAll l0,true) else([],false)) else none
open stab sho in
set_option maxHeartbeats 16000000 in
set_option maxRecDepth 100000 in
theorem spec_shSorted.calls (k:Nat) (A0:Option Addr) (c0:Nat) (l0:List S51) (r1:List S51) (r2:Bool) (w:World) (hr0:Kd.C k51 w A0 l0.length l0) (hc0:l0.length≤c0) (h:spec_shSorted.f k l0=some (r1,r2)) :
  Calls Try.prog 40 #[.slice A0 l0.length c0] w fun e w'=>∃ v0_:Value,e = .returned (.tuple #[v0_,.bool r2])∧Kd.R k51 51 w' w.heap.size (fun _=>True) v0_ r1∧Below w.heap.size w w':=by
 unfold spec_shSorted.f at h
 by_cases hl:l0.length≤100000
 ·rw[if_pos hl] at h
  obtain⟨q,hq,h⟩:=Option.bind_eq_some_iff.1 h
  have HRES:=am (Option.some.inj h)
  have HQ:=am hq
  have HR0:=am hr0
  have HL:=am hl
  have HB:=am (Below.refl w.heap.size w)
  clear hr0 hc0 h hq hl
  have hu:=Try.underlying51
  have hus:=Try.underlying34
  have HO:=am (Kd.R_nil k51 51 w w.heap.size (fun _=>True))
  go_enter Try.func40,Try.ntmps40
  go_wp2
  go_loopw [4,10] (fun v4 v10 wr=>∃ i:Nat,Aside0 (i≤l0.length)∧v10 = .int .i64 i∧Aside0 (Kd.R k51 51 wr w.heap.size (fun _=>True) v4 (insAll (l0.take i)))∧Aside0 (Below w.heap.size w wr)) (fun _ v10 _=>l0.length - (intOf v10).toNat)
  case atStart=>exact⟨0,⟨by omega⟩,rfl,HO,HB⟩
  case round =>
   as_aux_lemma =>
    clear HO HB
    obtain⟨i,HI,rfl,HO,HB⟩:=hrel
    obtain⟨out,hout⟩:∃ out,out=insAll (l0.take i):=⟨_,rfl⟩
    rw[← hout] at HO
    have HE:=am hout
    have HOL:=am (show out.length≤100000 from by rw[hout,insAll_len,List.length_take];have:=HL.out;omega)
    clear hout
    obtain⟨Ao,co,eo⟩:=Kd.R_slice HO.out
    subst eo
    by_cases q_:i<l0.length
    ·have HI2:=am q_
     have qz:(i:Int)<(l0.length:Int):=by omega
     obtain⟨ad,ead,hx0,hx1,hx2⟩:=at_T51 (Kd.C_below HR0.out HB.out) (i:Int) (by omega) qz
     cases ead
     obtain⟨x,hx⟩:∃ x,x=rd_T51 l0 (i:Int):=⟨_,rfl⟩
     rw[← hx] at hx0 hx1 hx2
     have HX:=am (show l0.take (i+1)=l0.take i ++ [x] from by rw[List.take_succ_eq_append_getElem q_,hx];unfold rd_T51;rw[Int.toNat_natCast,List.getD_eq_getElem?_getD,List.getElem?_eq_getElem q_];rfl)
     clear hx
     rw[Int.toNat_natCast] at hx0 hx1 hx2
     have p_:(0≤(i:Int))=True:=eq_true (by omega)
     have q2_:((i:Int)<(l0.length:Int))=True:=eq_true qz
     clear q_
     go_wp2
     obtain⟨W1,hW1⟩:∃ W1,W1=wr.alloc (.cells #[.int .i64 x.f0,.int .i64 x.f1,.int .i64 x.f2] 51):=⟨_,rfl⟩
     rw[← hW1]
     have HW:=am (show Below wr.heap.size wr W1 from by rw[hW1];exact below_alloc (Below.refl _ _) _)
     have HX1:=am (show W1.cell? ⟨wr.heap.size,0,none⟩=some (.int .i64 x.f0)∧W1.cell? ⟨wr.heap.size,1,none⟩=some (.int .i64 x.f1)∧W1.cell? ⟨wr.heap.size,2,none⟩=some (.int .i64 x.f2) from by rw[hW1];simp)
     clear hW1 hx0 hx1 hx2 p_ q2_
     obtain⟨bx,hbx⟩:∃ bx,bx=wr.heap.size:=⟨_,rfl⟩
     rw[← hbx] at HX1 ⊢
     have HLT:=am (World.block_lt_of_cell? W1 _ HX1.out.1)
     clear hbx
     go_loopw [7] (fun v7 wq=>∃ kk:Nat,Aside0 (kk≤out.length)∧v7 = .int .i64 kk∧Aside0 (downTo x out kk=downTo x out out.length)∧Aside0 (Below W1.heap.size W1 wq)) (fun v7 _=>(intOf v7).toNat)
     case atStart=>exact⟨out.length,⟨Nat.le_refl _⟩,rfl,⟨rfl⟩,⟨Below.refl _ _⟩⟩
     case round =>
     as_aux_lemma =>
      obtain⟨kk,HK1,rfl,HD,HBq⟩:=hrel
      have HOq:=am (Kd.R_below (Kd.R_below HO.out HW.out) HBq.out)
      have HBw:=am (below_step (below_step HB.out HW.out) HBq.out)
      have y0:=(HBq.out.cell (p:=⟨bx,0,none⟩) HLT.out).trans HX1.out.1
      have y1:=(HBq.out.cell (p:=⟨bx,1,none⟩) HLT.out).trans HX1.out.2.1
      have y2:=(HBq.out.cell (p:=⟨bx,2,none⟩) HLT.out).trans HX1.out.2.2
      by_cases hk:0<kk
      ·obtain⟨j,rfl⟩:∃ j,kk=j+1:=⟨kk - 1,by omega⟩
       have HJ:=am (show j<out.length from by have:=HK1.out;omega)
       obtain⟨go,cap,ego,_⟩:=Kd.R_form HOq.out (by have:=HJ.out;omega)
       cases ego
       obtain⟨ad2,ead2,z0,z1,z2⟩:=at_T51 (Kd.R_reads' HOq.out).2.2 (j:Int) (by omega) (by have:=HJ.out;omega)
       cases ead2
       obtain⟨y,hy⟩:∃ y,y=rd_T51 out (j:Int):=⟨_,rfl⟩
       rw[← hy] at z0 z1 z2
       have HY:=am (show out.getD j z51=y from by rw[hy];unfold rd_T51;rw[Int.toNat_natCast])
       clear hy
       rw[Int.toNat_natCast] at z0 z1 z2
       simp only[add_plain,Nat.zero_add] at z0 z1 z2
       have g1:(0:Int)<((j+1:Nat):Int):=by omega
       have g0:wrap64 ((j:Nat):Int)=(j:Int):=by have:=HJ.out;have:=HOL.out;unfold wrap64;omega
       have g2:(0≤(j:Int))=True:=eq_true (by omega)
       have g3:((j:Int)<(out.length:Int))=True:=eq_true (by have:=HJ.out;omega)
       go_wp2
       refine start_ (n:=11) (S:=fun w'=>w'.cell? ⟨bx,0,none⟩=some (.int .i64 x.f0)∧w'.cell? ⟨bx,1,none⟩=some (.int .i64 x.f1)∧w'.cell? ⟨bx,2,none⟩=some (.int .i64 x.f2)∧w'.cell? ⟨go,j*3,none⟩=some (.int .i64 y.f0)∧w'.cell? ⟨go,j*3+1,none⟩=some (.int .i64 y.f1)∧w'.cell? ⟨go,j*3+2,none⟩=some (.int .i64 y.f2)) (ds:=[]) (fl 0 11) (by kernel_rfl) rfl rfl ⟨y0,y1,y2,z0,z1,z2⟩ (fun hHeld=>?_)
       refine with_tabW c_tab c_bits (fun HT_ HW_=>?_)
       obtain⟨w5,hw5⟩:∃ w5,w5=wr.drew:=⟨_,rfl⟩
       have HB5:=am (show Below W1.heap.size W1 w5 from by rw[hw5];exact below_drew1 HBq.out)
       rw[← hw5] at hHeld ⊢
       clear hw5
       refine pu HT_.out 0 (some 16) (fl 1 11) (h:=?_)
       refine pu HT_.out 1 (some 17) (fl 2 11) (h:=?_)
       refine pu HT_.out 2 (some 18) (fl 3 11) (h:=?_)
       refine ta HT_.out HW_.out 3 (some 19) (fl 4 11) hHeld rfl (by rintro w' ⟨s0,s1,s2,s3,s4,s5⟩;go_simp;with_reducible rfl) (h:=?_)
       refine pu HT_.out 4 (some 20) (fl 5 11) (h:=?_)
       refine pu HT_.out 5 (some 21) (fl 6 11) (h:=?_)
       refine pu HT_.out 6 (some 22) (fl 7 11) (h:=?_)
       refine pu HT_.out 7 (some 23) (fl 8 11) (h:=?_)
       refine ta HT_.out HW_.out 8 (some 24) (fl 9 11) hHeld rfl (by rintro w' ⟨s0,s1,s2,s3,s4,s5⟩;go_simp;with_reducible rfl) (h:=?_)
       refine one_ (i:=9) (N:=some 25) (fl 10 11) rfl rfl (one_of HT_.out (by kernel_rfl)) (by decide) (fun K hK=>?_)
       refine goes_ Try.func56 (by kernel_rfl) rfl #[.agg #[.int .i64 x.f0,.int .i64 x.f1,.int .i64 x.f2],.agg #[.int .i64 y.f0,.int .i64 y.f1,.int .i64 y.f2]] (by rfl) rfl rfl (by(try simp only[List.map_toArray,List.map_cons,List.map_nil]);first|done|rfl) ?_
       refine(spec_shBefore.calls x.f0 x.f1 x.f2 y.f0 y.f1 y.f2 (ltH x y) _ (before_eq x y)).mono ?_
       rintro e w6 ⟨rfl,hb⟩
       refine⟨_,rfl,?_⟩
       have HB6:=am (below_step HB5.out hb)
       obtain⟨e0,e1,e2,e3,e4,e5⟩:=hHeld
       have kp:∀(a:Addr) (v:Value),w5.cell? a=some v→w6.cell? a=some v:=fun a v h_=>(hb.cell (World.block_lt_of_cell? w5 _ h_)).trans h_
       clear hb
       refine hK.out _ _ ⟨kp _ _ e0,kp _ _ e1,kp _ _ e2,kp _ _ e3,kp _ _ e4,kp _ _ e5⟩ (fun hHeld=>?_)
       clear hK K
       refine norm_ (a':=?_) ?_ ?_
       rotate_left
       ·show Act.put _ (some 25) _=_
        simp only[Act.put,List.setIfInBounds_toArray,List.set_cons_zero,List.set_cons_succ,i64_w,i32_w]
        rfl
       refine pu HT_.out 10 (some 26) (fl 11 11) (h:=?_)
       refine done_ (done_of HT_.out (by kernel_rfl)) ?_
       clear g0 g1 g2 g3 y0 y1 y2 z0 z1 z2 hHeld kp e0 e1 e2 e3 e4 e5
       have HD2:=am (show(if ltH x y=true then downTo x out j else j+1)=downTo x out out.length from by rw[← HD.out,← HY.out];rfl)
       cases hlv:ltH x y with
       | true =>
        have HLV:=am hlv
        have g0:wrap64 ((j:Nat):Int)=(j:Int):=by have:=HJ.out;have:=HOL.out;unfold wrap64;omega
        clear hlv
        go_wp2
        go_roundw
        case rel=>exact⟨j,⟨by have:=HJ.out;omega⟩,congrArg (Value.int .i64) g0,⟨by have h_:=HD2.out;rw[if_pos HLV.out] at h_;exact h_⟩,HB6⟩
        case measure=>(show(intOf (Value.int .i64 (wrap64 (j:Int)))).toNat<(intOf (Value.int .i64 ((j:Int)+1))).toNat);rw[g0];show(j:Int).toNat<((j:Int)+1).toNat;omega
       | false =>
        obtain⟨kk,hkk⟩:∃ kk,kk=j+1:=⟨_,rfl⟩
        have HKD:=am (show kk=downTo x out out.length from by have h_:=HD2.out;rw[if_neg (by rw[hlv];decide)] at h_;rw[hkk];exact h_)
        have hkz:((j:Nat):Int)+1=((kk:Nat):Int):=by omega
        rw[hkz]
        obtain⟨Ao,hAo⟩:∃ A_,A_=(some ⟨go,0,none⟩:Option Addr):=⟨_,rfl⟩
        rw[← hAo] at HO ⊢
        clear hAo
        clear hlv hkk hkz HD HD2 HJ HY HBq HOq HBw HK1 HB5
        have HKL:=am (show kk≤out.length from by rw[HKD.out];exact downTo_le _ _ _)
        have HO6:=am (Kd.R_below (Kd.R_below HO.out HW.out) HB6.out)
        have HBW6:=am (below_step (below_step HB.out HW.out) HB6.out)
        have y0:=(HB6.out.cell (p:=⟨bx,0,none⟩) HLT.out).trans HX1.out.1
        have y1:=(HB6.out.cell (p:=⟨bx,1,none⟩) HLT.out).trans HX1.out.2.1
        have y2:=(HB6.out.cell (p:=⟨bx,2,none⟩) HLT.out).trans HX1.out.2.2
        go_wp2
        obtain⟨Ad,hAd⟩:∃ Ad,Ad=(if co=kk then Ao else Ao.map (·.add (kk*3))):=⟨_,rfl⟩
        obtain⟨i0_,hi0_,_,hsz_,_⟩:=info_parts infoH
        have hct:=cut_to (P:=Try.prog) 34 51 .i64 Try.underlying34 hi0_ Ao out.length co (kk:Int) (by omega) (by have:=HKL.out;omega) (Kd.R_reads' HO6.out).2.1
        have hcf:=cut_from (P:=Try.prog) 34 51 .i64 Try.underlying34 hi0_ 3 hsz_ Ao out.length co (kk:Int) (by omega) (by have:=HKL.out;omega)
        rw[Int.toNat_natCast] at hct hcf
        rw[← hAd] at hcf
        clear hi0_ hsz_
        refine start_ (n:=13) (S:=fun w'=>w'.cell? ⟨bx,0,none⟩=some (.int .i64 x.f0)∧w'.cell? ⟨bx,1,none⟩=some (.int .i64 x.f1)∧w'.cell? ⟨bx,2,none⟩=some (.int .i64 x.f2)) (ds:=[]) (fl 0 13) (by kernel_rfl) rfl rfl ⟨y0,y1,y2⟩ (fun hHeld=>?_)
        refine with_tabW a_tab a_bits (fun HT_ HW_=>?_)
        obtain⟨w7,hw7⟩:∃ w7,w7=w6.drew:=⟨_,rfl⟩
        have HO7:=am (show Kd.R k51 51 w7 w.heap.size (fun _=>True) (.slice Ao out.length co) out from by rw[hw7];exact Kd.R_drew HO6.out)
        have HB7:=am (show Below w.heap.size w w7 from by rw[hw7];exact below_drew1 HBW6.out)
        have HTK:=am (Kd.C_take (m:=kk) (Kd.R_reads' HO7.out).2.2 HKL.out)
        have HDR:=am (Kd.C_drop (m:=kk) (c:=co) (Kd.R_reads' HO7.out).2.2 HKL.out (Kd.R_reads' HO7.out).2.1)
        have HLK:=am (show(out.take kk).length=kk from by rw[List.length_take];have:=HKL.out;omega)
        have HLD:=am (show(out.drop kk).length=out.length - kk from List.length_drop)
        have HS7:=am (show(w7.cell? ⟨bx,0,none⟩=some (.int .i64 x.f0)∧w7.cell? ⟨bx,1,none⟩=some (.int .i64 x.f1)∧w7.cell? ⟨bx,2,none⟩=some (.int .i64 x.f2)) from by rw[hw7];exact⟨y0,y1,y2⟩)
        have HLT7:=am (World.block_lt_of_cell? w7 _ HS7.out.1)
        have HB0:=am (Below.refl w7.heap.size w7)
        have HAD:=am hAd
        rw[← hw7] at hHeld ⊢
        clear hw7 hAd y0 y1 y2 HBW6 HO6
        refine pu HT_.out 1 (some 30) #[false,true,false,false,false,false,false,false,false,false,false,false,false] (h:=?_)
        refine pu HT_.out 2 (some 31) #[false,true,true,false,false,false,false,false,false,false,false,false,false] (h:=?_)
        refine pu HT_.out 3 (some 32) #[false,true,true,true,false,false,false,false,false,false,false,false,false] (h:=?_)
        refine ta HT_.out HW_.out 5 (some 34) #[false,true,true,true,false,true,false,false,false,false,false,false,false] hHeld rfl (by rintro w' ⟨s0,s1,s2⟩;go_simp;with_reducible rfl) (h:=?_)
        refine pu HT_.out 8 (some 37) #[false,true,true,true,false,true,false,false,true,false,false,false,false] (h:=?_)
        refine pu HT_.out 9 (some 38) #[false,true,true,true,false,true,false,false,true,true,false,false,false] (h:=?_)
        refine pu HT_.out 10 (some 39) #[false,true,true,true,false,true,false,false,true,true,true,false,false] (h:=?_)
        refine two_ (i:=0) (j:=6) (Ni:=some 29) (Nj:=some 35) #[true,true,true,true,false,true,false,false,true,true,true,false,false] #[false,true,true,true,false,true,true,false,true,true,true,false,false] rfl rfl rfl rfl (two_of HT_.out (by kernel_rfl)) (by decide) (by decide) (fun K hK=>?_) (fun K hK=>?_)
        ·refine Kd.R_lit_step k51 (w0:=w7) w7.heap.size 51 (by rfl) (N:=29) rfl (xs:=([]:List S51)) (inner:=[]) (ok:=fun _=>True) (okp:=fun _=>True) ?hr (Reps.none _ _) (fun _ hk_=>hk_) trivial HB0.out (below_size HB0.out) (by simp) ?_
         (case hr=>first|(go_simp;done)|(go_simp;rfl))
         intro v1 u1 ho hb hg hnew
         have HV1:=am ho
         have HB1:=am hb
         have HG1:=am hg
         have HN1:=am hnew
         clear ho hb hg hnew
         refine hK.out _ _ ⟨(HB1.out.cell (p:=⟨bx,0,none⟩) HLT7.out).trans HS7.out.1,(HB1.out.cell (p:=⟨bx,1,none⟩) HLT7.out).trans HS7.out.2.1,(HB1.out.cell (p:=⟨bx,2,none⟩) HLT7.out).trans HS7.out.2.2⟩ (fun hHeld=>?_)
         clear hK K
         refine norm_ (a':=?_) ?_ ?_
         rotate_left
         ·show Act.put _ (some 29) _=_
          simp only[Act.put,List.setIfInBounds_toArray,List.set_cons_zero,List.set_cons_succ,i64_w,i32_w]
          rfl
         refine two_ (i:=4) (j:=6) (Ni:=some 33) (Nj:=some 35) #[true,true,true,true,true,true,false,false,true,true,true,false,false] #[true,true,true,true,false,true,true,false,true,true,true,false,false] rfl rfl rfl rfl (two_of HT_.out (by kernel_rfl)) (by decide) (by decide) (fun K hK=>?_) (fun K hK=>?_)
         ·refine Kd.R_append_rows_step k51 (w0:=w7) w7.heap.size (by rfl) (.tmp 29) (.tmp 32) 34 51 (.agg #[.int .i64 0,.int .i64 0,.int .i64 0]) 24 rfl Try.underlying34 infoH rfl (by decide) (by omega) v1 ([]:List S51) (out.take kk) Ao kk co (fun _=>True) (fun _=>False) rfl rfl ?aO ?aR (fun _ _ h_=>h_) (fun _ h_=>h_.elim) (fun _ _=>trivial) ?aB ?aS ?aL ?_
          (case aO=>exact HV1.out)
          (case aR=>exact(by have h_:=Kd.C_below HTK.out HB1.out;rw[HLK.out] at h_;exact h_))
          (case aB=>exact HB1.out)
          (case aS=>exact below_size HB1.out)
          (case aL=>have:=HOL.out;have:=HKL.out;simp only[List.length_nil];omega)
          intro v2 u2 ho hb hg hat
          have HV2:=am ho
          have HB2:=am hb
          have HG2:=am hg
          clear ho hb hg hat
          refine hK.out _ _ ⟨(HB2.out.cell (p:=⟨bx,0,none⟩) HLT7.out).trans HS7.out.1,(HB2.out.cell (p:=⟨bx,1,none⟩) HLT7.out).trans HS7.out.2.1,(HB2.out.cell (p:=⟨bx,2,none⟩) HLT7.out).trans HS7.out.2.2⟩ (fun hHeld=>?_)
          clear hK K
          refine norm_ (a':=?_) ?_ ?_
          rotate_left
          ·show Act.put _ (some 33) _=_
           simp only[Act.put,List.setIfInBounds_toArray,List.set_cons_zero,List.set_cons_succ,i64_w,i32_w]
           rfl
          refine one_ (i:=6) (N:=some 35) #[true,true,true,true,true,true,true,false,true,true,true,false,false] rfl rfl (one_of HT_.out (by kernel_rfl)) (by decide) (fun K hK=>?_)
          refine Kd.R_lit_step k51 (w0:=w7) w7.heap.size 51 (by rfl) (N:=35) rfl (xs:=[x]) (inner:=[.int .i64 x.f0,.int .i64 x.f1,.int .i64 x.f2]) (ok:=fun k_=>k_=u2.heap.size) (okp:=fun _=>False) ?hr ?hp (fun _ hk_=>hk_.elim) rfl HB2.out (below_size HB2.out) (by simp) ?_
          (case hr=>first|(go_simp;done)|(go_simp;rfl))
          (case hp=>exact(Reps.none _ _).snoc (k51_mkM _ _ _ x) rfl)
          intro v3 u3 ho hb hg hnew
          obtain⟨AX,cX,eX⟩:=Kd.R_slice ho
          subst eX
          have HX3:=am ho
          have HB3:=am hb
          have HG3:=am hg
          clear ho hb hg hnew
          refine hK.out _ _ ⟨(HB3.out.cell (p:=⟨bx,0,none⟩) HLT7.out).trans HS7.out.1,(HB3.out.cell (p:=⟨bx,1,none⟩) HLT7.out).trans HS7.out.2.1,(HB3.out.cell (p:=⟨bx,2,none⟩) HLT7.out).trans HS7.out.2.2⟩ (fun hHeld=>?_)
          clear hK K
          refine norm_ (a':=?_) ?_ ?_
          rotate_left
          ·show Act.put _ (some 35) _=_
           simp only[Act.put,List.setIfInBounds_toArray,List.set_cons_zero,List.set_cons_succ,i64_w,i32_w]
           rfl
          have HV3:=am (Kd.R_grown HV2.out HG3.out (fun _ _ e_=>by cases e_))
          refine one_ (i:=7) (N:=some 36) (fl 11 13) rfl rfl (one_of HT_.out (by kernel_rfl)) (by decide) (fun K hK=>?_)
          refine Kd.R_append_rows_step k51 (w0:=w7) w7.heap.size (by rfl) (.tmp 33) (.tmp 35) 34 51 (.agg #[.int .i64 0,.int .i64 0,.int .i64 0]) 24 rfl Try.underlying34 infoH rfl (by decide) (by omega) v2 ([] ++ out.take kk) [x] AX [x].length cX (fun _=>True) (fun _=>False) rfl rfl ?aO ?aR (fun _ _ h_=>h_) (fun _ h_=>h_.elim) (fun _ _=>trivial) ?aB ?aS ?aL ?_
          (case aO=>exact HV3.out)
          (case aR=>exact(Kd.R_reads' HX3.out).2.2)
          (case aB=>exact HB3.out)
          (case aS=>exact below_size HB3.out)
          (case aL=>have:=HOL.out;have:=HLK.out;have:=HKL.out;simp only[List.nil_append,List.length_append,List.length_nil,List.length_cons];omega)
          intro v4 u4 ho hb hg hat
          have HV4:=am ho
          have HB4:=am hb
          have HG4:=am hg
          clear ho hb hg hat
          refine hK.out _ _ ⟨(HB4.out.cell (p:=⟨bx,0,none⟩) HLT7.out).trans HS7.out.1,(HB4.out.cell (p:=⟨bx,1,none⟩) HLT7.out).trans HS7.out.2.1,(HB4.out.cell (p:=⟨bx,2,none⟩) HLT7.out).trans HS7.out.2.2⟩ (fun hHeld=>?_)
          clear hK K
          refine norm_ (a':=?_) ?_ ?_
          rotate_left
          ·show Act.put _ (some 36) _=_
           simp only[Act.put,List.setIfInBounds_toArray,List.set_cons_zero,List.set_cons_succ,i64_w,i32_w]
           rfl
          refine one_ (i:=11) (N:=some 40) (fl 12 13) rfl rfl (one_of HT_.out (by kernel_rfl)) (by decide) (fun K hK=>?_)
          refine Kd.R_append_rows_step k51 (w0:=w7) w7.heap.size (by rfl) (.tmp 36) (.tmp 39) 34 51 (.agg #[.int .i64 0,.int .i64 0,.int .i64 0]) 24 rfl Try.underlying34 infoH rfl (by decide) (by omega) v4 ([] ++ out.take kk ++ [x]) (out.drop kk) Ad (out.length - kk) (co - kk) (fun _=>True) (fun _=>False) rfl rfl ?aO ?aR (fun _ _ h_=>h_) (fun _ h_=>h_.elim) (fun _ _=>trivial) ?aB ?aS ?aL ?_
          (case aO=>exact HV4.out)
          (case aR=>exact(by have h_:=Kd.C_below HDR.out HB4.out;rw[HLD.out] at h_;rw[HAD.out];exact h_))
          (case aB=>exact HB4.out)
          (case aS=>exact below_size HB4.out)
          (case aL=>have:=HOL.out;have:=HLK.out;have:=HKL.out;simp only[List.nil_append,List.length_append,List.length_nil,List.length_cons];omega)
          intro v5 u5 ho hb hg hat
          have HV5:=am ho
          have HB5:=am hb
          have HG5:=am hg
          clear ho hb hg hat
          refine hK.out _ _ ⟨(HB5.out.cell (p:=⟨bx,0,none⟩) HLT7.out).trans HS7.out.1,(HB5.out.cell (p:=⟨bx,1,none⟩) HLT7.out).trans HS7.out.2.1,(HB5.out.cell (p:=⟨bx,2,none⟩) HLT7.out).trans HS7.out.2.2⟩ (fun hHeld=>?_)
          clear hK K
          refine norm_ (a':=?_) ?_ ?_
          rotate_left
          ·show Act.put _ (some 40) _=_
           simp only[Act.put,List.setIfInBounds_toArray,List.set_cons_zero,List.set_cons_succ,i64_w,i32_w]
           rfl
          refine pu HT_.out 12 (some 4) (fl 13 13) (h:=?_)
          refine done_ (done_of HT_.out (by kernel_rfl)) ?_
          go_wp2
          go_roundw
          case rel=>exact⟨i+1,⟨by have:=HI2.out;omega⟩,(by first|rfl|(congr 1;done)|(congr 1;have:=HI2.out;have:=HL.out;first|omega|(unfold wrap64;omega))),⟨by have h_:=HV5.out;rw[HX.out,insAll_snoc,← HE.out];unfold insAt;rw[← HKD.out];exact Kd.R_lower h_ (below_size HB7.out)⟩,⟨below_step HB7.out HB5.out⟩⟩
          case measure=>have:=HI2.out;have:=HL.out;have hw:wrap64 ((i:Int)+1)=(i:Int)+1:=(by unfold wrap64;omega);(show l0.length - (intOf (Value.int .i64 (wrap64 ((i:Int)+1)))).toNat<l0.length - (intOf (Value.int .i64 (i:Int))).toNat);rw[hw];show l0.length - ((i:Int)+1).toNat<l0.length - (i:Int).toNat;omega
         ·refine Kd.R_lit_step k51 (w0:=w7) w7.heap.size 51 (by rfl) (N:=35) rfl (xs:=[x]) (inner:=[.int .i64 x.f0,.int .i64 x.f1,.int .i64 x.f2]) (ok:=fun k_=>k_=u1.heap.size) (okp:=fun _=>False) ?hr ?hp (fun _ hk_=>hk_.elim) rfl HB1.out (below_size HB1.out) (by simp) ?_
          (case hr=>first|(go_simp;done)|(go_simp;rfl))
          (case hp=>exact(Reps.none _ _).snoc (k51_mkM _ _ _ x) rfl)
          intro v2 u2 ho hb hg hnew
          obtain⟨AX,cX,eX⟩:=Kd.R_slice ho
          subst eX
          have HX2:=am ho
          have HB2:=am hb
          have HG2:=am hg
          clear ho hb hg hnew
          refine hK.out _ _ ⟨(HB2.out.cell (p:=⟨bx,0,none⟩) HLT7.out).trans HS7.out.1,(HB2.out.cell (p:=⟨bx,1,none⟩) HLT7.out).trans HS7.out.2.1,(HB2.out.cell (p:=⟨bx,2,none⟩) HLT7.out).trans HS7.out.2.2⟩ (fun hHeld=>?_)
          clear hK K
          refine norm_ (a':=?_) ?_ ?_
          rotate_left
          ·show Act.put _ (some 35) _=_
           simp only[Act.put,List.setIfInBounds_toArray,List.set_cons_zero,List.set_cons_succ,i64_w,i32_w]
           rfl
          have HV2:=am (Kd.R_grown HV1.out HG2.out (fun _ _ e_=>by cases e_))
          refine one_ (i:=4) (N:=some 33) #[true,true,true,true,true,true,true,false,true,true,true,false,false] rfl rfl (one_of HT_.out (by kernel_rfl)) (by decide) (fun K hK=>?_)
          refine Kd.R_append_rows_step k51 (w0:=w7) w7.heap.size (by rfl) (.tmp 29) (.tmp 32) 34 51 (.agg #[.int .i64 0,.int .i64 0,.int .i64 0]) 24 rfl Try.underlying34 infoH rfl (by decide) (by omega) v1 ([]:List S51) (out.take kk) Ao kk co (fun _=>True) (fun _=>False) rfl rfl ?aO ?aR (fun _ _ h_=>h_) (fun _ h_=>h_.elim) (fun _ _=>trivial) ?aB ?aS ?aL ?_
          (case aO=>exact HV2.out)
          (case aR=>exact(by have h_:=Kd.C_below HTK.out HB2.out;rw[HLK.out] at h_;exact h_))
          (case aB=>exact HB2.out)
          (case aS=>exact below_size HB2.out)
          (case aL=>have:=HOL.out;have:=HKL.out;simp only[List.length_nil];omega)
          intro v3 u3 ho hb hg hat
          have HV3:=am ho
          have HB3:=am hb
          have HG3:=am hg
          clear ho hb hg hat
          refine hK.out _ _ ⟨(HB3.out.cell (p:=⟨bx,0,none⟩) HLT7.out).trans HS7.out.1,(HB3.out.cell (p:=⟨bx,1,none⟩) HLT7.out).trans HS7.out.2.1,(HB3.out.cell (p:=⟨bx,2,none⟩) HLT7.out).trans HS7.out.2.2⟩ (fun hHeld=>?_)
          clear hK K
          refine norm_ (a':=?_) ?_ ?_
          rotate_left
          ·show Act.put _ (some 33) _=_
           simp only[Act.put,List.setIfInBounds_toArray,List.set_cons_zero,List.set_cons_succ,i64_w,i32_w]
           rfl
          have HX3:=am (Kd.R_grown HX2.out HG3.out (fun k_ hk_ e_=>absurd ((Kd.R_bound HV1.out).1 k_ e_.symm).2.2.1 (by rw[hk_];exact Nat.lt_irrefl _)))
          refine one_ (i:=7) (N:=some 36) (fl 11 13) rfl rfl (one_of HT_.out (by kernel_rfl)) (by decide) (fun K hK=>?_)
          refine Kd.R_append_rows_step k51 (w0:=w7) w7.heap.size (by rfl) (.tmp 33) (.tmp 35) 34 51 (.agg #[.int .i64 0,.int .i64 0,.int .i64 0]) 24 rfl Try.underlying34 infoH rfl (by decide) (by omega) v3 ([] ++ out.take kk) [x] AX [x].length cX (fun _=>True) (fun _=>False) rfl rfl ?aO ?aR (fun _ _ h_=>h_) (fun _ h_=>h_.elim) (fun _ _=>trivial) ?aB ?aS ?aL ?_
          (case aO=>exact HV3.out)
          (case aR=>exact(Kd.R_reads' HX3.out).2.2)
          (case aB=>exact HB3.out)
          (case aS=>exact below_size HB3.out)
          (case aL=>have:=HOL.out;have:=HLK.out;have:=HKL.out;simp only[List.nil_append,List.length_append,List.length_nil,List.length_cons];omega)
          intro v4 u4 ho hb hg hat
          have HV4:=am ho
          have HB4:=am hb
          have HG4:=am hg
          clear ho hb hg hat
          refine hK.out _ _ ⟨(HB4.out.cell (p:=⟨bx,0,none⟩) HLT7.out).trans HS7.out.1,(HB4.out.cell (p:=⟨bx,1,none⟩) HLT7.out).trans HS7.out.2.1,(HB4.out.cell (p:=⟨bx,2,none⟩) HLT7.out).trans HS7.out.2.2⟩ (fun hHeld=>?_)
          clear hK K
          refine norm_ (a':=?_) ?_ ?_
          rotate_left
          ·show Act.put _ (some 36) _=_
           simp only[Act.put,List.setIfInBounds_toArray,List.set_cons_zero,List.set_cons_succ,i64_w,i32_w]
           rfl
          refine one_ (i:=11) (N:=some 40) (fl 12 13) rfl rfl (one_of HT_.out (by kernel_rfl)) (by decide) (fun K hK=>?_)
          refine Kd.R_append_rows_step k51 (w0:=w7) w7.heap.size (by rfl) (.tmp 36) (.tmp 39) 34 51 (.agg #[.int .i64 0,.int .i64 0,.int .i64 0]) 24 rfl Try.underlying34 infoH rfl (by decide) (by omega) v4 ([] ++ out.take kk ++ [x]) (out.drop kk) Ad (out.length - kk) (co - kk) (fun _=>True) (fun _=>False) rfl rfl ?aO ?aR (fun _ _ h_=>h_) (fun _ h_=>h_.elim) (fun _ _=>trivial) ?aB ?aS ?aL ?_
          (case aO=>exact HV4.out)
          (case aR=>exact(by have h_:=Kd.C_below HDR.out HB4.out;rw[HLD.out] at h_;rw[HAD.out];exact h_))
          (case aB=>exact HB4.out)
          (case aS=>exact below_size HB4.out)
          (case aL=>have:=HOL.out;have:=HLK.out;have:=HKL.out;simp only[List.nil_append,List.length_append,List.length_nil,List.length_cons];omega)
          intro v5 u5 ho hb hg hat
          have HV5:=am ho
          have HB5:=am hb
          have HG5:=am hg
          clear ho hb hg hat
          refine hK.out _ _ ⟨(HB5.out.cell (p:=⟨bx,0,none⟩) HLT7.out).trans HS7.out.1,(HB5.out.cell (p:=⟨bx,1,none⟩) HLT7.out).trans HS7.out.2.1,(HB5.out.cell (p:=⟨bx,2,none⟩) HLT7.out).trans HS7.out.2.2⟩ (fun hHeld=>?_)
          clear hK K
          refine norm_ (a':=?_) ?_ ?_
          rotate_left
          ·show Act.put _ (some 40) _=_
           simp only[Act.put,List.setIfInBounds_toArray,List.set_cons_zero,List.set_cons_succ,i64_w,i32_w]
           rfl
          refine pu HT_.out 12 (some 4) (fl 13 13) (h:=?_)
          refine done_ (done_of HT_.out (by kernel_rfl)) ?_
          go_wp2
          go_roundw
          case rel=>exact⟨i+1,⟨by have:=HI2.out;omega⟩,(by first|rfl|(congr 1;done)|(congr 1;have:=HI2.out;have:=HL.out;first|omega|(unfold wrap64;omega))),⟨by have h_:=HV5.out;rw[HX.out,insAll_snoc,← HE.out];unfold insAt;rw[← HKD.out];exact Kd.R_lower h_ (below_size HB7.out)⟩,⟨below_step HB7.out HB5.out⟩⟩
          case measure=>have:=HI2.out;have:=HL.out;have hw:wrap64 ((i:Int)+1)=(i:Int)+1:=(by unfold wrap64;omega);(show l0.length - (intOf (Value.int .i64 (wrap64 ((i:Int)+1)))).toNat<l0.length - (intOf (Value.int .i64 (i:Int))).toNat);rw[hw];show l0.length - ((i:Int)+1).toNat<l0.length - (i:Int).toNat;omega
        ·refine Kd.R_lit_step k51 (w0:=w7) w7.heap.size 51 (by rfl) (N:=35) rfl (xs:=[x]) (inner:=[.int .i64 x.f0,.int .i64 x.f1,.int .i64 x.f2]) (ok:=fun k_=>k_=w7.heap.size) (okp:=fun _=>False) ?hr ?hp (fun _ hk_=>hk_.elim) rfl HB0.out (below_size HB0.out) (by simp) ?_
         (case hr=>first|(go_simp;done)|(go_simp;rfl))
         (case hp=>exact(Reps.none _ _).snoc (k51_mkM _ _ _ x) rfl)
         intro v1 u1 ho hb hg hnew
         obtain⟨AX,cX,eX⟩:=Kd.R_slice ho
         subst eX
         have HX1x:=am ho
         have HSZ:=am (show w7.heap.size<u1.heap.size from((Kd.R_bound ho).1 w7.heap.size (by obtain⟨b_,h1_,h2_⟩:=hnew;rw[h1_];have h3_:=ho.1 b_ h1_;rw[h3_])).2.2.1)
         have HB1:=am hb
         have HG1:=am hg
         clear ho hb hg hnew
         refine hK.out _ _ ⟨(HB1.out.cell (p:=⟨bx,0,none⟩) HLT7.out).trans HS7.out.1,(HB1.out.cell (p:=⟨bx,1,none⟩) HLT7.out).trans HS7.out.2.1,(HB1.out.cell (p:=⟨bx,2,none⟩) HLT7.out).trans HS7.out.2.2⟩ (fun hHeld=>?_)
         clear hK K
         refine norm_ (a':=?_) ?_ ?_
         rotate_left
         ·show Act.put _ (some 35) _=_
          simp only[Act.put,List.setIfInBounds_toArray,List.set_cons_zero,List.set_cons_succ,i64_w,i32_w]
          rfl
         refine one_ (i:=0) (N:=some 29) #[true,true,true,true,false,true,true,false,true,true,true,false,false] rfl rfl (one_of HT_.out (by kernel_rfl)) (by decide) (fun K hK=>?_)
         refine Kd.R_lit_step k51 (w0:=w7) w7.heap.size 51 (by rfl) (N:=29) rfl (xs:=([]:List S51)) (inner:=[]) (ok:=fun _=>True) (okp:=fun _=>True) ?hr (Reps.none _ _) (fun _ hk_=>hk_) trivial HB1.out (below_size HB1.out) (by simp) ?_
         (case hr=>first|(go_simp;done)|(go_simp;rfl))
         intro v2 u2 ho hb hg hnew
         have HV2:=am ho
         have HB2:=am hb
         have HG2:=am hg
         have HN2:=am hnew
         clear ho hb hg hnew
         refine hK.out _ _ ⟨(HB2.out.cell (p:=⟨bx,0,none⟩) HLT7.out).trans HS7.out.1,(HB2.out.cell (p:=⟨bx,1,none⟩) HLT7.out).trans HS7.out.2.1,(HB2.out.cell (p:=⟨bx,2,none⟩) HLT7.out).trans HS7.out.2.2⟩ (fun hHeld=>?_)
         clear hK K
         refine norm_ (a':=?_) ?_ ?_
         rotate_left
         ·show Act.put _ (some 29) _=_
          simp only[Act.put,List.setIfInBounds_toArray,List.set_cons_zero,List.set_cons_succ,i64_w,i32_w]
          rfl
         have HX2:=am (Kd.R_grown HX1x.out HG2.out (fun _ _ e_=>by cases e_))
         refine one_ (i:=4) (N:=some 33) #[true,true,true,true,true,true,true,false,true,true,true,false,false] rfl rfl (one_of HT_.out (by kernel_rfl)) (by decide) (fun K hK=>?_)
         refine Kd.R_append_rows_step k51 (w0:=w7) w7.heap.size (by rfl) (.tmp 29) (.tmp 32) 34 51 (.agg #[.int .i64 0,.int .i64 0,.int .i64 0]) 24 rfl Try.underlying34 infoH rfl (by decide) (by omega) v2 ([]:List S51) (out.take kk) Ao kk co (fun _=>True) (fun _=>False) rfl rfl ?aO ?aR (fun _ _ h_=>h_) (fun _ h_=>h_.elim) (fun _ _=>trivial) ?aB ?aS ?aL ?_
         (case aO=>exact HV2.out)
         (case aR=>exact(by have h_:=Kd.C_below HTK.out HB2.out;rw[HLK.out] at h_;exact h_))
         (case aB=>exact HB2.out)
         (case aS=>exact below_size HB2.out)
         (case aL=>have:=HOL.out;have:=HKL.out;simp only[List.length_nil];omega)
         intro v3 u3 ho hb hg hat
         have HV3:=am ho
         have HB3:=am hb
         have HG3:=am hg
         clear ho hb hg hat
         refine hK.out _ _ ⟨(HB3.out.cell (p:=⟨bx,0,none⟩) HLT7.out).trans HS7.out.1,(HB3.out.cell (p:=⟨bx,1,none⟩) HLT7.out).trans HS7.out.2.1,(HB3.out.cell (p:=⟨bx,2,none⟩) HLT7.out).trans HS7.out.2.2⟩ (fun hHeld=>?_)
         clear hK K
         refine norm_ (a':=?_) ?_ ?_
         rotate_left
         ·show Act.put _ (some 33) _=_
          simp only[Act.put,List.setIfInBounds_toArray,List.set_cons_zero,List.set_cons_succ,i64_w,i32_w]
          rfl
         have HX3:=am (Kd.R_grown HX2.out HG3.out (fun k_ hk_ e_=>by obtain⟨b_,h1_,h2_⟩:=HN2.out;rw[h1_] at e_;have h3_:=HSZ.out;have h4_:=Option.some.inj e_;omega))
         refine one_ (i:=7) (N:=some 36) (fl 11 13) rfl rfl (one_of HT_.out (by kernel_rfl)) (by decide) (fun K hK=>?_)
         refine Kd.R_append_rows_step k51 (w0:=w7) w7.heap.size (by rfl) (.tmp 33) (.tmp 35) 34 51 (.agg #[.int .i64 0,.int .i64 0,.int .i64 0]) 24 rfl Try.underlying34 infoH rfl (by decide) (by omega) v3 ([] ++ out.take kk) [x] AX [x].length cX (fun _=>True) (fun _=>False) rfl rfl ?aO ?aR (fun _ _ h_=>h_) (fun _ h_=>h_.elim) (fun _ _=>trivial) ?aB ?aS ?aL ?_
         (case aO=>exact HV3.out)
         (case aR=>exact(Kd.R_reads' HX3.out).2.2)
         (case aB=>exact HB3.out)
         (case aS=>exact below_size HB3.out)
         (case aL=>have:=HOL.out;have:=HLK.out;have:=HKL.out;simp only[List.nil_append,List.length_append,List.length_nil,List.length_cons];omega)
         intro v4 u4 ho hb hg hat
         have HV4:=am ho
         have HB4:=am hb
         have HG4:=am hg
         clear ho hb hg hat
         refine hK.out _ _ ⟨(HB4.out.cell (p:=⟨bx,0,none⟩) HLT7.out).trans HS7.out.1,(HB4.out.cell (p:=⟨bx,1,none⟩) HLT7.out).trans HS7.out.2.1,(HB4.out.cell (p:=⟨bx,2,none⟩) HLT7.out).trans HS7.out.2.2⟩ (fun hHeld=>?_)
         clear hK K
         refine norm_ (a':=?_) ?_ ?_
         rotate_left
         ·show Act.put _ (some 36) _=_
          simp only[Act.put,List.setIfInBounds_toArray,List.set_cons_zero,List.set_cons_succ,i64_w,i32_w]
          rfl
         refine one_ (i:=11) (N:=some 40) (fl 12 13) rfl rfl (one_of HT_.out (by kernel_rfl)) (by decide) (fun K hK=>?_)
         refine Kd.R_append_rows_step k51 (w0:=w7) w7.heap.size (by rfl) (.tmp 36) (.tmp 39) 34 51 (.agg #[.int .i64 0,.int .i64 0,.int .i64 0]) 24 rfl Try.underlying34 infoH rfl (by decide) (by omega) v4 ([] ++ out.take kk ++ [x]) (out.drop kk) Ad (out.length - kk) (co - kk) (fun _=>True) (fun _=>False) rfl rfl ?aO ?aR (fun _ _ h_=>h_) (fun _ h_=>h_.elim) (fun _ _=>trivial) ?aB ?aS ?aL ?_
         (case aO=>exact HV4.out)
         (case aR=>exact(by have h_:=Kd.C_below HDR.out HB4.out;rw[HLD.out] at h_;rw[HAD.out];exact h_))
         (case aB=>exact HB4.out)
         (case aS=>exact below_size HB4.out)
         (case aL=>have:=HOL.out;have:=HLK.out;have:=HKL.out;simp only[List.nil_append,List.length_append,List.length_nil,List.length_cons];omega)
         intro v5 u5 ho hb hg hat
         have HV5:=am ho
         have HB5:=am hb
         have HG5:=am hg
         clear ho hb hg hat
         refine hK.out _ _ ⟨(HB5.out.cell (p:=⟨bx,0,none⟩) HLT7.out).trans HS7.out.1,(HB5.out.cell (p:=⟨bx,1,none⟩) HLT7.out).trans HS7.out.2.1,(HB5.out.cell (p:=⟨bx,2,none⟩) HLT7.out).trans HS7.out.2.2⟩ (fun hHeld=>?_)
         clear hK K
         refine norm_ (a':=?_) ?_ ?_
         rotate_left
         ·show Act.put _ (some 40) _=_
          simp only[Act.put,List.setIfInBounds_toArray,List.set_cons_zero,List.set_cons_succ,i64_w,i32_w]
          rfl
         refine pu HT_.out 12 (some 4) (fl 13 13) (h:=?_)
         refine done_ (done_of HT_.out (by kernel_rfl)) ?_
         go_wp2
         go_roundw
         case rel=>exact⟨i+1,⟨by have:=HI2.out;omega⟩,(by first|rfl|(congr 1;done)|(congr 1;have:=HI2.out;have:=HL.out;first|omega|(unfold wrap64;omega))),⟨by have h_:=HV5.out;rw[HX.out,insAll_snoc,← HE.out];unfold insAt;rw[← HKD.out];exact Kd.R_lower h_ (below_size HB7.out)⟩,⟨below_step HB7.out HB5.out⟩⟩
         case measure=>have:=HI2.out;have:=HL.out;have hw:wrap64 ((i:Int)+1)=(i:Int)+1:=(by unfold wrap64;omega);(show l0.length - (intOf (Value.int .i64 (wrap64 ((i:Int)+1)))).toNat<l0.length - (intOf (Value.int .i64 (i:Int))).toNat);rw[hw];show l0.length - ((i:Int)+1).toNat<l0.length - (i:Int).toNat;omega
      ·have g1:¬ ((0:Int)<(kk:Int)):=by omega
       have g1b:decide ((0:Int)<(kk:Int))=false:=decide_eq_false g1
       have HKD:=am (show kk=downTo x out out.length from by
        rw[← HD.out]
        obtain rfl:kk=0:=by omega
        rfl)
       have g1c:decide (0<kk)=false:=decide_eq_false hk
       go_wp2
       refine start_ (n:=11) (S:=fun w'=>w'.cell? ⟨bx,0,none⟩=some (.int .i64 x.f0)∧w'.cell? ⟨bx,1,none⟩=some (.int .i64 x.f1)∧w'.cell? ⟨bx,2,none⟩=some (.int .i64 x.f2)) (ds:=[]) (fl 0 11) (by kernel_rfl) rfl rfl ⟨y0,y1,y2⟩ (fun hHeld=>?_)
       refine with_tabW c_tab c_bits (fun HT_ HW_=>?_)
       obtain⟨w6,hw5⟩:∃ w5,w5=wr.drew:=⟨_,rfl⟩
       have HB6:=am (show Below W1.heap.size W1 w6 from by rw[hw5];exact below_drew1 HBq.out)
       rw[← hw5] at hHeld ⊢
       clear hw5
       refine pu HT_.out 0 (some 16) (fl 1 11) (h:=?_)
       refine pu HT_.out 1 (some 17) (fl 2 11) (h:=?_)
       refine pu HT_.out 2 (some 18) (fl 3 11) (h:=?_)
       refine pure_ (i:=3) (N:=some 19) (v:=undef) (a':=?_) (fl 4 11) rfl rfl (any_of HT_.out (by kernel_rfl)) (fun _ _ _ h=>h) (Or.inr ⟨by rfl,rfl⟩) ?_ ?_
       rotate_left
       ·simp only[Act.put,List.setIfInBounds_toArray,List.set_cons_zero,List.set_cons_succ,i64_w,i32_w]
        rfl
       refine pure_ (i:=4) (N:=some 20) (v:=undef) (a':=?_) (fl 5 11) rfl rfl (any_of HT_.out (by kernel_rfl)) (fun _ _ _ h=>h) (Or.inr ⟨by rfl,rfl⟩) ?_ ?_
       rotate_left
       ·simp only[Act.put,List.setIfInBounds_toArray,List.set_cons_zero,List.set_cons_succ,i64_w,i32_w]
        rfl
       refine pure_ (i:=5) (N:=some 21) (v:=undef) (a':=?_) (fl 6 11) rfl rfl (any_of HT_.out (by kernel_rfl)) (fun _ _ _ h=>h) (Or.inr ⟨by rfl,rfl⟩) ?_ ?_
       rotate_left
       ·simp only[Act.put,List.setIfInBounds_toArray,List.set_cons_zero,List.set_cons_succ,i64_w,i32_w]
        rfl
       refine pure_ (i:=6) (N:=some 22) (v:=undef) (a':=?_) (fl 7 11) rfl rfl (any_of HT_.out (by kernel_rfl)) (fun _ _ _ h=>h) (Or.inr ⟨by rfl,rfl⟩) ?_ ?_
       rotate_left
       ·simp only[Act.put,List.setIfInBounds_toArray,List.set_cons_zero,List.set_cons_succ,i64_w,i32_w]
        rfl
       refine pure_ (i:=7) (N:=some 23) (v:=undef) (a':=?_) (fl 8 11) rfl rfl (any_of HT_.out (by kernel_rfl)) (fun _ _ _ h=>h) (Or.inr ⟨by rfl,rfl⟩) ?_ ?_
       rotate_left
       ·simp only[Act.put,List.setIfInBounds_toArray,List.set_cons_zero,List.set_cons_succ,i64_w,i32_w]
        rfl
       refine pure_ (i:=8) (N:=some 24) (v:=undef) (a':=?_) (fl 9 11) rfl rfl (any_of HT_.out (by kernel_rfl)) (fun _ _ _ h=>h) (Or.inr ⟨by rfl,rfl⟩) ?_ ?_
       rotate_left
       ·simp only[Act.put,List.setIfInBounds_toArray,List.set_cons_zero,List.set_cons_succ,i64_w,i32_w]
        rfl
       refine pure_ (i:=9) (N:=some 25) (v:=undef) (a':=?_) (fl 10 11) rfl rfl (any_of HT_.out (by kernel_rfl)) (fun _ _ _ h=>h) (Or.inr ⟨by rfl,rfl⟩) ?_ ?_
       rotate_left
       ·simp only[Act.put,List.setIfInBounds_toArray,List.set_cons_zero,List.set_cons_succ,i64_w,i32_w]
        rfl
       refine pu HT_.out 10 (some 26) (fl 11 11) (h:=?_)
       refine done_ (done_of HT_.out (by kernel_rfl)) ?_
       clear hHeld g1 g1b g1c hk y0 y1 y2 HD HBq HOq HBw
       have HKL:=am (show kk≤out.length from by rw[HKD.out];exact downTo_le _ _ _)
       have HO6:=am (Kd.R_below (Kd.R_below HO.out HW.out) HB6.out)
       have HBW6:=am (below_step (below_step HB.out HW.out) HB6.out)
       have y0:=(HB6.out.cell (p:=⟨bx,0,none⟩) HLT.out).trans HX1.out.1
       have y1:=(HB6.out.cell (p:=⟨bx,1,none⟩) HLT.out).trans HX1.out.2.1
       have y2:=(HB6.out.cell (p:=⟨bx,2,none⟩) HLT.out).trans HX1.out.2.2
       go_wp2
       obtain⟨Ad,hAd⟩:∃ Ad,Ad=(if co=kk then Ao else Ao.map (·.add (kk*3))):=⟨_,rfl⟩
       obtain⟨i0_,hi0_,_,hsz_,_⟩:=info_parts infoH
       have hct:=cut_to (P:=Try.prog) 34 51 .i64 Try.underlying34 hi0_ Ao out.length co (kk:Int) (by omega) (by have:=HKL.out;omega) (Kd.R_reads' HO6.out).2.1
       have hcf:=cut_from (P:=Try.prog) 34 51 .i64 Try.underlying34 hi0_ 3 hsz_ Ao out.length co (kk:Int) (by omega) (by have:=HKL.out;omega)
       rw[Int.toNat_natCast] at hct hcf
       rw[← hAd] at hcf
       clear hi0_ hsz_
       refine start_ (n:=13) (S:=fun w'=>w'.cell? ⟨bx,0,none⟩=some (.int .i64 x.f0)∧w'.cell? ⟨bx,1,none⟩=some (.int .i64 x.f1)∧w'.cell? ⟨bx,2,none⟩=some (.int .i64 x.f2)) (ds:=[]) (fl 0 13) (by kernel_rfl) rfl rfl ⟨y0,y1,y2⟩ (fun hHeld=>?_)
       refine with_tabW a_tab a_bits (fun HT_ HW_=>?_)
       obtain⟨w7,hw7⟩:∃ w7,w7=w6.drew:=⟨_,rfl⟩
       have HO7:=am (show Kd.R k51 51 w7 w.heap.size (fun _=>True) (.slice Ao out.length co) out from by rw[hw7];exact Kd.R_drew HO6.out)
       have HB7:=am (show Below w.heap.size w w7 from by rw[hw7];exact below_drew1 HBW6.out)
       have HTK:=am (Kd.C_take (m:=kk) (Kd.R_reads' HO7.out).2.2 HKL.out)
       have HDR:=am (Kd.C_drop (m:=kk) (c:=co) (Kd.R_reads' HO7.out).2.2 HKL.out (Kd.R_reads' HO7.out).2.1)
       have HLK:=am (show(out.take kk).length=kk from by rw[List.length_take];have:=HKL.out;omega)
       have HLD:=am (show(out.drop kk).length=out.length - kk from List.length_drop)
       have HS7:=am (show(w7.cell? ⟨bx,0,none⟩=some (.int .i64 x.f0)∧w7.cell? ⟨bx,1,none⟩=some (.int .i64 x.f1)∧w7.cell? ⟨bx,2,none⟩=some (.int .i64 x.f2)) from by rw[hw7];exact⟨y0,y1,y2⟩)
       have HLT7:=am (World.block_lt_of_cell? w7 _ HS7.out.1)
       have HB0:=am (Below.refl w7.heap.size w7)
       have HAD:=am hAd
       rw[← hw7] at hHeld ⊢
       clear hw7 hAd y0 y1 y2 HBW6 HO6
       refine pu HT_.out 1 (some 30) #[false,true,false,false,false,false,false,false,false,false,false,false,false] (h:=?_)
       refine pu HT_.out 2 (some 31) #[false,true,true,false,false,false,false,false,false,false,false,false,false] (h:=?_)
       refine pu HT_.out 3 (some 32) #[false,true,true,true,false,false,false,false,false,false,false,false,false] (h:=?_)
       refine ta HT_.out HW_.out 5 (some 34) #[false,true,true,true,false,true,false,false,false,false,false,false,false] hHeld rfl (by rintro w' ⟨s0,s1,s2⟩;go_simp;with_reducible rfl) (h:=?_)
       refine pu HT_.out 8 (some 37) #[false,true,true,true,false,true,false,false,true,false,false,false,false] (h:=?_)
       refine pu HT_.out 9 (some 38) #[false,true,true,true,false,true,false,false,true,true,false,false,false] (h:=?_)
       refine pu HT_.out 10 (some 39) #[false,true,true,true,false,true,false,false,true,true,true,false,false] (h:=?_)
       refine two_ (i:=0) (j:=6) (Ni:=some 29) (Nj:=some 35) #[true,true,true,true,false,true,false,false,true,true,true,false,false] #[false,true,true,true,false,true,true,false,true,true,true,false,false] rfl rfl rfl rfl (two_of HT_.out (by kernel_rfl)) (by decide) (by decide) (fun K hK=>?_) (fun K hK=>?_)
       ·refine Kd.R_lit_step k51 (w0:=w7) w7.heap.size 51 (by rfl) (N:=29) rfl (xs:=([]:List S51)) (inner:=[]) (ok:=fun _=>True) (okp:=fun _=>True) ?hr (Reps.none _ _) (fun _ hk_=>hk_) trivial HB0.out (below_size HB0.out) (by simp) ?_
        (case hr=>first|(go_simp;done)|(go_simp;rfl))
        intro v1 u1 ho hb hg hnew
        have HV1:=am ho
        have HB1:=am hb
        have HG1:=am hg
        have HN1:=am hnew
        clear ho hb hg hnew
        refine hK.out _ _ ⟨(HB1.out.cell (p:=⟨bx,0,none⟩) HLT7.out).trans HS7.out.1,(HB1.out.cell (p:=⟨bx,1,none⟩) HLT7.out).trans HS7.out.2.1,(HB1.out.cell (p:=⟨bx,2,none⟩) HLT7.out).trans HS7.out.2.2⟩ (fun hHeld=>?_)
        clear hK K
        refine norm_ (a':=?_) ?_ ?_
        rotate_left
        ·show Act.put _ (some 29) _=_
         simp only[Act.put,List.setIfInBounds_toArray,List.set_cons_zero,List.set_cons_succ,i64_w,i32_w]
         rfl
        refine two_ (i:=4) (j:=6) (Ni:=some 33) (Nj:=some 35) #[true,true,true,true,true,true,false,false,true,true,true,false,false] #[true,true,true,true,false,true,true,false,true,true,true,false,false] rfl rfl rfl rfl (two_of HT_.out (by kernel_rfl)) (by decide) (by decide) (fun K hK=>?_) (fun K hK=>?_)
        ·refine Kd.R_append_rows_step k51 (w0:=w7) w7.heap.size (by rfl) (.tmp 29) (.tmp 32) 34 51 (.agg #[.int .i64 0,.int .i64 0,.int .i64 0]) 24 rfl Try.underlying34 infoH rfl (by decide) (by omega) v1 ([]:List S51) (out.take kk) Ao kk co (fun _=>True) (fun _=>False) rfl rfl ?aO ?aR (fun _ _ h_=>h_) (fun _ h_=>h_.elim) (fun _ _=>trivial) ?aB ?aS ?aL ?_
         (case aO=>exact HV1.out)
         (case aR=>exact(by have h_:=Kd.C_below HTK.out HB1.out;rw[HLK.out] at h_;exact h_))
         (case aB=>exact HB1.out)
         (case aS=>exact below_size HB1.out)
         (case aL=>have:=HOL.out;have:=HKL.out;simp only[List.length_nil];omega)
         intro v2 u2 ho hb hg hat
         have HV2:=am ho
         have HB2:=am hb
         have HG2:=am hg
         clear ho hb hg hat
         refine hK.out _ _ ⟨(HB2.out.cell (p:=⟨bx,0,none⟩) HLT7.out).trans HS7.out.1,(HB2.out.cell (p:=⟨bx,1,none⟩) HLT7.out).trans HS7.out.2.1,(HB2.out.cell (p:=⟨bx,2,none⟩) HLT7.out).trans HS7.out.2.2⟩ (fun hHeld=>?_)
         clear hK K
         refine norm_ (a':=?_) ?_ ?_
         rotate_left
         ·show Act.put _ (some 33) _=_
          simp only[Act.put,List.setIfInBounds_toArray,List.set_cons_zero,List.set_cons_succ,i64_w,i32_w]
          rfl
         refine one_ (i:=6) (N:=some 35) #[true,true,true,true,true,true,true,false,true,true,true,false,false] rfl rfl (one_of HT_.out (by kernel_rfl)) (by decide) (fun K hK=>?_)
         refine Kd.R_lit_step k51 (w0:=w7) w7.heap.size 51 (by rfl) (N:=35) rfl (xs:=[x]) (inner:=[.int .i64 x.f0,.int .i64 x.f1,.int .i64 x.f2]) (ok:=fun k_=>k_=u2.heap.size) (okp:=fun _=>False) ?hr ?hp (fun _ hk_=>hk_.elim) rfl HB2.out (below_size HB2.out) (by simp) ?_
         (case hr=>first|(go_simp;done)|(go_simp;rfl))
         (case hp=>exact(Reps.none _ _).snoc (k51_mkM _ _ _ x) rfl)
         intro v3 u3 ho hb hg hnew
         obtain⟨AX,cX,eX⟩:=Kd.R_slice ho
         subst eX
         have HX3:=am ho
         have HB3:=am hb
         have HG3:=am hg
         clear ho hb hg hnew
         refine hK.out _ _ ⟨(HB3.out.cell (p:=⟨bx,0,none⟩) HLT7.out).trans HS7.out.1,(HB3.out.cell (p:=⟨bx,1,none⟩) HLT7.out).trans HS7.out.2.1,(HB3.out.cell (p:=⟨bx,2,none⟩) HLT7.out).trans HS7.out.2.2⟩ (fun hHeld=>?_)
         clear hK K
         refine norm_ (a':=?_) ?_ ?_
         rotate_left
         ·show Act.put _ (some 35) _=_
          simp only[Act.put,List.setIfInBounds_toArray,List.set_cons_zero,List.set_cons_succ,i64_w,i32_w]
          rfl
         have HV3:=am (Kd.R_grown HV2.out HG3.out (fun _ _ e_=>by cases e_))
         refine one_ (i:=7) (N:=some 36) (fl 11 13) rfl rfl (one_of HT_.out (by kernel_rfl)) (by decide) (fun K hK=>?_)
         refine Kd.R_append_rows_step k51 (w0:=w7) w7.heap.size (by rfl) (.tmp 33) (.tmp 35) 34 51 (.agg #[.int .i64 0,.int .i64 0,.int .i64 0]) 24 rfl Try.underlying34 infoH rfl (by decide) (by omega) v2 ([] ++ out.take kk) [x] AX [x].length cX (fun _=>True) (fun _=>False) rfl rfl ?aO ?aR (fun _ _ h_=>h_) (fun _ h_=>h_.elim) (fun _ _=>trivial) ?aB ?aS ?aL ?_
         (case aO=>exact HV3.out)
         (case aR=>exact(Kd.R_reads' HX3.out).2.2)
         (case aB=>exact HB3.out)
         (case aS=>exact below_size HB3.out)
         (case aL=>have:=HOL.out;have:=HLK.out;have:=HKL.out;simp only[List.nil_append,List.length_append,List.length_nil,List.length_cons];omega)
         intro v4 u4 ho hb hg hat
         have HV4:=am ho
         have HB4:=am hb
         have HG4:=am hg
         clear ho hb hg hat
         refine hK.out _ _ ⟨(HB4.out.cell (p:=⟨bx,0,none⟩) HLT7.out).trans HS7.out.1,(HB4.out.cell (p:=⟨bx,1,none⟩) HLT7.out).trans HS7.out.2.1,(HB4.out.cell (p:=⟨bx,2,none⟩) HLT7.out).trans HS7.out.2.2⟩ (fun hHeld=>?_)
         clear hK K
         refine norm_ (a':=?_) ?_ ?_
         rotate_left
         ·show Act.put _ (some 36) _=_
          simp only[Act.put,List.setIfInBounds_toArray,List.set_cons_zero,List.set_cons_succ,i64_w,i32_w]
          rfl
         refine one_ (i:=11) (N:=some 40) (fl 12 13) rfl rfl (one_of HT_.out (by kernel_rfl)) (by decide) (fun K hK=>?_)
         refine Kd.R_append_rows_step k51 (w0:=w7) w7.heap.size (by rfl) (.tmp 36) (.tmp 39) 34 51 (.agg #[.int .i64 0,.int .i64 0,.int .i64 0]) 24 rfl Try.underlying34 infoH rfl (by decide) (by omega) v4 ([] ++ out.take kk ++ [x]) (out.drop kk) Ad (out.length - kk) (co - kk) (fun _=>True) (fun _=>False) rfl rfl ?aO ?aR (fun _ _ h_=>h_) (fun _ h_=>h_.elim) (fun _ _=>trivial) ?aB ?aS ?aL ?_
         (case aO=>exact HV4.out)
         (case aR=>exact(by have h_:=Kd.C_below HDR.out HB4.out;rw[HLD.out] at h_;rw[HAD.out];exact h_))
         (case aB=>exact HB4.out)
         (case aS=>exact below_size HB4.out)
         (case aL=>have:=HOL.out;have:=HLK.out;have:=HKL.out;simp only[List.nil_append,List.length_append,List.length_nil,List.length_cons];omega)
         intro v5 u5 ho hb hg hat
         have HV5:=am ho
         have HB5:=am hb
         have HG5:=am hg
         clear ho hb hg hat
         refine hK.out _ _ ⟨(HB5.out.cell (p:=⟨bx,0,none⟩) HLT7.out).trans HS7.out.1,(HB5.out.cell (p:=⟨bx,1,none⟩) HLT7.out).trans HS7.out.2.1,(HB5.out.cell (p:=⟨bx,2,none⟩) HLT7.out).trans HS7.out.2.2⟩ (fun hHeld=>?_)
         clear hK K
         refine norm_ (a':=?_) ?_ ?_
         rotate_left
         ·show Act.put _ (some 40) _=_
          simp only[Act.put,List.setIfInBounds_toArray,List.set_cons_zero,List.set_cons_succ,i64_w,i32_w]
          rfl
         refine pu HT_.out 12 (some 4) (fl 13 13) (h:=?_)
         refine done_ (done_of HT_.out (by kernel_rfl)) ?_
         go_wp2
         go_roundw
         case rel=>exact⟨i+1,⟨by have:=HI2.out;omega⟩,(by first|rfl|(congr 1;done)|(congr 1;have:=HI2.out;have:=HL.out;first|omega|(unfold wrap64;omega))),⟨by have h_:=HV5.out;rw[HX.out,insAll_snoc,← HE.out];unfold insAt;rw[← HKD.out];exact Kd.R_lower h_ (below_size HB7.out)⟩,⟨below_step HB7.out HB5.out⟩⟩
         case measure=>have:=HI2.out;have:=HL.out;have hw:wrap64 ((i:Int)+1)=(i:Int)+1:=(by unfold wrap64;omega);(show l0.length - (intOf (Value.int .i64 (wrap64 ((i:Int)+1)))).toNat<l0.length - (intOf (Value.int .i64 (i:Int))).toNat);rw[hw];show l0.length - ((i:Int)+1).toNat<l0.length - (i:Int).toNat;omega
        ·refine Kd.R_lit_step k51 (w0:=w7) w7.heap.size 51 (by rfl) (N:=35) rfl (xs:=[x]) (inner:=[.int .i64 x.f0,.int .i64 x.f1,.int .i64 x.f2]) (ok:=fun k_=>k_=u1.heap.size) (okp:=fun _=>False) ?hr ?hp (fun _ hk_=>hk_.elim) rfl HB1.out (below_size HB1.out) (by simp) ?_
         (case hr=>first|(go_simp;done)|(go_simp;rfl))
         (case hp=>exact(Reps.none _ _).snoc (k51_mkM _ _ _ x) rfl)
         intro v2 u2 ho hb hg hnew
         obtain⟨AX,cX,eX⟩:=Kd.R_slice ho
         subst eX
         have HX2:=am ho
         have HB2:=am hb
         have HG2:=am hg
         clear ho hb hg hnew
         refine hK.out _ _ ⟨(HB2.out.cell (p:=⟨bx,0,none⟩) HLT7.out).trans HS7.out.1,(HB2.out.cell (p:=⟨bx,1,none⟩) HLT7.out).trans HS7.out.2.1,(HB2.out.cell (p:=⟨bx,2,none⟩) HLT7.out).trans HS7.out.2.2⟩ (fun hHeld=>?_)
         clear hK K
         refine norm_ (a':=?_) ?_ ?_
         rotate_left
         ·show Act.put _ (some 35) _=_
          simp only[Act.put,List.setIfInBounds_toArray,List.set_cons_zero,List.set_cons_succ,i64_w,i32_w]
          rfl
         have HV2:=am (Kd.R_grown HV1.out HG2.out (fun _ _ e_=>by cases e_))
         refine one_ (i:=4) (N:=some 33) #[true,true,true,true,true,true,true,false,true,true,true,false,false] rfl rfl (one_of HT_.out (by kernel_rfl)) (by decide) (fun K hK=>?_)
         refine Kd.R_append_rows_step k51 (w0:=w7) w7.heap.size (by rfl) (.tmp 29) (.tmp 32) 34 51 (.agg #[.int .i64 0,.int .i64 0,.int .i64 0]) 24 rfl Try.underlying34 infoH rfl (by decide) (by omega) v1 ([]:List S51) (out.take kk) Ao kk co (fun _=>True) (fun _=>False) rfl rfl ?aO ?aR (fun _ _ h_=>h_) (fun _ h_=>h_.elim) (fun _ _=>trivial) ?aB ?aS ?aL ?_
         (case aO=>exact HV2.out)
         (case aR=>exact(by have h_:=Kd.C_below HTK.out HB2.out;rw[HLK.out] at h_;exact h_))
         (case aB=>exact HB2.out)
         (case aS=>exact below_size HB2.out)
         (case aL=>have:=HOL.out;have:=HKL.out;simp only[List.length_nil];omega)
         intro v3 u3 ho hb hg hat
         have HV3:=am ho
         have HB3:=am hb
         have HG3:=am hg
         clear ho hb hg hat
         refine hK.out _ _ ⟨(HB3.out.cell (p:=⟨bx,0,none⟩) HLT7.out).trans HS7.out.1,(HB3.out.cell (p:=⟨bx,1,none⟩) HLT7.out).trans HS7.out.2.1,(HB3.out.cell (p:=⟨bx,2,none⟩) HLT7.out).trans HS7.out.2.2⟩ (fun hHeld=>?_)
         clear hK K
         refine norm_ (a':=?_) ?_ ?_
         rotate_left
         ·show Act.put _ (some 33) _=_
          simp only[Act.put,List.setIfInBounds_toArray,List.set_cons_zero,List.set_cons_succ,i64_w,i32_w]
          rfl
         have HX3:=am (Kd.R_grown HX2.out HG3.out (fun k_ hk_ e_=>absurd ((Kd.R_bound HV1.out).1 k_ e_.symm).2.2.1 (by rw[hk_];exact Nat.lt_irrefl _)))
         refine one_ (i:=7) (N:=some 36) (fl 11 13) rfl rfl (one_of HT_.out (by kernel_rfl)) (by decide) (fun K hK=>?_)
         refine Kd.R_append_rows_step k51 (w0:=w7) w7.heap.size (by rfl) (.tmp 33) (.tmp 35) 34 51 (.agg #[.int .i64 0,.int .i64 0,.int .i64 0]) 24 rfl Try.underlying34 infoH rfl (by decide) (by omega) v3 ([] ++ out.take kk) [x] AX [x].length cX (fun _=>True) (fun _=>False) rfl rfl ?aO ?aR (fun _ _ h_=>h_) (fun _ h_=>h_.elim) (fun _ _=>trivial) ?aB ?aS ?aL ?_
         (case aO=>exact HV3.out)
         (case aR=>exact(Kd.R_reads' HX3.out).2.2)
         (case aB=>exact HB3.out)
         (case aS=>exact below_size HB3.out)
         (case aL=>have:=HOL.out;have:=HLK.out;have:=HKL.out;simp only[List.nil_append,List.length_append,List.length_nil,List.length_cons];omega)
         intro v4 u4 ho hb hg hat
         have HV4:=am ho
         have HB4:=am hb
         have HG4:=am hg
         clear ho hb hg hat
         refine hK.out _ _ ⟨(HB4.out.cell (p:=⟨bx,0,none⟩) HLT7.out).trans HS7.out.1,(HB4.out.cell (p:=⟨bx,1,none⟩) HLT7.out).trans HS7.out.2.1,(HB4.out.cell (p:=⟨bx,2,none⟩) HLT7.out).trans HS7.out.2.2⟩ (fun hHeld=>?_)
         clear hK K
         refine norm_ (a':=?_) ?_ ?_
         rotate_left
         ·show Act.put _ (some 36) _=_
          simp only[Act.put,List.setIfInBounds_toArray,List.set_cons_zero,List.set_cons_succ,i64_w,i32_w]
          rfl
         refine one_ (i:=11) (N:=some 40) (fl 12 13) rfl rfl (one_of HT_.out (by kernel_rfl)) (by decide) (fun K hK=>?_)
         refine Kd.R_append_rows_step k51 (w0:=w7) w7.heap.size (by rfl) (.tmp 36) (.tmp 39) 34 51 (.agg #[.int .i64 0,.int .i64 0,.int .i64 0]) 24 rfl Try.underlying34 infoH rfl (by decide) (by omega) v4 ([] ++ out.take kk ++ [x]) (out.drop kk) Ad (out.length - kk) (co - kk) (fun _=>True) (fun _=>False) rfl rfl ?aO ?aR (fun _ _ h_=>h_) (fun _ h_=>h_.elim) (fun _ _=>trivial) ?aB ?aS ?aL ?_
         (case aO=>exact HV4.out)
         (case aR=>exact(by have h_:=Kd.C_below HDR.out HB4.out;rw[HLD.out] at h_;rw[HAD.out];exact h_))
         (case aB=>exact HB4.out)
         (case aS=>exact below_size HB4.out)
         (case aL=>have:=HOL.out;have:=HLK.out;have:=HKL.out;simp only[List.nil_append,List.length_append,List.length_nil,List.length_cons];omega)
         intro v5 u5 ho hb hg hat
         have HV5:=am ho
         have HB5:=am hb
         have HG5:=am hg
         clear ho hb hg hat
         refine hK.out _ _ ⟨(HB5.out.cell (p:=⟨bx,0,none⟩) HLT7.out).trans HS7.out.1,(HB5.out.cell (p:=⟨bx,1,none⟩) HLT7.out).trans HS7.out.2.1,(HB5.out.cell (p:=⟨bx,2,none⟩) HLT7.out).trans HS7.out.2.2⟩ (fun hHeld=>?_)
         clear hK K
         refine norm_ (a':=?_) ?_ ?_
         rotate_left
         ·show Act.put _ (some 40) _=_
          simp only[Act.put,List.setIfInBounds_toArray,List.set_cons_zero,List.set_cons_succ,i64_w,i32_w]
          rfl
         refine pu HT_.out 12 (some 4) (fl 13 13) (h:=?_)
         refine done_ (done_of HT_.out (by kernel_rfl)) ?_
         go_wp2
         go_roundw
         case rel=>exact⟨i+1,⟨by have:=HI2.out;omega⟩,(by first|rfl|(congr 1;done)|(congr 1;have:=HI2.out;have:=HL.out;first|omega|(unfold wrap64;omega))),⟨by have h_:=HV5.out;rw[HX.out,insAll_snoc,← HE.out];unfold insAt;rw[← HKD.out];exact Kd.R_lower h_ (below_size HB7.out)⟩,⟨below_step HB7.out HB5.out⟩⟩
         case measure=>have:=HI2.out;have:=HL.out;have hw:wrap64 ((i:Int)+1)=(i:Int)+1:=(by unfold wrap64;omega);(show l0.length - (intOf (Value.int .i64 (wrap64 ((i:Int)+1)))).toNat<l0.length - (intOf (Value.int .i64 (i:Int))).toNat);rw[hw];show l0.length - ((i:Int)+1).toNat<l0.length - (i:Int).toNat;omega
       ·refine Kd.R_lit_step k51 (w0:=w7) w7.heap.size 51 (by rfl) (N:=35) rfl (xs:=[x]) (inner:=[.int .i64 x.f0,.int .i64 x.f1,.int .i64 x.f2]) (ok:=fun k_=>k_=w7.heap.size) (okp:=fun _=>False) ?hr ?hp (fun _ hk_=>hk_.elim) rfl HB0.out (below_size HB0.out) (by simp) ?_
        (case hr=>first|(go_simp;done)|(go_simp;rfl))
        (case hp=>exact(Reps.none _ _).snoc (k51_mkM _ _ _ x) rfl)
        intro v1 u1 ho hb hg hnew
        obtain⟨AX,cX,eX⟩:=Kd.R_slice ho
        subst eX
        have HX1x:=am ho
        have HSZ:=am (show w7.heap.size<u1.heap.size from((Kd.R_bound ho).1 w7.heap.size (by obtain⟨b_,h1_,h2_⟩:=hnew;rw[h1_];have h3_:=ho.1 b_ h1_;rw[h3_])).2.2.1)
        have HB1:=am hb
        have HG1:=am hg
        clear ho hb hg hnew
        refine hK.out _ _ ⟨(HB1.out.cell (p:=⟨bx,0,none⟩) HLT7.out).trans HS7.out.1,(HB1.out.cell (p:=⟨bx,1,none⟩) HLT7.out).trans HS7.out.2.1,(HB1.out.cell (p:=⟨bx,2,none⟩) HLT7.out).trans HS7.out.2.2⟩ (fun hHeld=>?_)
        clear hK K
        refine norm_ (a':=?_) ?_ ?_
        rotate_left
        ·show Act.put _ (some 35) _=_
         simp only[Act.put,List.setIfInBounds_toArray,List.set_cons_zero,List.set_cons_succ,i64_w,i32_w]
         rfl
        refine one_ (i:=0) (N:=some 29) #[true,true,true,true,false,true,true,false,true,true,true,false,false] rfl rfl (one_of HT_.out (by kernel_rfl)) (by decide) (fun K hK=>?_)
        refine Kd.R_lit_step k51 (w0:=w7) w7.heap.size 51 (by rfl) (N:=29) rfl (xs:=([]:List S51)) (inner:=[]) (ok:=fun _=>True) (okp:=fun _=>True) ?hr (Reps.none _ _) (fun _ hk_=>hk_) trivial HB1.out (below_size HB1.out) (by simp) ?_
        (case hr=>first|(go_simp;done)|(go_simp;rfl))
        intro v2 u2 ho hb hg hnew
        have HV2:=am ho
        have HB2:=am hb
        have HG2:=am hg
        have HN2:=am hnew
        clear ho hb hg hnew
        refine hK.out _ _ ⟨(HB2.out.cell (p:=⟨bx,0,none⟩) HLT7.out).trans HS7.out.1,(HB2.out.cell (p:=⟨bx,1,none⟩) HLT7.out).trans HS7.out.2.1,(HB2.out.cell (p:=⟨bx,2,none⟩) HLT7.out).trans HS7.out.2.2⟩ (fun hHeld=>?_)
        clear hK K
        refine norm_ (a':=?_) ?_ ?_
        rotate_left
        ·show Act.put _ (some 29) _=_
         simp only[Act.put,List.setIfInBounds_toArray,List.set_cons_zero,List.set_cons_succ,i64_w,i32_w]
         rfl
        have HX2:=am (Kd.R_grown HX1x.out HG2.out (fun _ _ e_=>by cases e_))
        refine one_ (i:=4) (N:=some 33) #[true,true,true,true,true,true,true,false,true,true,true,false,false] rfl rfl (one_of HT_.out (by kernel_rfl)) (by decide) (fun K hK=>?_)
        refine Kd.R_append_rows_step k51 (w0:=w7) w7.heap.size (by rfl) (.tmp 29) (.tmp 32) 34 51 (.agg #[.int .i64 0,.int .i64 0,.int .i64 0]) 24 rfl Try.underlying34 infoH rfl (by decide) (by omega) v2 ([]:List S51) (out.take kk) Ao kk co (fun _=>True) (fun _=>False) rfl rfl ?aO ?aR (fun _ _ h_=>h_) (fun _ h_=>h_.elim) (fun _ _=>trivial) ?aB ?aS ?aL ?_
        (case aO=>exact HV2.out)
        (case aR=>exact(by have h_:=Kd.C_below HTK.out HB2.out;rw[HLK.out] at h_;exact h_))
        (case aB=>exact HB2.out)
        (case aS=>exact below_size HB2.out)
        (case aL=>have:=HOL.out;have:=HKL.out;simp only[List.length_nil];omega)
        intro v3 u3 ho hb hg hat
        have HV3:=am ho
        have HB3:=am hb
        have HG3:=am hg
        clear ho hb hg hat
        refine hK.out _ _ ⟨(HB3.out.cell (p:=⟨bx,0,none⟩) HLT7.out).trans HS7.out.1,(HB3.out.cell (p:=⟨bx,1,none⟩) HLT7.out).trans HS7.out.2.1,(HB3.out.cell (p:=⟨bx,2,none⟩) HLT7.out).trans HS7.out.2.2⟩ (fun hHeld=>?_)
        clear hK K
        refine norm_ (a':=?_) ?_ ?_
        rotate_left
        ·show Act.put _ (some 33) _=_
         simp only[Act.put,List.setIfInBounds_toArray,List.set_cons_zero,List.set_cons_succ,i64_w,i32_w]
         rfl
        have HX3:=am (Kd.R_grown HX2.out HG3.out (fun k_ hk_ e_=>by obtain⟨b_,h1_,h2_⟩:=HN2.out;rw[h1_] at e_;have h3_:=HSZ.out;have h4_:=Option.some.inj e_;omega))
        refine one_ (i:=7) (N:=some 36) (fl 11 13) rfl rfl (one_of HT_.out (by kernel_rfl)) (by decide) (fun K hK=>?_)
        refine Kd.R_append_rows_step k51 (w0:=w7) w7.heap.size (by rfl) (.tmp 33) (.tmp 35) 34 51 (.agg #[.int .i64 0,.int .i64 0,.int .i64 0]) 24 rfl Try.underlying34 infoH rfl (by decide) (by omega) v3 ([] ++ out.take kk) [x] AX [x].length cX (fun _=>True) (fun _=>False) rfl rfl ?aO ?aR (fun _ _ h_=>h_) (fun _ h_=>h_.elim) (fun _ _=>trivial) ?aB ?aS ?aL ?_
        (case aO=>exact HV3.out)
        (case aR=>exact(Kd.R_reads' HX3.out).2.2)
        (case aB=>exact HB3.out)
        (case aS=>exact below_size HB3.out)
        (case aL=>have:=HOL.out;have:=HLK.out;have:=HKL.out;simp only[List.nil_append,List.length_append,List.length_nil,List.length_cons];omega)
        intro v4 u4 ho hb hg hat
        have HV4:=am ho
        have HB4:=am hb
        have HG4:=am hg
        clear ho hb hg hat
        refine hK.out _ _ ⟨(HB4.out.cell (p:=⟨bx,0,none⟩) HLT7.out).trans HS7.out.1,(HB4.out.cell (p:=⟨bx,1,none⟩) HLT7.out).trans HS7.out.2.1,(HB4.out.cell (p:=⟨bx,2,none⟩) HLT7.out).trans HS7.out.2.2⟩ (fun hHeld=>?_)
        clear hK K
        refine norm_ (a':=?_) ?_ ?_
        rotate_left
        ·show Act.put _ (some 36) _=_
         simp only[Act.put,List.setIfInBounds_toArray,List.set_cons_zero,List.set_cons_succ,i64_w,i32_w]
         rfl
        refine one_ (i:=11) (N:=some 40) (fl 12 13) rfl rfl (one_of HT_.out (by kernel_rfl)) (by decide) (fun K hK=>?_)
        refine Kd.R_append_rows_step k51 (w0:=w7) w7.heap.size (by rfl) (.tmp 36) (.tmp 39) 34 51 (.agg #[.int .i64 0,.int .i64 0,.int .i64 0]) 24 rfl Try.underlying34 infoH rfl (by decide) (by omega) v4 ([] ++ out.take kk ++ [x]) (out.drop kk) Ad (out.length - kk) (co - kk) (fun _=>True) (fun _=>False) rfl rfl ?aO ?aR (fun _ _ h_=>h_) (fun _ h_=>h_.elim) (fun _ _=>trivial) ?aB ?aS ?aL ?_
        (case aO=>exact HV4.out)
        (case aR=>exact(by have h_:=Kd.C_below HDR.out HB4.out;rw[HLD.out] at h_;rw[HAD.out];exact h_))
        (case aB=>exact HB4.out)
        (case aS=>exact below_size HB4.out)
        (case aL=>have:=HOL.out;have:=HLK.out;have:=HKL.out;simp only[List.nil_append,List.length_append,List.length_nil,List.length_cons];omega)
        intro v5 u5 ho hb hg hat
        have HV5:=am ho
        have HB5:=am hb
        have HG5:=am hg
        clear ho hb hg hat
        refine hK.out _ _ ⟨(HB5.out.cell (p:=⟨bx,0,none⟩) HLT7.out).trans HS7.out.1,(HB5.out.cell (p:=⟨bx,1,none⟩) HLT7.out).trans HS7.out.2.1,(HB5.out.cell (p:=⟨bx,2,none⟩) HLT7.out).trans HS7.out.2.2⟩ (fun hHeld=>?_)
        clear hK K
        refine norm_ (a':=?_) ?_ ?_
        rotate_left
        ·show Act.put _ (some 40) _=_
         simp only[Act.put,List.setIfInBounds_toArray,List.set_cons_zero,List.set_cons_succ,i64_w,i32_w]
         rfl
        refine pu HT_.out 12 (some 4) (fl 13 13) (h:=?_)
        refine done_ (done_of HT_.out (by kernel_rfl)) ?_
        go_wp2
        go_roundw
        case rel=>exact⟨i+1,⟨by have:=HI2.out;omega⟩,(by first|rfl|(congr 1;done)|(congr 1;have:=HI2.out;have:=HL.out;first|omega|(unfold wrap64;omega))),⟨by have h_:=HV5.out;rw[HX.out,insAll_snoc,← HE.out];unfold insAt;rw[← HKD.out];exact Kd.R_lower h_ (below_size HB7.out)⟩,⟨below_step HB7.out HB5.out⟩⟩
        case measure=>have:=HI2.out;have:=HL.out;have hw:wrap64 ((i:Int)+1)=(i:Int)+1:=(by unfold wrap64;omega);(show l0.length - (intOf (Value.int .i64 (wrap64 ((i:Int)+1)))).toNat<l0.length - (intOf (Value.int .i64 (i:Int))).toNat);rw[hw];show l0.length - ((i:Int)+1).toNat<l0.length - (i:Int).toNat;omega
    ·have qz:¬ ((i:Int)<(l0.length:Int)):=by omega
     have hE:out=insAll l0:=by rw[HE.out,List.take_of_length_le (by omega)]
     have HEE:=am hE
     clear q_ hE
     cases q with
     | false =>
      go_wp2_with (first|(go_at_call 33;(refine(spec_shGood.calls k Ao co out false _ (Kd.R_reads' HO.out).2.2 (Kd.R_reads' HO.out).2.1 (HEE.out ▸ HQ.out)).mono ?_);rintro e w7 ⟨rfl,hb⟩;have HB7:=am (below_step HB.out hb);clear hb))
      go_ret2
      have hR:(([]:List S51),false)=(r1,r2):=by simpa using HRES.out
      cases hR
      exact⟨_,rfl,Kd.R_nil _ _ _ _ _,HB7.out⟩
     | true =>
      go_wp2_with (first|(go_at_call 33;(refine(spec_shGood.calls k Ao co out true _ (Kd.R_reads' HO.out).2.2 (Kd.R_reads' HO.out).2.1 (HEE.out ▸ HQ.out)).mono ?_);rintro e w7 ⟨rfl,hb⟩;have HB7:=am (below_step HB.out hb);have HR7:=am (Kd.R_below HO.out hb);clear hb))
      go_ret2
      have hR:(insAll l0,true)=(r1,r2):=by simpa using HRES.out
      cases hR
      exact⟨_,rfl,HEE.out ▸ HR7.out,HB7.out⟩
 ·rw[if_neg hl] at h;cases h

end Go.Proofs.Ythmpginbaafbhaa.PFnExactRepairToPlay
