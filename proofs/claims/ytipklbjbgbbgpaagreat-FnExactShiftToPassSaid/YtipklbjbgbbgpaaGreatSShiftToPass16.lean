/- Walks of functions that FnExactShiftToPass reaches. No conditions beyond the arguments' being read. -/
import Derived.Test.YtipklbjbgbbgpaaGreatSShiftToPass0
import Derived.Test.YtipklbjbgbbgpaaGreatSShiftToPass8
import Derived.Test.YtipklbjbgbbgpaaGreatSShiftToPass10
namespace Go.Proofs.YtipklbjbgbbgpaaGreat.PFnExactShiftToPass
open Go.RowKit Go.Proofs.YtipklbjbgbbgpaaGreatW.PrintWords Go.Proofs.YtipklbjbgbbgpaaGreatW.PrintLast Go.Proofs.YtipklbjbgbbgpaaGreatW.PrintMore
attribute [local go_sem] max2_int min2_int max_two min_two max_three min_three max_four min_four
set_option linter.unusedVariables false
set_option linter.unusedSimpArgs false

def impl_holeErrors.f (a0_0:Int) (a0_1:Int) (a0_2:Int) (a1_0:Int) (a1_1:Int) (a1_2:Int):Option (List Int):=(impl_noteEnd.f a0_0 a0_1 a0_2).bind fun t383=>(some (([wrap64 (a1_1 - (wrap64 (2*a0_1))),wrap64 (a1_2 - (wrap64 ((wrap64 (2*t383)) - 1)))]:List Int)))
def impl_holeErrors.T1:Bool×List (List Nat×List Nat):=(true,[([],[]),([0],[0]),([],[]),([2],[2]),([3],[3]),([1,4],[1,4]),([],[]),([6],[6]),([],[]),([8],[8]),([9],[9]),([10],[10]),([7,11],[7,11]),([5,12],[5,12]),([13,9,0,1,2,3,4,5,6,7,8,9,10,11,12,13],[13])])
def impl_holeErrors.B1:List Nat:=[0,1,0,4,12,31,0,64,0,256,768,1792,4032,8191,16383]
theorem impl_holeErrors.tab1:rtab .any (opsOf Tryz.f47 1)=impl_holeErrors.T1:=by kernel_rfl
theorem impl_holeErrors.bits1:waitsOk impl_holeErrors.T1.2 impl_holeErrors.B1=true:=by kernel_rfl
set_option maxHeartbeats 8000000 in
set_option maxRecDepth 100000 in
theorem impl_holeErrors.calls (a0_0:Int) (a0_1:Int) (a0_2:Int) (a1_0:Int) (a1_1:Int) (a1_2:Int) (r:List Int) (w:World) (h:impl_holeErrors.f a0_0 a0_1 a0_2 a1_0 a1_1 a1_2=some r) :
  Calls Tryz.prog 47 #[.agg #[.int .i64 a0_0,.int .i64 a0_1,.int .i64 a0_2],.agg #[.int .i64 a1_0,.int .i64 a1_1,.int .i64 a1_2]] w fun e w'=>∃ v0_:Value,e = .returned (v0_)∧Kd.R (Kd.int .i64) 3 w' w.heap.size (fun _=>True) v0_ r∧Below w.heap.size w w':=by
 have hu55:=Tryz.underlying55
 have hu59:=Tryz.underlying59
 have HB:=am (Below.refl w.heap.size w)
 have H:((impl_noteEnd.f a0_0 a0_1 a0_2).bind fun t383=>(some (([wrap64 (a1_1 - (wrap64 (2*a0_1))),wrap64 (a1_2 - (wrap64 ((wrap64 (2*t383)) - 1)))]:List Int))))=some r:=h
 clear h
 obtain⟨t383,A3,H⟩:=bnd H
 obtain⟨y384,hy384⟩:∃ y_:List Int,y_=(([wrap64 (a1_1 - (wrap64 (2*a0_1))),wrap64 (a1_2 - (wrap64 ((wrap64 (2*t383)) - 1)))]:List Int)):=⟨_,rfl⟩
 replace H:(some y384)=some r:=by subst hy384;exact H
 have Ny384:=am hy384
 clear hy384
 obtain rfl:=Option.some.inj H
 go_enter Tryz.func47,Tryz.ntmps47
 try go_wp2_with (first|((with_reducible refine gate_dst (N:=2) rfl ?_);refine box_event ?hg (N:=2) ?hd (cs := #[.int .i64 a0_0,.int .i64 a0_1,.int .i64 a0_2]) (t:=55) ?hr ?_;(case hd=>rfl);(case hg=>rfl);(case hr=>first|(go_simp;done)|(go_simp;rfl));intro gb381 hg w4 hbox hb;have BK381:=am (hbox);have GW381:=am (ge_ bl hg);have GE381:=am (ge_ bl hg);replace HB:=am (below_step bl hb);clear hb hbox hg)|((with_reducible refine gate_dst (N:=3) rfl ?_);refine box_event ?hg (N:=3) ?hd (cs := #[.int .i64 a1_0,.int .i64 a1_1,.int .i64 a1_2]) (t:=59) ?hr ?_;(case hd=>rfl);(case hg=>rfl);(case hr=>first|(go_simp;done)|(go_simp;rfl));intro gb382 hg w5 hbox hb;have BK382:=am (hbox);have GW382:=am (ge_ bl hg);have GE382:=am (ge_ bl hg);replace HB:=am (below_step bl hb);have NB381_382:=am (nl (bup BK381.out) hg);have NB382_381:=am (ng (bup BK381.out) hg);replace BK381:=am (blk_below (bup BK381.out) hb);clear hb hbox hg))
 replace BK381:=am (bD_ BK381.out)
 replace BK382:=am (bD_ BK382.out)
 replace HB:=am (below_drew1 HB.out)
 refine start_ (n:=15) (S:=fun w'=>w'.cell? ⟨gb382,0,none⟩=some (.int .i64 a1_0)∧w'.cell? ⟨gb382,1,none⟩=some (.int .i64 a1_1)∧w'.cell? ⟨gb382,2,none⟩=some (.int .i64 a1_2)∧w'.cell? ⟨gb381,0,none⟩=some (.int .i64 a0_0)∧w'.cell? ⟨gb381,1,none⟩=some (.int .i64 a0_1)∧w'.cell? ⟨gb381,2,none⟩=some (.int .i64 a0_2)) (ds:=[]) (fl 0 15) (by kernel_rfl) rfl rfl ⟨bc BK382.out 0,bc BK382.out 1,bc BK382.out 2,bc BK381.out 0,bc BK381.out 1,bc BK381.out 2⟩ (fun hHeld=>?_);refine with_tabW impl_holeErrors.tab1 impl_holeErrors.bits1 (fun HT_ HW_=>?_)
 generalize w5.drew=w6 at BK381 BK382 HB hHeld ⊢
 refine pu HT_.out 0 (some 5) (fl 1 15) (h:=?_)
 refine pu HT_.out 2 (some 7) #[true,false,true,false,false,false,false,false,false,false,false,false,false,false,false] (h:=?_)
 refine pu HT_.out 6 (some 11) #[true,false,true,false,false,false,true,false,false,false,false,false,false,false,false] (h:=?_)
 refine ta HT_.out HW_.out 1 (some 6) #[true,true,true,false,false,false,true,false,false,false,false,false,false,false,false] hHeld rfl (by rintro w' ⟨s0,s1,s2,s3,s4,s5⟩;go_simp;with_reducible rfl) (h:=?_)
 refine ta HT_.out HW_.out 3 (some 8) #[true,true,true,true,false,false,true,false,false,false,false,false,false,false,false] hHeld rfl (by rintro w' ⟨s0,s1,s2,s3,s4,s5⟩;go_simp;with_reducible rfl) (h:=?_)
 refine pu HT_.out 4 (some 9) #[true,true,true,true,true,false,true,false,false,false,false,false,false,false,false] (h:=?_)
 refine pu HT_.out 5 (some 10) (fl 7 15) (h:=?_)
 refine ta HT_.out HW_.out 7 (some 12) (fl 8 15) hHeld rfl (by rintro w' ⟨s0,s1,s2,s3,s4,s5⟩;go_simp;with_reducible rfl) (h:=?_)
 refine ta HT_.out HW_.out 8 (some 13) (fl 9 15) hHeld rfl (by rintro w' ⟨s0,s1,s2,s3,s4,s5⟩;go_simp;with_reducible rfl) (h:=?_)
 refine one_ (i:=9) (N:=some 14) (fl 10 15) rfl rfl (one_of HT_.out (by kernel_rfl)) (by decide) (fun K hK=>?_)
 refine goes_ Tryz.func60 (by kernel_rfl) rfl #[.agg #[.int .i64 a0_0,.int .i64 a0_1,.int .i64 a0_2]] (by rfl) rfl rfl tl ?_
 with_reducible refine(impl_noteEnd.calls a0_0 a0_1 a0_2 t383 _ A3.out).mono ?_
 rintro e w7 ⟨rfl,hb⟩
 refine⟨_,rfl,?_⟩
 replace BK381:=am (blk_below (bup BK381.out) hb)
 replace BK382:=am (blk_below (bup BK382.out) hb)
 replace HB:=am (below_step bl hb)
 (try clear hb)
 refine hK.out _ _ ⟨bc BK382.out 0,bc BK382.out 1,bc BK382.out 2,bc BK381.out 0,bc BK381.out 1,bc BK381.out 2⟩ (fun hHeld=>?_)
 clear hK K
 refine norm_ (a':=?_) ?_ ?_
 rotate_left
 ·show Act.put _ (some 14) _=_
  simp only[Act.put,List.setIfInBounds_toArray,List.set_cons_zero,List.set_cons_succ,i64_w,i32_w]
  rfl
 refine pu HT_.out 10 (some 15) (fl 11 15) (h:=?_)
 refine pu HT_.out 11 (some 16) (fl 12 15) (h:=?_)
 refine pu HT_.out 12 (some 17) (fl 13 15) (h:=?_)
 refine one_ (i:=13) (N:=some 18) (fl 14 15) rfl rfl (one_of HT_.out (by kernel_rfl)) (by decide) (fun K hK=>?_)
 refine Kd.R_lit_step (Kd.int .i64) _ 3 ?hg (N:=18) ?hd (xs:=([wrap64 (a1_1 - (wrap64 (2*a0_1))),wrap64 (a1_2 - (wrap64 ((wrap64 (2*t383)) - 1)))]:List Int)) (inner:=[.int .i64 (wrap64 (a1_1 - (wrap64 (2*a0_1)))),.int .i64 (wrap64 (a1_2 - (wrap64 ((wrap64 (2*t383)) - 1))))]) (ok:=fun _=>True) (okp:=fun _=>True) ?hr ?hp (fun _ hk=>hk) trivial (Below.refl _ _) (Nat.le_refl _) (by simp) ?_;(case hd=>rfl);(case hg=>rfl);(case hr=>first|(go_simp;done)|(go_simp;rfl));(case hp=>exact(Reps.one (show Kd.M (Kd.int .i64) _ _ _ (wrap64 (a1_1 - (wrap64 (2*a0_1)))) [.int .i64 (wrap64 (a1_1 - (wrap64 (2*a0_1))))] from rfl) (Reps.one (show Kd.M (Kd.int .i64) _ _ _ (wrap64 (a1_2 - (wrap64 ((wrap64 (2*t383)) - 1)))) [.int .i64 (wrap64 (a1_2 - (wrap64 ((wrap64 (2*t383)) - 1))))] from rfl) (Reps.none _ _))))
 intro v385 w8 ho9 hb hg_ hnew_
 clear hg_ hnew_
 (first|rw[← Ny384.out] at ho9|(simp only[Int.reduceToNat] at ho9;rw[← Ny384.out] at ho9))
 have HO386:=am (Kd.R_lower ho9 (below_size bl))
 replace BK381:=am (blk_below (bup BK381.out) hb)
 replace BK382:=am (blk_below (bup BK382.out) hb)
 replace HB:=am (below_step bl hb)
 clear hb ho9
 refine hK.out _ _ ⟨bc BK382.out 0,bc BK382.out 1,bc BK382.out 2,bc BK381.out 0,bc BK381.out 1,bc BK381.out 2⟩ (fun hHeld=>?_)
 clear hK K
 refine norm_ (a':=?_) ?_ ?_
 rotate_left
 ·show Act.put _ (some 18) _=_
  simp only[Act.put,List.setIfInBounds_toArray,List.set_cons_zero,List.set_cons_succ,i64_w,i32_w]
  rfl
 refine pu HT_.out 14 (some 4) (fl 15 15) (h:=?_)
 refine done_ (done_of HT_.out (by kernel_rfl)) ?_
 try go_wp2
 go_ret
 exact⟨_,fin1,by(with_reducible repeat(first|apply Kd.R_alloc|apply Kd.R_drewN|apply Kd.R_drew));exact HO386.out,bl⟩

def impl_distance.f (a0:Int) (a1:Int):Option (Int):=some (mx (wrap64 (a0 - a1)) (wrap64 (a1 - a0)))
set_option maxHeartbeats 8000000 in
set_option maxRecDepth 100000 in
theorem impl_distance.calls (a0:Int) (a1:Int) (r:Int) (w:World) (h:impl_distance.f a0 a1=some r) :
  Calls Tryz.prog 48 #[.int .i64 a0,.int .i64 a1] w fun e w'=>e = .returned (.int .i64 r)∧Below w.heap.size w w':=by
 have HB:=am (Below.refl w.heap.size w)
 have H:(some (mx (wrap64 (a0 - a1)) (wrap64 (a1 - a0))))=some r:=h
 clear h
 obtain⟨ji3,hji3⟩:∃ j_:Int,(mx (wrap64 (a0 - a1)) (wrap64 (a1 - a0)))=j_:=⟨_,rfl⟩
 replace H:(some ji3)=some r:=by first|(rw[hji3] at H;exact H)|(simp only[hji3] at H ⊢;exact H)
 have hji3_:(if(wrap64 (a0 - a1))<(wrap64 (a1 - a0)) then(wrap64 (a1 - a0)) else(wrap64 (a0 - a1)))=ji3:=hji3
 obtain rfl:=Option.some.inj H
 go_enter Tryz.func48,Tryz.ntmps48
 go_wp2
 go_ret
 exact⟨by first|rfl|(simp [errW_none,errW_some]<;>rfl)|(simp only[← hji3];first|rfl|(simp [errW_none,errW_some]<;>rfl))|(simp [*,errW_none,errW_some]<;>rfl),bl⟩

def impl_spoken.upd (last:Int→Option Int) (t v:Int):Int→Option Int:=fun s=>if s=t then some v else last s
def impl_spoken.Agree (D:DataW Unit) (last:Int→Option Int):Prop :=
 Maps.IsMap D∧∀ t,Maps.has D (.int .i64 t)=(last t).isSome∧∀ b,last t=some b→D.atKey (.int .i64 t) (.lit (.int .i64 0)) = .lit (.int .i64 b)
theorem impl_spoken.agree_made:impl_spoken.Agree (.map []) (fun _=>none):=⟨Maps.isMap_empty,fun t=>⟨rfl,fun b h=>by cases h⟩⟩
theorem impl_spoken.agree_put {D:DataW Unit} {last:Int→Option Int} (h:impl_spoken.Agree D last) (t v:Int):impl_spoken.Agree (D.put (.int .i64 t) (.lit (.int .i64 v))) (impl_spoken.upd last t v):=by
 refine⟨h.1.put _ _,fun s=>?_⟩
 by_cases e:s=t
 ·subst e
  refine⟨by rw[Maps.has_put_same h.1 (show WideAt.IsKeyLit (.int .i64 s) from trivial)];simp [impl_spoken.upd],fun b hb=>?_⟩
  rw[Maps.atKey_put_same h.1 (show WideAt.IsKeyLit (.int .i64 s) from trivial)]
  simp [impl_spoken.upd] at hb
  rw[hb]
 ·have hne:(Lit.int .i64 s)≠(Lit.int .i64 t):=fun h=>e (by injection h)
  refine⟨by rw[Maps.has_put_other hne,(h.2 s).1];simp [impl_spoken.upd,e],fun b hb=>?_⟩
  rw[Maps.atKey_put_other hne]
  exact(h.2 s).2 b (by simpa [impl_spoken.upd,e] using hb)
theorem impl_spoken.map_to {w w':World} {k e:TypeId} {b n:Nat} {D:DataW Unit} (h:w.ownsMap Tryz.prog k (plainElem Tryz.prog e) b n D) (hh':w'.heap[b]?=w.heap[b]?):w'.ownsMap Tryz.prog k (plainElem Tryz.prog e) b n D:=by
 obtain⟨es,clock,hh,F,hs,hD⟩:=h
 exact⟨es,clock,hh'.trans hh,F,hs,hD⟩
theorem impl_spoken.map_below {w w':World} {k e:TypeId} {b n:Nat} {D:DataW Unit} (h:w.ownsMap Tryz.prog k (plainElem Tryz.prog e) b n D) (hb:Below w.heap.size w w'):w'.ownsMap Tryz.prog k (plainElem Tryz.prog e) b n D:=impl_spoken.map_to h (hb.block b h.lt)
theorem impl_spoken.map_drewN {w:World} {k e:TypeId} {b n:Nat} {D:DataW Unit} (h:w.ownsMap Tryz.prog k (plainElem Tryz.prog e) b n D) (m:Nat):(w.drewN m).ownsMap Tryz.prog k (plainElem Tryz.prog e) b n D:=impl_spoken.map_to h rfl
theorem impl_spoken.map_far {w:World} {k e:TypeId} {b n g i:Nat} {D:DataW Unit} {v:Value} (h:w.ownsMap Tryz.prog k (plainElem Tryz.prog e) b n D) (hne:b≠g):(w.setCell ⟨g,i,none⟩ v).ownsMap Tryz.prog k (plainElem Tryz.prog e) b n D:=impl_spoken.map_to h (Below.heap_setCell w ⟨g,i,none⟩ v b hne)
/-- What keeps a hole from speaking. -/
def impl_spoken.bad (ps:List Int) (rep d rl m:Int) (la:Int→Option Int) (h:S59):Prop:=h.f0≥(ps.length:Int)∨wrap64 (h.f2 - h.f1)<m∨((la h.f0).isSome=true∧wrap64 (h.f1 - (la h.f0).getD 0)<wrap64 (2*rep))∨wrap64 (h.f1+d)≥wrap64 (h.f2+rl)
instance (ps:List Int) (rep d rl m:Int) (la:Int→Option Int) (h:S59):Decidable (impl_spoken.bad ps rep d rl m la h):=by unfold impl_spoken.bad;infer_instance
def impl_spoken.l0:Nat→List Int→Int→Int→Int→Int→List S90→List Int→(Int→Option Int)→List S59→Int→Option (List S90×List Int)
 | 0,_,_,_,_,_,_,_,_,_,_=>none
 | k+1,ps,rep,d,rl,m,x8,x9,la,l,i=>if i<(l.length:Int) then(if 0≤i then(if(Lit.int .i64 (rd_T59 l i).f0).wf=true then(if impl_spoken.bad ps rep d rl m la (rd_T59 l i) then(if x9.length<17592186044416 then(impl_spoken.l0 k ps rep d rl m x8 (x9 ++ [i]) la l (wrap64 (i+1))) else none) else(if(Lit.int .i64 (rd_T59 l i).f1).wf=true∧0≤(rd_T59 l i).f0∧x8.length<5864062014805 then(impl_spoken.l0 k ps rep d rl m (x8 ++ [(⟨rd ps (rd_T59 l i).f0,wrap64 ((rd_T59 l i).f1+d),wrap64 ((rd_T59 l i).f2+rl)⟩:S90)]) x9 (impl_spoken.upd la (rd_T59 l i).f0 (rd_T59 l i).f1) l (wrap64 (i+1))) else none)) else none) else none) else some (x8,x9)
def impl_spoken.f (k:Nat) (l0:List Int) (a1:Int) (l2:List S59) (a3:Int) (a4:Int) (a5:Int):Option (List S90×List Int):=impl_spoken.l0 k l0 a1 a3 a4 a5 [] [] (fun _=>none) l2 0
theorem impl_spoken.law3:Maps.Keyed Tryz.prog 3:=Maps.int_keyed Tryz.underlying3
theorem impl_spoken.zero3 (w:World):(zeroValue 3).run Tryz.prog w = .ok (.int .i64 0) w:=by kernel_rfl
set_option maxHeartbeats 16000000 in
set_option maxRecDepth 100000 in
theorem impl_spoken.calls (k:Nat) (A0:Option Addr) (c0:Nat) (l0:List Int) (a1:Int) (A2:Option Addr) (c2:Nat) (l2:List S59) (a3:Int) (a4:Int) (a5:Int) (r1:List S90) (r2:List Int) (w:World) (hr0:Kd.C (Kd.int .i64) w A0 l0.length l0) (hc0:l0.length≤c0) (hr2:Kd.C k59 w A2 l2.length l2) (hc2:l2.length≤c2) (h:impl_spoken.f k l0 a1 l2 a3 a4 a5=some (r1,r2)) :
  Calls Tryz.prog 49 #[.agg #[.slice A0 l0.length c0,.int .i64 a1],.slice A2 l2.length c2,.agg #[.int .i64 a3,.int .i64 a4,.int .i64 a5]] w fun e w'=>∃ v0_ v1_:Value,e = .returned (.tuple #[v0_,v1_])∧Kd.R k90 90 w' w.heap.size (fun _=>True) v0_ r1∧Kd.R (Kd.int .i64) 3 w' w.heap.size (fun _=>True) v1_ r2∧Below w.heap.size w w':=by
 have hu59:=Tryz.underlying59
 have hmm:=@run_makeMap Tryz.prog
 have HR0:=am hr0
 have HC0:=am hc0
 have HR2:=am hr2
 have HC2:=am hc2
 clear hr0 hc0 hr2 hc2
 have HB:=am (Below.refl w.heap.size w)
 have H':=am (show impl_spoken.l0 k l0 a1 a3 a4 a5 [] [] (fun _=>none) l2 0=some (r1,r2) from h)
 clear h
 go_enter Tryz.func49,Tryz.ntmps49
 go_wp2_with (first|((with_reducible refine gate_dst (N:=3) rfl ?_);refine box_event ?hg (N:=3) ?hd (cs := #[.slice A0 l0.length c0,.int .i64 a1]) (t:=34) ?hr ?_;(case hd=>rfl);(case hg=>rfl);(case hr=>first|(go_simp;done)|(go_simp;rfl));intro gbi hg wi hbox hb;have BKI:=am (hbox);have GEI:=am (ge_ bl hg);replace HB:=am (below_step bl hb);clear hb hbox hg)|((with_reducible refine gate_dst (N:=5) rfl ?_);refine box_event ?hg (N:=5) ?hd (cs := #[.int .i64 a3,.int .i64 a4,.int .i64 a5]) (t:=40) ?hr ?_;(case hd=>rfl);(case hg=>rfl);(case hr=>first|(go_simp;done)|(go_simp;rfl));intro gba hg wj hbox hb;replace BKI:=am (blk_below (g:=gbi) (o := .cells #[.slice A0 l0.length c0,.int .i64 a1] 34 (0,0)) (by exact bup BKI.out) hb);have BKA:=am (hbox);have GEA:=am (ge_ bl hg);replace HB:=am (below_step bl hb);clear hb hbox hg)|((with_reducible refine gate_dst (N:=17) rfl ?_);refine Kd.R_lit k90 _ 90 ?hg (N:=17) ?hd (xs:=([]:List S90)) (inner:=[]) (ok:=fun _=>True) (okp:=fun _=>True) ?hr ?hp (fun _ hk=>hk) trivial (Below.refl _ _) (Nat.le_refl _) (by simp) ?_;(case hd=>rfl);(case hg=>rfl);(case hr=>first|(go_simp;done)|(go_simp;rfl));(case hp=>exact(Reps.none _ _));intro v8_ wk ho4 hb hg_ hnew_;clear hg_ hnew_;replace BKI:=am (blk_below (g:=gbi) (o := .cells #[.slice A0 l0.length c0,.int .i64 a1] 34 (0,0)) (by exact bup BKI.out) hb);replace BKA:=am (blk_below (g:=gba) (o := .cells #[.int .i64 a3,.int .i64 a4,.int .i64 a5] 40 (0,0)) (by exact bup BKA.out) hb);have HO8:=am (Kd.R_lower ho4 (below_size HB.out));replace HB:=am (below_step bl hb);clear hb ho4)|((with_reducible refine gate_dst (N:=18) rfl ?_);refine Kd.R_lit (Kd.int .i64) _ 3 ?hg (N:=18) ?hd (xs:=([]:List Int)) (inner:=[]) (ok:=fun _=>True) (okp:=fun _=>True) ?hr ?hp (fun _ hk=>hk) trivial (Below.refl _ _) (Nat.le_refl _) (by simp) ?_;(case hd=>rfl);(case hg=>rfl);(case hr=>first|(go_simp;done)|(go_simp;rfl));(case hp=>exact(Reps.none _ _));intro v9_ w3 ho4 hb hg_ hnew_;clear hg_ hnew_;replace BKI:=am (blk_below (g:=gbi) (o := .cells #[.slice A0 l0.length c0,.int .i64 a1] 34 (0,0)) (by exact bup BKI.out) hb);replace BKA:=am (blk_below (g:=gba) (o := .cells #[.int .i64 a3,.int .i64 a4,.int .i64 a5] 40 (0,0)) (by exact bup BKA.out) hb);replace HO8:=am (Kd.R_below (rup HO8.out) hb);have HO9:=am (Kd.R_lower ho4 (below_size HB.out));replace HB:=am (below_step bl hb);clear hb ho4))
 have BGE:=am (show w.heap.size≤w3.heap.size from(below_size HB.out))
 have NMI:=am (show gbi≠w3.heap.size from Nat.ne_of_lt (blk_lt BKI.out))
 have NMA:=am (show gba≠w3.heap.size from Nat.ne_of_lt (blk_lt BKA.out))
 have n8_:=am (Kd.R_mono (ok':=fun k_=>k_≠w3.heap.size) (Kd.R_bound HO8.out) (fun k_ hk_=>Nat.ne_of_lt hk_.2.2.1))
 have n9_:=am (Kd.R_mono (ok':=fun k_=>k_≠w3.heap.size) (Kd.R_bound HO9.out) (fun k_ hk_=>Nat.ne_of_lt hk_.2.2.1))
 clear HO8 HO9
 have HO8:=n8_
 have HO9:=n9_
 clear n8_ n9_
 go_loopg [8,9,22] k (fun kq v8 v9 v22 w'=>∃(x8:List S90) (x9:List Int) (la:Int→Option Int) (x22:Int) (D:DataW Unit),v22 = .int .i64 x22∧Aside0 (impl_spoken.l0 kq l0 a1 a3 a4 a5 x8 x9 la l2 x22=some (r1,r2))∧Aside0 (kq≤k)∧Aside0 (Kd.R k90 90 w' w.heap.size (fun k_=>k_≠w3.heap.size) v8 x8)∧Aside0 (Kd.R (Kd.int .i64) 3 w' w.heap.size (fun k_=>k_≠w3.heap.size) v9 x9)∧Aside0 (w'.ownsMap Tryz.prog 3 (plainElem Tryz.prog 3) w3.heap.size x8.length D)∧Aside0 (impl_spoken.Agree D la)∧Aside0 (w'.heap[gbi]?=some (.cells #[.slice A0 l0.length c0,.int .i64 a1] 34 (0,0)))∧Aside0 (w'.heap[gba]?=some (.cells #[.int .i64 a3,.int .i64 a4,.int .i64 a5] 40 (0,0)))∧Aside0 (Below w.heap.size w w'))
 case atStart=>exact⟨[],[],(fun _=>none),0,.map [],fin2,H',⟨Nat.le_refl _⟩,⟨rup HO8.out⟩,⟨rup HO9.out⟩,⟨World.ownsMap_made _ _ _ _⟩,⟨impl_spoken.agree_made⟩,⟨by exact bup BKI.out⟩,⟨by exact bup BKA.out⟩,⟨bl⟩⟩
 case round =>
  clear H' HO8 HO9 BKI BKA HB
  obtain⟨x8,x9,la,x22,D,rfl,HA,HK1,HO8,HO9,HM,HG,BKI,BKA,HB⟩:=hrel
  cases gk with
  | zero=>exact absurd HA.out (by simp [impl_spoken.l0])
  | succ k1 =>
   have H:=HA.out
   clear HA
   simp only[impl_spoken.l0] at H
   rcases itc H with⟨c9,H⟩|⟨c9,H⟩
   ·have c9b0:=decide_eq_true c9
    obtain⟨c10,H⟩:=ifp H
    have c10b0:=decide_eq_true c10
    obtain⟨cw,H⟩:=ifp H
    have CW:=am cw
    clear cw
    have hs_:=(HG.out.2 (rd_T59 l2 x22).f0).1
    cases hso:(la (rd_T59 l2 x22).f0).isSome with
    | true =>
     obtain⟨b_,hlb⟩:=Option.isSome_iff_exists.1 hso
     rw[hso] at hs_
     have HS:=am hs_
     have HV:=am ((HG.out.2 (rd_T59 l2 x22).f0).2 b_ hlb)
     replace hlb:la (rd_T59 l2 x22).f0=some b_:=hlb
     clear hs_
     by_cases c1:(rd_T59 l2 x22).f0≥(l0.length:Int)
     ·rw[if_pos (show impl_spoken.bad l0 a1 a3 a4 a5 la (rd_T59 l2 x22) from Or.inl c1)] at H
      obtain⟨cl,H⟩:=ifp H
      have CL:=am cl
      clear cl
      have H':=am H
      clear H
      have c1b:decide ((l0.length:Int)≤(rd_T59 l2 x22).f0)=true:=decide_eq_true c1
      clear c9 c10 c1
      (try clear hso)
      have p_:0≤(x22:Int):=od
      have q_:x22<(l2.length:Int):=od
      obtain⟨adh,eh,hxh_0,hxh_1,hxh_2⟩:=at_T59 HR2.out x22 p_ q_
      cases eh
      replace hxh_0:=(HB.out.cell (World.block_lt_of_cell? w _ hxh_0)).trans hxh_0
      replace hxh_1:=(HB.out.cell (World.block_lt_of_cell? w _ hxh_1)).trans hxh_1
      replace hxh_2:=(HB.out.cell (World.block_lt_of_cell? w _ hxh_2)).trans hxh_2
      replace p_:=eq_true p_
      replace q_:=eq_true q_
      go_wp2_with (first|((with_reducible refine gate_dst (N:=12) rfl ?_);refine box_event ?hg (N:=12) ?hd (cs := #[.int .i64 0,.int .i64 0,.int .i64 0]) (t:=59) ?hr ?_;(case hd=>rfl);(case hg=>rfl);(case hr=>first|(go_simp;done)|(go_simp;rfl));intro gbx hg wa hbox hb;replace HO8:=am (Kd.R_below (rup HO8.out) hb);replace HO9:=am (Kd.R_below (rup HO9.out) hb);have BKX:=am (hbox);have GEX:=am (ge_ bl hg);replace HB:=am (below_step bl hb);have NXI:=am ((by rw[hg];exact Nat.ne_of_lt (blk_lt (g:=gbi) (o := .cells #[.slice A0 l0.length c0,.int .i64 a1] 34 (0,0)) (by exact bup BKI.out)):gbi≠gbx));replace BKI:=am (blk_below (g:=gbi) (o := .cells #[.slice A0 l0.length c0,.int .i64 a1] 34 (0,0)) (by exact bup BKI.out) hb);have NXA:=am ((by rw[hg];exact Nat.ne_of_lt (blk_lt (g:=gba) (o := .cells #[.int .i64 a3,.int .i64 a4,.int .i64 a5] 40 (0,0)) (by exact bup BKA.out)):gba≠gbx));replace BKA:=am (blk_below (g:=gba) (o := .cells #[.int .i64 a3,.int .i64 a4,.int .i64 a5] 40 (0,0)) (by exact bup BKA.out) hb);have NXM:=am ((by rw[hg];exact Nat.ne_of_lt (World.ownsMap.lt (by(with_reducible repeat(first|refine impl_spoken.map_drewN ?_ _|refine World.ownsMap.alloc ?_ _));exact HM.out)):w3.heap.size≠gbx));replace HM:=am (impl_spoken.map_below (by(with_reducible repeat(first|refine impl_spoken.map_drewN ?_ _|refine World.ownsMap.alloc ?_ _));exact HM.out) hb);clear hb hbox hg;have hcza_0:=bc BKX.out 0;have hcza_1:=bc BKX.out 1;have hcza_2:=bc BKX.out 2;have hfza_0:=blk_frozen BKX.out 0;have hfza_1:=blk_frozen BKX.out 1;have hfza_2:=blk_frozen BKX.out 2)|((with_reducible refine gate_store (t:=59) (p:=12) rfl ?_);refine store_event (t:=59) (p:=12) (v:=?vo) (w1:=(((wa.setCell ⟨gbx,0,none⟩ (.int .i64 ((rd_T59 l2 x22).f0))).setCell ⟨gbx,1,none⟩ (.int .i64 ((rd_T59 l2 x22).f1))).setCell ⟨gbx,2,none⟩ (.int .i64 ((rd_T59 l2 x22).f2)))) ?hg ?ho ?hn ?hr ?_;(case ho=>rfl);(case hg=>rfl);(case hn=>rfl);(case hr=>first|(go_simp;done)|(go_simp;rfl));intro wb hw;have HO8_:Aside0 (Kd.R k90 90 wb w.heap.size (fun k_=>k_≠w3.heap.size) u8 x8):=⟨(by rw[hw];exact Kd.R_mono (Kd.R_far (p:=⟨gbx,2,none⟩) (Kd.R_far (p:=⟨gbx,1,none⟩) (Kd.R_far (p:=⟨gbx,0,none⟩) (Kd.R_types HO8.out BKX.out (by decide)) (fun _ hk=>hk.2) (.int .i64 ((rd_T59 l2 x22).f0))) (fun _ hk=>hk.2) (.int .i64 ((rd_T59 l2 x22).f1))) (fun _ hk=>hk.2) (.int .i64 ((rd_T59 l2 x22).f2))) (fun _ hk=>hk.1))⟩;have HO9_:Aside0 (Kd.R (Kd.int .i64) 3 wb w.heap.size (fun k_=>k_≠w3.heap.size) u9 x9):=⟨(by rw[hw];exact Kd.R_mono (Kd.R_far (p:=⟨gbx,2,none⟩) (Kd.R_far (p:=⟨gbx,1,none⟩) (Kd.R_far (p:=⟨gbx,0,none⟩) (Kd.R_types HO9.out BKX.out (by decide)) (fun _ hk=>hk.2) (.int .i64 ((rd_T59 l2 x22).f0))) (fun _ hk=>hk.2) (.int .i64 ((rd_T59 l2 x22).f1))) (fun _ hk=>hk.2) (.int .i64 ((rd_T59 l2 x22).f2))) (fun _ hk=>hk.1))⟩;have HM_:Aside0 (wb.ownsMap Tryz.prog 3 (plainElem Tryz.prog 3) w3.heap.size x8.length D):=⟨by rw[hw];exact impl_spoken.map_far (impl_spoken.map_far (impl_spoken.map_far HM.out NXM.out) NXM.out) NXM.out⟩;have BKI_:Aside0 (wb.heap[gbi]?=some (.cells #[.slice A0 l0.length c0,.int .i64 a1] 34 (0,0))):=⟨by rw[hw];refine blk_far ?_ NXI.out _;refine blk_far ?_ NXI.out _;refine blk_far ?_ NXI.out _;exact BKI.out⟩;have BKA_:Aside0 (wb.heap[gba]?=some (.cells #[.int .i64 a3,.int .i64 a4,.int .i64 a5] 40 (0,0))):=⟨by rw[hw];refine blk_far ?_ NXA.out _;refine blk_far ?_ NXA.out _;refine blk_far ?_ NXA.out _;exact BKA.out⟩;have BKX_:Aside0 (wb.heap[gbx]?=some (.cells #[.int .i64 ((rd_T59 l2 x22).f0),.int .i64 ((rd_T59 l2 x22).f1),.int .i64 ((rd_T59 l2 x22).f2)] 59 (0,0))):=⟨by rw[hw];refine blk_put (cs := #[.int .i64 ((rd_T59 l2 x22).f0),.int .i64 ((rd_T59 l2 x22).f1),.int .i64 0]) ?_ 2 _ rfl;refine blk_put (cs := #[.int .i64 ((rd_T59 l2 x22).f0),.int .i64 0,.int .i64 0]) ?_ 1 _ rfl;refine blk_put (cs := #[.int .i64 0,.int .i64 0,.int .i64 0]) ?_ 0 _ rfl;exact BKX.out⟩;have HB_:Aside0 (Below w.heap.size w wb):=⟨by rw[hw];exact below_set (below_set (below_set HB.out GEX.out) GEX.out) GEX.out⟩;clear hw HO8 HO9 HM BKI BKA BKX HB;have HO8:=HO8_;have HO9:=HO9_;have HM:=HM_;have BKI:=BKI_;have BKA:=BKA_;have BKX:=BKX_;have HB:=HB_;clear HO8_ HO9_ HM_ BKI_ BKA_ BKX_ HB_;(try clear hcza_0 hcza_1 hcza_2 hfza_0 hfza_1 hfza_2);have hczb_0:=bc BKX.out 0;have hczb_1:=bc BKX.out 1;have hczb_2:=bc BKX.out 2;have hfzb_0:=blk_frozen BKX.out 0;have hfzb_1:=blk_frozen BKX.out 1;have hfzb_2:=blk_frozen BKX.out 2;have hczc_0:=bc BKA.out 0;have hczc_1:=bc BKA.out 1;have hczc_2:=bc BKA.out 2;have hfzc_0:=blk_frozen BKA.out 0;have hfzc_1:=blk_frozen BKA.out 1;have hfzc_2:=blk_frozen BKA.out 2;have hczd_0:=bc BKI.out 0;have hczd_1:=bc BKI.out 1;have hfzd_0:=blk_frozen BKI.out 0;have hfzd_1:=blk_frozen BKI.out 1)|(at_lookup;refine wpList_lookup_own_ok_int _ rfl _ _ 95 rfl 3 3 .i64 impl_spoken.law3 Tryz.underlying95 Tryz.underlying3 (impl_spoken.zero3 _) w3.heap.size x8.length D rfl (by exact HM.out) _ _ rfl (Maps.keyOf_int_mk Tryz.underlying3 CW.out) ?_;intro c_ hat_ hwc_;rw[HS.out];obtain rfl:b_=c_:=(by have e_:=HV.out.symm.trans hat_;injection e_ with e_;injection e_)))
      go_quiet (fail)
      generalize hq_:wb.drewN _=wq
      replace HO8:=am (Kd.R_at hq_ HO8.out)
      replace HO9:=am (Kd.R_at hq_ HO9.out)
      replace BKI:=am (blk_at hq_ BKI.out)
      replace BKA:=am (blk_at hq_ BKA.out)
      replace BKX:=am (blk_at hq_ BKX.out)
      replace HB:=am (below_at hq_ HB.out)
      replace HM:=am (impl_spoken.map_to HM.out (show wq.heap[w3.heap.size]?=wb.heap[w3.heap.size]? from by rw[← hq_];rfl))
      clear hq_
      (try clear hczb_0 hczb_1 hczb_2 hfzb_0 hfzb_1 hfzb_2);(try clear hczc_0 hczc_1 hczc_2 hfzc_0 hfzc_1 hfzc_2);(try clear hczd_0 hczd_1 hfzd_0 hfzd_1)
      have hczg_0:=bc BKX.out 0;have hczg_1:=bc BKX.out 1;have hczg_2:=bc BKX.out 2;have hfzg_0:=blk_frozen BKX.out 0;have hfzg_1:=blk_frozen BKX.out 1;have hfzg_2:=blk_frozen BKX.out 2;have hczh_0:=bc BKA.out 0;have hczh_1:=bc BKA.out 1;have hczh_2:=bc BKA.out 2;have hfzh_0:=blk_frozen BKA.out 0;have hfzh_1:=blk_frozen BKA.out 1;have hfzh_2:=blk_frozen BKA.out 2;have hczi_0:=bc BKI.out 0;have hczi_1:=bc BKI.out 1;have hfzi_0:=blk_frozen BKI.out 0;have hfzi_1:=blk_frozen BKI.out 1
      go_wp2_with (first|((with_reducible refine gate_builtin (b := .append) (xs := #[.tmp 78,.tmp 80]) rfl ?_);at_builtin;refine Kd.R_append (Kd.int .i64) (w0:=w) w.heap.size rfl (.tmp 78) (.tmp 80) 22 3 (.int .i64 0) 8 rfl Tryz.underlying22 info3 rfl (by decide) (by omega) u9 x9 x22 [.int .i64 x22] (fun k_=>k_≠w3.heap.size) (fun _=>False) rfl (by first|(go_simp;done)|(go_simp;rfl)) ?aP (fun _ hk=>hk.elim) ?aF ?aO ?aB ?aS ?aL ?_;(case aP=>exact rfl);(case aB=>exact bl);(case aF=>exact(fun k_ hk_ e_=>by subst e_;exact absurd hk_ (Nat.not_le_of_lt (World.ownsMap.lt (by(with_reducible repeat(first|refine impl_spoken.map_drewN ?_ _|refine World.ownsMap.alloc ?_ _));exact HM.out)))));(case aO=>exact(rup HO9.out));(case aS=>exact(below_size bl));(case aL=>have:=CL.out;omega);intro va wc ho hb hg hat;replace HO8:=am (Kd.R_over' (rup HO8.out) (Kd.R_typed (rup HO9.out)) (by decide) hg);replace BKI:=am (blk_grown (g:=gbi) (o := .cells #[.slice A0 l0.length c0,.int .i64 a1] 34 (0,0)) (by exact bup BKI.out) hg (Kd.R_ne HO9.out BKI.out (by decide)));replace BKA:=am (blk_grown (g:=gba) (o := .cells #[.int .i64 a3,.int .i64 a4,.int .i64 a5] 40 (0,0)) (by exact bup BKA.out) hg (Kd.R_ne HO9.out BKA.out (by decide)));replace BKX:=am (blk_grown (g:=gbx) (o := .cells #[.int .i64 ((rd_T59 l2 x22).f0),.int .i64 ((rd_T59 l2 x22).f1),.int .i64 ((rd_T59 l2 x22).f2)] 59 (0,0)) (by exact bup BKX.out) hg (Kd.R_ne HO9.out BKX.out (by decide)));replace HM:=am (World.ownsMap.kept (by(with_reducible repeat(first|refine impl_spoken.map_drewN ?_ _|refine World.ownsMap.alloc ?_ _));exact HM.out) hg (fun e_=>HO9.out.1 _ e_.symm rfl));replace HB:=am (hb);replace HO9:=am (ho);clear ho hb hg hat))
      go_roundg k1
      case measure=>have:=HK1.out;omega
      case rel=>exact⟨x8,x9 ++ [x22],la,(wrap64 (x22+1)),D,fin2,H',⟨by have:=HK1.out;omega⟩,⟨rup HO8.out⟩,⟨rup HO9.out⟩,⟨by(with_reducible repeat(first|refine impl_spoken.map_drewN ?_ _|refine World.ownsMap.alloc ?_ _));exact HM.out⟩,HG,⟨by exact bup BKI.out⟩,⟨by exact bup BKA.out⟩,⟨bl⟩⟩
     ·by_cases c2:wrap64 ((rd_T59 l2 x22).f2 - (rd_T59 l2 x22).f1)<a5
      ·rw[if_pos (show impl_spoken.bad l0 a1 a3 a4 a5 la (rd_T59 l2 x22) from Or.inr (Or.inl c2))] at H
       obtain⟨cl,H⟩:=ifp H
       have CL:=am cl
       clear cl
       have H':=am H
       clear H
       have c1b:decide ((l0.length:Int)≤(rd_T59 l2 x22).f0)=false:=decide_eq_false c1
       have c2b:decide (wrap64 ((rd_T59 l2 x22).f2 - (rd_T59 l2 x22).f1)<a5)=true:=decide_eq_true c2
       clear c9 c10 c1 c2
       have p_:0≤(x22:Int):=od
       have q_:x22<(l2.length:Int):=od
       obtain⟨adh,eh,hxh_0,hxh_1,hxh_2⟩:=at_T59 HR2.out x22 p_ q_
       cases eh
       replace hxh_0:=(HB.out.cell (World.block_lt_of_cell? w _ hxh_0)).trans hxh_0
       replace hxh_1:=(HB.out.cell (World.block_lt_of_cell? w _ hxh_1)).trans hxh_1
       replace hxh_2:=(HB.out.cell (World.block_lt_of_cell? w _ hxh_2)).trans hxh_2
       replace p_:=eq_true p_
       replace q_:=eq_true q_
       go_wp2_with (first|((with_reducible refine gate_dst (N:=12) rfl ?_);refine box_event ?hg (N:=12) ?hd (cs := #[.int .i64 0,.int .i64 0,.int .i64 0]) (t:=59) ?hr ?_;(case hd=>rfl);(case hg=>rfl);(case hr=>first|(go_simp;done)|(go_simp;rfl));intro gbx hg wa hbox hb;replace HO8:=am (Kd.R_below (rup HO8.out) hb);replace HO9:=am (Kd.R_below (rup HO9.out) hb);have BKX:=am (hbox);have GEX:=am (ge_ bl hg);replace HB:=am (below_step bl hb);have NXI:=am ((by rw[hg];exact Nat.ne_of_lt (blk_lt (g:=gbi) (o := .cells #[.slice A0 l0.length c0,.int .i64 a1] 34 (0,0)) (by exact bup BKI.out)):gbi≠gbx));replace BKI:=am (blk_below (g:=gbi) (o := .cells #[.slice A0 l0.length c0,.int .i64 a1] 34 (0,0)) (by exact bup BKI.out) hb);have NXA:=am ((by rw[hg];exact Nat.ne_of_lt (blk_lt (g:=gba) (o := .cells #[.int .i64 a3,.int .i64 a4,.int .i64 a5] 40 (0,0)) (by exact bup BKA.out)):gba≠gbx));replace BKA:=am (blk_below (g:=gba) (o := .cells #[.int .i64 a3,.int .i64 a4,.int .i64 a5] 40 (0,0)) (by exact bup BKA.out) hb);have NXM:=am ((by rw[hg];exact Nat.ne_of_lt (World.ownsMap.lt (by(with_reducible repeat(first|refine impl_spoken.map_drewN ?_ _|refine World.ownsMap.alloc ?_ _));exact HM.out)):w3.heap.size≠gbx));replace HM:=am (impl_spoken.map_below (by(with_reducible repeat(first|refine impl_spoken.map_drewN ?_ _|refine World.ownsMap.alloc ?_ _));exact HM.out) hb);clear hb hbox hg;have hcza_0:=bc BKX.out 0;have hcza_1:=bc BKX.out 1;have hcza_2:=bc BKX.out 2;have hfza_0:=blk_frozen BKX.out 0;have hfza_1:=blk_frozen BKX.out 1;have hfza_2:=blk_frozen BKX.out 2)|((with_reducible refine gate_store (t:=59) (p:=12) rfl ?_);refine store_event (t:=59) (p:=12) (v:=?vo) (w1:=(((wa.setCell ⟨gbx,0,none⟩ (.int .i64 ((rd_T59 l2 x22).f0))).setCell ⟨gbx,1,none⟩ (.int .i64 ((rd_T59 l2 x22).f1))).setCell ⟨gbx,2,none⟩ (.int .i64 ((rd_T59 l2 x22).f2)))) ?hg ?ho ?hn ?hr ?_;(case ho=>rfl);(case hg=>rfl);(case hn=>rfl);(case hr=>first|(go_simp;done)|(go_simp;rfl));intro wb hw;have HO8_:Aside0 (Kd.R k90 90 wb w.heap.size (fun k_=>k_≠w3.heap.size) u8 x8):=⟨(by rw[hw];exact Kd.R_mono (Kd.R_far (p:=⟨gbx,2,none⟩) (Kd.R_far (p:=⟨gbx,1,none⟩) (Kd.R_far (p:=⟨gbx,0,none⟩) (Kd.R_types HO8.out BKX.out (by decide)) (fun _ hk=>hk.2) (.int .i64 ((rd_T59 l2 x22).f0))) (fun _ hk=>hk.2) (.int .i64 ((rd_T59 l2 x22).f1))) (fun _ hk=>hk.2) (.int .i64 ((rd_T59 l2 x22).f2))) (fun _ hk=>hk.1))⟩;have HO9_:Aside0 (Kd.R (Kd.int .i64) 3 wb w.heap.size (fun k_=>k_≠w3.heap.size) u9 x9):=⟨(by rw[hw];exact Kd.R_mono (Kd.R_far (p:=⟨gbx,2,none⟩) (Kd.R_far (p:=⟨gbx,1,none⟩) (Kd.R_far (p:=⟨gbx,0,none⟩) (Kd.R_types HO9.out BKX.out (by decide)) (fun _ hk=>hk.2) (.int .i64 ((rd_T59 l2 x22).f0))) (fun _ hk=>hk.2) (.int .i64 ((rd_T59 l2 x22).f1))) (fun _ hk=>hk.2) (.int .i64 ((rd_T59 l2 x22).f2))) (fun _ hk=>hk.1))⟩;have HM_:Aside0 (wb.ownsMap Tryz.prog 3 (plainElem Tryz.prog 3) w3.heap.size x8.length D):=⟨by rw[hw];exact impl_spoken.map_far (impl_spoken.map_far (impl_spoken.map_far HM.out NXM.out) NXM.out) NXM.out⟩;have BKI_:Aside0 (wb.heap[gbi]?=some (.cells #[.slice A0 l0.length c0,.int .i64 a1] 34 (0,0))):=⟨by rw[hw];refine blk_far ?_ NXI.out _;refine blk_far ?_ NXI.out _;refine blk_far ?_ NXI.out _;exact BKI.out⟩;have BKA_:Aside0 (wb.heap[gba]?=some (.cells #[.int .i64 a3,.int .i64 a4,.int .i64 a5] 40 (0,0))):=⟨by rw[hw];refine blk_far ?_ NXA.out _;refine blk_far ?_ NXA.out _;refine blk_far ?_ NXA.out _;exact BKA.out⟩;have BKX_:Aside0 (wb.heap[gbx]?=some (.cells #[.int .i64 ((rd_T59 l2 x22).f0),.int .i64 ((rd_T59 l2 x22).f1),.int .i64 ((rd_T59 l2 x22).f2)] 59 (0,0))):=⟨by rw[hw];refine blk_put (cs := #[.int .i64 ((rd_T59 l2 x22).f0),.int .i64 ((rd_T59 l2 x22).f1),.int .i64 0]) ?_ 2 _ rfl;refine blk_put (cs := #[.int .i64 ((rd_T59 l2 x22).f0),.int .i64 0,.int .i64 0]) ?_ 1 _ rfl;refine blk_put (cs := #[.int .i64 0,.int .i64 0,.int .i64 0]) ?_ 0 _ rfl;exact BKX.out⟩;have HB_:Aside0 (Below w.heap.size w wb):=⟨by rw[hw];exact below_set (below_set (below_set HB.out GEX.out) GEX.out) GEX.out⟩;clear hw HO8 HO9 HM BKI BKA BKX HB;have HO8:=HO8_;have HO9:=HO9_;have HM:=HM_;have BKI:=BKI_;have BKA:=BKA_;have BKX:=BKX_;have HB:=HB_;clear HO8_ HO9_ HM_ BKI_ BKA_ BKX_ HB_;(try clear hcza_0 hcza_1 hcza_2 hfza_0 hfza_1 hfza_2);have hczb_0:=bc BKX.out 0;have hczb_1:=bc BKX.out 1;have hczb_2:=bc BKX.out 2;have hfzb_0:=blk_frozen BKX.out 0;have hfzb_1:=blk_frozen BKX.out 1;have hfzb_2:=blk_frozen BKX.out 2;have hczc_0:=bc BKA.out 0;have hczc_1:=bc BKA.out 1;have hczc_2:=bc BKA.out 2;have hfzc_0:=blk_frozen BKA.out 0;have hfzc_1:=blk_frozen BKA.out 1;have hfzc_2:=blk_frozen BKA.out 2;have hczd_0:=bc BKI.out 0;have hczd_1:=bc BKI.out 1;have hfzd_0:=blk_frozen BKI.out 0;have hfzd_1:=blk_frozen BKI.out 1)|(at_lookup;refine wpList_lookup_own_ok_int _ rfl _ _ 95 rfl 3 3 .i64 impl_spoken.law3 Tryz.underlying95 Tryz.underlying3 (impl_spoken.zero3 _) w3.heap.size x8.length D rfl (by exact HM.out) _ _ rfl (Maps.keyOf_int_mk Tryz.underlying3 CW.out) ?_;intro c_ hat_ hwc_;rw[HS.out];obtain rfl:b_=c_:=(by have e_:=HV.out.symm.trans hat_;injection e_ with e_;injection e_)))
       go_quiet (fail)
       generalize hq_:wb.drewN _=wq
       replace HO8:=am (Kd.R_at hq_ HO8.out)
       replace HO9:=am (Kd.R_at hq_ HO9.out)
       replace BKI:=am (blk_at hq_ BKI.out)
       replace BKA:=am (blk_at hq_ BKA.out)
       replace BKX:=am (blk_at hq_ BKX.out)
       replace HB:=am (below_at hq_ HB.out)
       replace HM:=am (impl_spoken.map_to HM.out (show wq.heap[w3.heap.size]?=wb.heap[w3.heap.size]? from by rw[← hq_];rfl))
       clear hq_
       (try clear hczb_0 hczb_1 hczb_2 hfzb_0 hfzb_1 hfzb_2);(try clear hczc_0 hczc_1 hczc_2 hfzc_0 hfzc_1 hfzc_2);(try clear hczd_0 hczd_1 hfzd_0 hfzd_1)
       have hczg_0:=bc BKX.out 0;have hczg_1:=bc BKX.out 1;have hczg_2:=bc BKX.out 2;have hfzg_0:=blk_frozen BKX.out 0;have hfzg_1:=blk_frozen BKX.out 1;have hfzg_2:=blk_frozen BKX.out 2;have hczh_0:=bc BKA.out 0;have hczh_1:=bc BKA.out 1;have hczh_2:=bc BKA.out 2;have hfzh_0:=blk_frozen BKA.out 0;have hfzh_1:=blk_frozen BKA.out 1;have hfzh_2:=blk_frozen BKA.out 2;have hczi_0:=bc BKI.out 0;have hczi_1:=bc BKI.out 1;have hfzi_0:=blk_frozen BKI.out 0;have hfzi_1:=blk_frozen BKI.out 1
       go_wp2_with (first|((with_reducible refine gate_builtin (b := .append) (xs := #[.tmp 78,.tmp 80]) rfl ?_);at_builtin;refine Kd.R_append (Kd.int .i64) (w0:=w) w.heap.size rfl (.tmp 78) (.tmp 80) 22 3 (.int .i64 0) 8 rfl Tryz.underlying22 info3 rfl (by decide) (by omega) u9 x9 x22 [.int .i64 x22] (fun k_=>k_≠w3.heap.size) (fun _=>False) rfl (by first|(go_simp;done)|(go_simp;rfl)) ?aP (fun _ hk=>hk.elim) ?aF ?aO ?aB ?aS ?aL ?_;(case aP=>exact rfl);(case aB=>exact bl);(case aF=>exact(fun k_ hk_ e_=>by subst e_;exact absurd hk_ (Nat.not_le_of_lt (World.ownsMap.lt (by(with_reducible repeat(first|refine impl_spoken.map_drewN ?_ _|refine World.ownsMap.alloc ?_ _));exact HM.out)))));(case aO=>exact(rup HO9.out));(case aS=>exact(below_size bl));(case aL=>have:=CL.out;omega);intro va wc ho hb hg hat;replace HO8:=am (Kd.R_over' (rup HO8.out) (Kd.R_typed (rup HO9.out)) (by decide) hg);replace BKI:=am (blk_grown (g:=gbi) (o := .cells #[.slice A0 l0.length c0,.int .i64 a1] 34 (0,0)) (by exact bup BKI.out) hg (Kd.R_ne HO9.out BKI.out (by decide)));replace BKA:=am (blk_grown (g:=gba) (o := .cells #[.int .i64 a3,.int .i64 a4,.int .i64 a5] 40 (0,0)) (by exact bup BKA.out) hg (Kd.R_ne HO9.out BKA.out (by decide)));replace BKX:=am (blk_grown (g:=gbx) (o := .cells #[.int .i64 ((rd_T59 l2 x22).f0),.int .i64 ((rd_T59 l2 x22).f1),.int .i64 ((rd_T59 l2 x22).f2)] 59 (0,0)) (by exact bup BKX.out) hg (Kd.R_ne HO9.out BKX.out (by decide)));replace HM:=am (World.ownsMap.kept (by(with_reducible repeat(first|refine impl_spoken.map_drewN ?_ _|refine World.ownsMap.alloc ?_ _));exact HM.out) hg (fun e_=>HO9.out.1 _ e_.symm rfl));replace HB:=am (hb);replace HO9:=am (ho);clear ho hb hg hat))
       go_roundg k1
       case measure=>have:=HK1.out;omega
       case rel=>exact⟨x8,x9 ++ [x22],la,(wrap64 (x22+1)),D,fin2,H',⟨by have:=HK1.out;omega⟩,⟨rup HO8.out⟩,⟨rup HO9.out⟩,⟨by(with_reducible repeat(first|refine impl_spoken.map_drewN ?_ _|refine World.ownsMap.alloc ?_ _));exact HM.out⟩,HG,⟨by exact bup BKI.out⟩,⟨by exact bup BKA.out⟩,⟨bl⟩⟩
      ·by_cases c3:wrap64 ((rd_T59 l2 x22).f1 - b_)<wrap64 (2*a1)
       ·have hv3:wrap64 ((rd_T59 l2 x22).f1 - (la (rd_T59 l2 x22).f0).getD 0)<wrap64 (2*a1):=by rw[hlb];exact c3
        rw[if_pos (show impl_spoken.bad l0 a1 a3 a4 a5 la (rd_T59 l2 x22) from Or.inr (Or.inr (Or.inl ⟨hso,hv3⟩)))] at H
        obtain⟨cl,H⟩:=ifp H
        have CL:=am cl
        clear cl
        have H':=am H
        clear H
        have c1b:decide ((l0.length:Int)≤(rd_T59 l2 x22).f0)=false:=decide_eq_false c1
        have c2b:decide (wrap64 ((rd_T59 l2 x22).f2 - (rd_T59 l2 x22).f1)<a5)=false:=decide_eq_false c2
        have c3b:decide (wrap64 ((rd_T59 l2 x22).f1 - b_)<wrap64 (2*a1))=true:=decide_eq_true c3
        clear c9 c10 c1 c2 c3 hv3
        (try clear hso)
        have p_:0≤(x22:Int):=od
        have q_:x22<(l2.length:Int):=od
        obtain⟨adh,eh,hxh_0,hxh_1,hxh_2⟩:=at_T59 HR2.out x22 p_ q_
        cases eh
        replace hxh_0:=(HB.out.cell (World.block_lt_of_cell? w _ hxh_0)).trans hxh_0
        replace hxh_1:=(HB.out.cell (World.block_lt_of_cell? w _ hxh_1)).trans hxh_1
        replace hxh_2:=(HB.out.cell (World.block_lt_of_cell? w _ hxh_2)).trans hxh_2
        replace p_:=eq_true p_
        replace q_:=eq_true q_
        go_wp2_with (first|((with_reducible refine gate_dst (N:=12) rfl ?_);refine box_event ?hg (N:=12) ?hd (cs := #[.int .i64 0,.int .i64 0,.int .i64 0]) (t:=59) ?hr ?_;(case hd=>rfl);(case hg=>rfl);(case hr=>first|(go_simp;done)|(go_simp;rfl));intro gbx hg wa hbox hb;replace HO8:=am (Kd.R_below (rup HO8.out) hb);replace HO9:=am (Kd.R_below (rup HO9.out) hb);have BKX:=am (hbox);have GEX:=am (ge_ bl hg);replace HB:=am (below_step bl hb);have NXI:=am ((by rw[hg];exact Nat.ne_of_lt (blk_lt (g:=gbi) (o := .cells #[.slice A0 l0.length c0,.int .i64 a1] 34 (0,0)) (by exact bup BKI.out)):gbi≠gbx));replace BKI:=am (blk_below (g:=gbi) (o := .cells #[.slice A0 l0.length c0,.int .i64 a1] 34 (0,0)) (by exact bup BKI.out) hb);have NXA:=am ((by rw[hg];exact Nat.ne_of_lt (blk_lt (g:=gba) (o := .cells #[.int .i64 a3,.int .i64 a4,.int .i64 a5] 40 (0,0)) (by exact bup BKA.out)):gba≠gbx));replace BKA:=am (blk_below (g:=gba) (o := .cells #[.int .i64 a3,.int .i64 a4,.int .i64 a5] 40 (0,0)) (by exact bup BKA.out) hb);have NXM:=am ((by rw[hg];exact Nat.ne_of_lt (World.ownsMap.lt (by(with_reducible repeat(first|refine impl_spoken.map_drewN ?_ _|refine World.ownsMap.alloc ?_ _));exact HM.out)):w3.heap.size≠gbx));replace HM:=am (impl_spoken.map_below (by(with_reducible repeat(first|refine impl_spoken.map_drewN ?_ _|refine World.ownsMap.alloc ?_ _));exact HM.out) hb);clear hb hbox hg;have hcza_0:=bc BKX.out 0;have hcza_1:=bc BKX.out 1;have hcza_2:=bc BKX.out 2;have hfza_0:=blk_frozen BKX.out 0;have hfza_1:=blk_frozen BKX.out 1;have hfza_2:=blk_frozen BKX.out 2)|((with_reducible refine gate_store (t:=59) (p:=12) rfl ?_);refine store_event (t:=59) (p:=12) (v:=?vo) (w1:=(((wa.setCell ⟨gbx,0,none⟩ (.int .i64 ((rd_T59 l2 x22).f0))).setCell ⟨gbx,1,none⟩ (.int .i64 ((rd_T59 l2 x22).f1))).setCell ⟨gbx,2,none⟩ (.int .i64 ((rd_T59 l2 x22).f2)))) ?hg ?ho ?hn ?hr ?_;(case ho=>rfl);(case hg=>rfl);(case hn=>rfl);(case hr=>first|(go_simp;done)|(go_simp;rfl));intro wb hw;have HO8_:Aside0 (Kd.R k90 90 wb w.heap.size (fun k_=>k_≠w3.heap.size) u8 x8):=⟨(by rw[hw];exact Kd.R_mono (Kd.R_far (p:=⟨gbx,2,none⟩) (Kd.R_far (p:=⟨gbx,1,none⟩) (Kd.R_far (p:=⟨gbx,0,none⟩) (Kd.R_types HO8.out BKX.out (by decide)) (fun _ hk=>hk.2) (.int .i64 ((rd_T59 l2 x22).f0))) (fun _ hk=>hk.2) (.int .i64 ((rd_T59 l2 x22).f1))) (fun _ hk=>hk.2) (.int .i64 ((rd_T59 l2 x22).f2))) (fun _ hk=>hk.1))⟩;have HO9_:Aside0 (Kd.R (Kd.int .i64) 3 wb w.heap.size (fun k_=>k_≠w3.heap.size) u9 x9):=⟨(by rw[hw];exact Kd.R_mono (Kd.R_far (p:=⟨gbx,2,none⟩) (Kd.R_far (p:=⟨gbx,1,none⟩) (Kd.R_far (p:=⟨gbx,0,none⟩) (Kd.R_types HO9.out BKX.out (by decide)) (fun _ hk=>hk.2) (.int .i64 ((rd_T59 l2 x22).f0))) (fun _ hk=>hk.2) (.int .i64 ((rd_T59 l2 x22).f1))) (fun _ hk=>hk.2) (.int .i64 ((rd_T59 l2 x22).f2))) (fun _ hk=>hk.1))⟩;have HM_:Aside0 (wb.ownsMap Tryz.prog 3 (plainElem Tryz.prog 3) w3.heap.size x8.length D):=⟨by rw[hw];exact impl_spoken.map_far (impl_spoken.map_far (impl_spoken.map_far HM.out NXM.out) NXM.out) NXM.out⟩;have BKI_:Aside0 (wb.heap[gbi]?=some (.cells #[.slice A0 l0.length c0,.int .i64 a1] 34 (0,0))):=⟨by rw[hw];refine blk_far ?_ NXI.out _;refine blk_far ?_ NXI.out _;refine blk_far ?_ NXI.out _;exact BKI.out⟩;have BKA_:Aside0 (wb.heap[gba]?=some (.cells #[.int .i64 a3,.int .i64 a4,.int .i64 a5] 40 (0,0))):=⟨by rw[hw];refine blk_far ?_ NXA.out _;refine blk_far ?_ NXA.out _;refine blk_far ?_ NXA.out _;exact BKA.out⟩;have BKX_:Aside0 (wb.heap[gbx]?=some (.cells #[.int .i64 ((rd_T59 l2 x22).f0),.int .i64 ((rd_T59 l2 x22).f1),.int .i64 ((rd_T59 l2 x22).f2)] 59 (0,0))):=⟨by rw[hw];refine blk_put (cs := #[.int .i64 ((rd_T59 l2 x22).f0),.int .i64 ((rd_T59 l2 x22).f1),.int .i64 0]) ?_ 2 _ rfl;refine blk_put (cs := #[.int .i64 ((rd_T59 l2 x22).f0),.int .i64 0,.int .i64 0]) ?_ 1 _ rfl;refine blk_put (cs := #[.int .i64 0,.int .i64 0,.int .i64 0]) ?_ 0 _ rfl;exact BKX.out⟩;have HB_:Aside0 (Below w.heap.size w wb):=⟨by rw[hw];exact below_set (below_set (below_set HB.out GEX.out) GEX.out) GEX.out⟩;clear hw HO8 HO9 HM BKI BKA BKX HB;have HO8:=HO8_;have HO9:=HO9_;have HM:=HM_;have BKI:=BKI_;have BKA:=BKA_;have BKX:=BKX_;have HB:=HB_;clear HO8_ HO9_ HM_ BKI_ BKA_ BKX_ HB_;(try clear hcza_0 hcza_1 hcza_2 hfza_0 hfza_1 hfza_2);have hczb_0:=bc BKX.out 0;have hczb_1:=bc BKX.out 1;have hczb_2:=bc BKX.out 2;have hfzb_0:=blk_frozen BKX.out 0;have hfzb_1:=blk_frozen BKX.out 1;have hfzb_2:=blk_frozen BKX.out 2;have hczc_0:=bc BKA.out 0;have hczc_1:=bc BKA.out 1;have hczc_2:=bc BKA.out 2;have hfzc_0:=blk_frozen BKA.out 0;have hfzc_1:=blk_frozen BKA.out 1;have hfzc_2:=blk_frozen BKA.out 2;have hczd_0:=bc BKI.out 0;have hczd_1:=bc BKI.out 1;have hfzd_0:=blk_frozen BKI.out 0;have hfzd_1:=blk_frozen BKI.out 1)|(at_lookup;refine wpList_lookup_own_ok_int _ rfl _ _ 95 rfl 3 3 .i64 impl_spoken.law3 Tryz.underlying95 Tryz.underlying3 (impl_spoken.zero3 _) w3.heap.size x8.length D rfl (by exact HM.out) _ _ rfl (Maps.keyOf_int_mk Tryz.underlying3 CW.out) ?_;intro c_ hat_ hwc_;rw[HS.out];obtain rfl:b_=c_:=(by have e_:=HV.out.symm.trans hat_;injection e_ with e_;injection e_)))
        go_quiet (fail)
        generalize hq_:wb.drewN _=wq
        replace HO8:=am (Kd.R_at hq_ HO8.out)
        replace HO9:=am (Kd.R_at hq_ HO9.out)
        replace BKI:=am (blk_at hq_ BKI.out)
        replace BKA:=am (blk_at hq_ BKA.out)
        replace BKX:=am (blk_at hq_ BKX.out)
        replace HB:=am (below_at hq_ HB.out)
        replace HM:=am (impl_spoken.map_to HM.out (show wq.heap[w3.heap.size]?=wb.heap[w3.heap.size]? from by rw[← hq_];rfl))
        clear hq_
        (try clear hczb_0 hczb_1 hczb_2 hfzb_0 hfzb_1 hfzb_2);(try clear hczc_0 hczc_1 hczc_2 hfzc_0 hfzc_1 hfzc_2);(try clear hczd_0 hczd_1 hfzd_0 hfzd_1)
        have hczg_0:=bc BKX.out 0;have hczg_1:=bc BKX.out 1;have hczg_2:=bc BKX.out 2;have hfzg_0:=blk_frozen BKX.out 0;have hfzg_1:=blk_frozen BKX.out 1;have hfzg_2:=blk_frozen BKX.out 2;have hczh_0:=bc BKA.out 0;have hczh_1:=bc BKA.out 1;have hczh_2:=bc BKA.out 2;have hfzh_0:=blk_frozen BKA.out 0;have hfzh_1:=blk_frozen BKA.out 1;have hfzh_2:=blk_frozen BKA.out 2;have hczi_0:=bc BKI.out 0;have hczi_1:=bc BKI.out 1;have hfzi_0:=blk_frozen BKI.out 0;have hfzi_1:=blk_frozen BKI.out 1
        go_wp2_with (first|((with_reducible refine gate_builtin (b := .append) (xs := #[.tmp 78,.tmp 80]) rfl ?_);at_builtin;refine Kd.R_append (Kd.int .i64) (w0:=w) w.heap.size rfl (.tmp 78) (.tmp 80) 22 3 (.int .i64 0) 8 rfl Tryz.underlying22 info3 rfl (by decide) (by omega) u9 x9 x22 [.int .i64 x22] (fun k_=>k_≠w3.heap.size) (fun _=>False) rfl (by first|(go_simp;done)|(go_simp;rfl)) ?aP (fun _ hk=>hk.elim) ?aF ?aO ?aB ?aS ?aL ?_;(case aP=>exact rfl);(case aB=>exact bl);(case aF=>exact(fun k_ hk_ e_=>by subst e_;exact absurd hk_ (Nat.not_le_of_lt (World.ownsMap.lt (by(with_reducible repeat(first|refine impl_spoken.map_drewN ?_ _|refine World.ownsMap.alloc ?_ _));exact HM.out)))));(case aO=>exact(rup HO9.out));(case aS=>exact(below_size bl));(case aL=>have:=CL.out;omega);intro va wc ho hb hg hat;replace HO8:=am (Kd.R_over' (rup HO8.out) (Kd.R_typed (rup HO9.out)) (by decide) hg);replace BKI:=am (blk_grown (g:=gbi) (o := .cells #[.slice A0 l0.length c0,.int .i64 a1] 34 (0,0)) (by exact bup BKI.out) hg (Kd.R_ne HO9.out BKI.out (by decide)));replace BKA:=am (blk_grown (g:=gba) (o := .cells #[.int .i64 a3,.int .i64 a4,.int .i64 a5] 40 (0,0)) (by exact bup BKA.out) hg (Kd.R_ne HO9.out BKA.out (by decide)));replace BKX:=am (blk_grown (g:=gbx) (o := .cells #[.int .i64 ((rd_T59 l2 x22).f0),.int .i64 ((rd_T59 l2 x22).f1),.int .i64 ((rd_T59 l2 x22).f2)] 59 (0,0)) (by exact bup BKX.out) hg (Kd.R_ne HO9.out BKX.out (by decide)));replace HM:=am (World.ownsMap.kept (by(with_reducible repeat(first|refine impl_spoken.map_drewN ?_ _|refine World.ownsMap.alloc ?_ _));exact HM.out) hg (fun e_=>HO9.out.1 _ e_.symm rfl));replace HB:=am (hb);replace HO9:=am (ho);clear ho hb hg hat))
        go_roundg k1
        case measure=>have:=HK1.out;omega
        case rel=>exact⟨x8,x9 ++ [x22],la,(wrap64 (x22+1)),D,fin2,H',⟨by have:=HK1.out;omega⟩,⟨rup HO8.out⟩,⟨rup HO9.out⟩,⟨by(with_reducible repeat(first|refine impl_spoken.map_drewN ?_ _|refine World.ownsMap.alloc ?_ _));exact HM.out⟩,HG,⟨by exact bup BKI.out⟩,⟨by exact bup BKA.out⟩,⟨bl⟩⟩
       ·have hv3:¬ wrap64 ((rd_T59 l2 x22).f1 - (la (rd_T59 l2 x22).f0).getD 0)<wrap64 (2*a1):=by rw[hlb];exact c3
        by_cases c4:wrap64 ((rd_T59 l2 x22).f1+a3)≥wrap64 ((rd_T59 l2 x22).f2+a4)
        ·rw[if_pos (show impl_spoken.bad l0 a1 a3 a4 a5 la (rd_T59 l2 x22) from Or.inr (Or.inr (Or.inr c4)))] at H
         obtain⟨cl,H⟩:=ifp H
         have CL:=am cl
         clear cl
         have H':=am H
         clear H
         have c1b:decide ((l0.length:Int)≤(rd_T59 l2 x22).f0)=false:=decide_eq_false c1
         have c2b:decide (wrap64 ((rd_T59 l2 x22).f2 - (rd_T59 l2 x22).f1)<a5)=false:=decide_eq_false c2
         have c3b:decide (wrap64 ((rd_T59 l2 x22).f1 - b_)<wrap64 (2*a1))=false:=decide_eq_false c3
         have c4b:decide (wrap64 ((rd_T59 l2 x22).f2+a4)≤wrap64 ((rd_T59 l2 x22).f1+a3))=true:=decide_eq_true c4
         clear c9 c10 c1 c2 c3 hv3 c4
         have p_:0≤(x22:Int):=od
         have q_:x22<(l2.length:Int):=od
         obtain⟨adh,eh,hxh_0,hxh_1,hxh_2⟩:=at_T59 HR2.out x22 p_ q_
         cases eh
         replace hxh_0:=(HB.out.cell (World.block_lt_of_cell? w _ hxh_0)).trans hxh_0
         replace hxh_1:=(HB.out.cell (World.block_lt_of_cell? w _ hxh_1)).trans hxh_1
         replace hxh_2:=(HB.out.cell (World.block_lt_of_cell? w _ hxh_2)).trans hxh_2
         replace p_:=eq_true p_
         replace q_:=eq_true q_
         go_wp2_with (first|((with_reducible refine gate_dst (N:=12) rfl ?_);refine box_event ?hg (N:=12) ?hd (cs := #[.int .i64 0,.int .i64 0,.int .i64 0]) (t:=59) ?hr ?_;(case hd=>rfl);(case hg=>rfl);(case hr=>first|(go_simp;done)|(go_simp;rfl));intro gbx hg wa hbox hb;replace HO8:=am (Kd.R_below (rup HO8.out) hb);replace HO9:=am (Kd.R_below (rup HO9.out) hb);have BKX:=am (hbox);have GEX:=am (ge_ bl hg);replace HB:=am (below_step bl hb);have NXI:=am ((by rw[hg];exact Nat.ne_of_lt (blk_lt (g:=gbi) (o := .cells #[.slice A0 l0.length c0,.int .i64 a1] 34 (0,0)) (by exact bup BKI.out)):gbi≠gbx));replace BKI:=am (blk_below (g:=gbi) (o := .cells #[.slice A0 l0.length c0,.int .i64 a1] 34 (0,0)) (by exact bup BKI.out) hb);have NXA:=am ((by rw[hg];exact Nat.ne_of_lt (blk_lt (g:=gba) (o := .cells #[.int .i64 a3,.int .i64 a4,.int .i64 a5] 40 (0,0)) (by exact bup BKA.out)):gba≠gbx));replace BKA:=am (blk_below (g:=gba) (o := .cells #[.int .i64 a3,.int .i64 a4,.int .i64 a5] 40 (0,0)) (by exact bup BKA.out) hb);have NXM:=am ((by rw[hg];exact Nat.ne_of_lt (World.ownsMap.lt (by(with_reducible repeat(first|refine impl_spoken.map_drewN ?_ _|refine World.ownsMap.alloc ?_ _));exact HM.out)):w3.heap.size≠gbx));replace HM:=am (impl_spoken.map_below (by(with_reducible repeat(first|refine impl_spoken.map_drewN ?_ _|refine World.ownsMap.alloc ?_ _));exact HM.out) hb);clear hb hbox hg;have hcza_0:=bc BKX.out 0;have hcza_1:=bc BKX.out 1;have hcza_2:=bc BKX.out 2;have hfza_0:=blk_frozen BKX.out 0;have hfza_1:=blk_frozen BKX.out 1;have hfza_2:=blk_frozen BKX.out 2)|((with_reducible refine gate_store (t:=59) (p:=12) rfl ?_);refine store_event (t:=59) (p:=12) (v:=?vo) (w1:=(((wa.setCell ⟨gbx,0,none⟩ (.int .i64 ((rd_T59 l2 x22).f0))).setCell ⟨gbx,1,none⟩ (.int .i64 ((rd_T59 l2 x22).f1))).setCell ⟨gbx,2,none⟩ (.int .i64 ((rd_T59 l2 x22).f2)))) ?hg ?ho ?hn ?hr ?_;(case ho=>rfl);(case hg=>rfl);(case hn=>rfl);(case hr=>first|(go_simp;done)|(go_simp;rfl));intro wb hw;have HO8_:Aside0 (Kd.R k90 90 wb w.heap.size (fun k_=>k_≠w3.heap.size) u8 x8):=⟨(by rw[hw];exact Kd.R_mono (Kd.R_far (p:=⟨gbx,2,none⟩) (Kd.R_far (p:=⟨gbx,1,none⟩) (Kd.R_far (p:=⟨gbx,0,none⟩) (Kd.R_types HO8.out BKX.out (by decide)) (fun _ hk=>hk.2) (.int .i64 ((rd_T59 l2 x22).f0))) (fun _ hk=>hk.2) (.int .i64 ((rd_T59 l2 x22).f1))) (fun _ hk=>hk.2) (.int .i64 ((rd_T59 l2 x22).f2))) (fun _ hk=>hk.1))⟩;have HO9_:Aside0 (Kd.R (Kd.int .i64) 3 wb w.heap.size (fun k_=>k_≠w3.heap.size) u9 x9):=⟨(by rw[hw];exact Kd.R_mono (Kd.R_far (p:=⟨gbx,2,none⟩) (Kd.R_far (p:=⟨gbx,1,none⟩) (Kd.R_far (p:=⟨gbx,0,none⟩) (Kd.R_types HO9.out BKX.out (by decide)) (fun _ hk=>hk.2) (.int .i64 ((rd_T59 l2 x22).f0))) (fun _ hk=>hk.2) (.int .i64 ((rd_T59 l2 x22).f1))) (fun _ hk=>hk.2) (.int .i64 ((rd_T59 l2 x22).f2))) (fun _ hk=>hk.1))⟩;have HM_:Aside0 (wb.ownsMap Tryz.prog 3 (plainElem Tryz.prog 3) w3.heap.size x8.length D):=⟨by rw[hw];exact impl_spoken.map_far (impl_spoken.map_far (impl_spoken.map_far HM.out NXM.out) NXM.out) NXM.out⟩;have BKI_:Aside0 (wb.heap[gbi]?=some (.cells #[.slice A0 l0.length c0,.int .i64 a1] 34 (0,0))):=⟨by rw[hw];refine blk_far ?_ NXI.out _;refine blk_far ?_ NXI.out _;refine blk_far ?_ NXI.out _;exact BKI.out⟩;have BKA_:Aside0 (wb.heap[gba]?=some (.cells #[.int .i64 a3,.int .i64 a4,.int .i64 a5] 40 (0,0))):=⟨by rw[hw];refine blk_far ?_ NXA.out _;refine blk_far ?_ NXA.out _;refine blk_far ?_ NXA.out _;exact BKA.out⟩;have BKX_:Aside0 (wb.heap[gbx]?=some (.cells #[.int .i64 ((rd_T59 l2 x22).f0),.int .i64 ((rd_T59 l2 x22).f1),.int .i64 ((rd_T59 l2 x22).f2)] 59 (0,0))):=⟨by rw[hw];refine blk_put (cs := #[.int .i64 ((rd_T59 l2 x22).f0),.int .i64 ((rd_T59 l2 x22).f1),.int .i64 0]) ?_ 2 _ rfl;refine blk_put (cs := #[.int .i64 ((rd_T59 l2 x22).f0),.int .i64 0,.int .i64 0]) ?_ 1 _ rfl;refine blk_put (cs := #[.int .i64 0,.int .i64 0,.int .i64 0]) ?_ 0 _ rfl;exact BKX.out⟩;have HB_:Aside0 (Below w.heap.size w wb):=⟨by rw[hw];exact below_set (below_set (below_set HB.out GEX.out) GEX.out) GEX.out⟩;clear hw HO8 HO9 HM BKI BKA BKX HB;have HO8:=HO8_;have HO9:=HO9_;have HM:=HM_;have BKI:=BKI_;have BKA:=BKA_;have BKX:=BKX_;have HB:=HB_;clear HO8_ HO9_ HM_ BKI_ BKA_ BKX_ HB_;(try clear hcza_0 hcza_1 hcza_2 hfza_0 hfza_1 hfza_2);have hczb_0:=bc BKX.out 0;have hczb_1:=bc BKX.out 1;have hczb_2:=bc BKX.out 2;have hfzb_0:=blk_frozen BKX.out 0;have hfzb_1:=blk_frozen BKX.out 1;have hfzb_2:=blk_frozen BKX.out 2;have hczc_0:=bc BKA.out 0;have hczc_1:=bc BKA.out 1;have hczc_2:=bc BKA.out 2;have hfzc_0:=blk_frozen BKA.out 0;have hfzc_1:=blk_frozen BKA.out 1;have hfzc_2:=blk_frozen BKA.out 2;have hczd_0:=bc BKI.out 0;have hczd_1:=bc BKI.out 1;have hfzd_0:=blk_frozen BKI.out 0;have hfzd_1:=blk_frozen BKI.out 1)|(at_lookup;refine wpList_lookup_own_ok_int _ rfl _ _ 95 rfl 3 3 .i64 impl_spoken.law3 Tryz.underlying95 Tryz.underlying3 (impl_spoken.zero3 _) w3.heap.size x8.length D rfl (by exact HM.out) _ _ rfl (Maps.keyOf_int_mk Tryz.underlying3 CW.out) ?_;intro c_ hat_ hwc_;rw[HS.out];obtain rfl:b_=c_:=(by have e_:=HV.out.symm.trans hat_;injection e_ with e_;injection e_)))
         go_quiet (fail)
         generalize hq_:wb.drewN _=wq
         replace HO8:=am (Kd.R_at hq_ HO8.out)
         replace HO9:=am (Kd.R_at hq_ HO9.out)
         replace BKI:=am (blk_at hq_ BKI.out)
         replace BKA:=am (blk_at hq_ BKA.out)
         replace BKX:=am (blk_at hq_ BKX.out)
         replace HB:=am (below_at hq_ HB.out)
         replace HM:=am (impl_spoken.map_to HM.out (show wq.heap[w3.heap.size]?=wb.heap[w3.heap.size]? from by rw[← hq_];rfl))
         clear hq_
         (try clear hczb_0 hczb_1 hczb_2 hfzb_0 hfzb_1 hfzb_2);(try clear hczc_0 hczc_1 hczc_2 hfzc_0 hfzc_1 hfzc_2);(try clear hczd_0 hczd_1 hfzd_0 hfzd_1)
         have hczg_0:=bc BKX.out 0;have hczg_1:=bc BKX.out 1;have hczg_2:=bc BKX.out 2;have hfzg_0:=blk_frozen BKX.out 0;have hfzg_1:=blk_frozen BKX.out 1;have hfzg_2:=blk_frozen BKX.out 2;have hczh_0:=bc BKA.out 0;have hczh_1:=bc BKA.out 1;have hczh_2:=bc BKA.out 2;have hfzh_0:=blk_frozen BKA.out 0;have hfzh_1:=blk_frozen BKA.out 1;have hfzh_2:=blk_frozen BKA.out 2;have hczi_0:=bc BKI.out 0;have hczi_1:=bc BKI.out 1;have hfzi_0:=blk_frozen BKI.out 0;have hfzi_1:=blk_frozen BKI.out 1
         go_wp2_with (first|((with_reducible refine gate_builtin (b := .append) (xs := #[.tmp 78,.tmp 80]) rfl ?_);at_builtin;refine Kd.R_append (Kd.int .i64) (w0:=w) w.heap.size rfl (.tmp 78) (.tmp 80) 22 3 (.int .i64 0) 8 rfl Tryz.underlying22 info3 rfl (by decide) (by omega) u9 x9 x22 [.int .i64 x22] (fun k_=>k_≠w3.heap.size) (fun _=>False) rfl (by first|(go_simp;done)|(go_simp;rfl)) ?aP (fun _ hk=>hk.elim) ?aF ?aO ?aB ?aS ?aL ?_;(case aP=>exact rfl);(case aB=>exact bl);(case aF=>exact(fun k_ hk_ e_=>by subst e_;exact absurd hk_ (Nat.not_le_of_lt (World.ownsMap.lt (by(with_reducible repeat(first|refine impl_spoken.map_drewN ?_ _|refine World.ownsMap.alloc ?_ _));exact HM.out)))));(case aO=>exact(rup HO9.out));(case aS=>exact(below_size bl));(case aL=>have:=CL.out;omega);intro va wc ho hb hg hat;replace HO8:=am (Kd.R_over' (rup HO8.out) (Kd.R_typed (rup HO9.out)) (by decide) hg);replace BKI:=am (blk_grown (g:=gbi) (o := .cells #[.slice A0 l0.length c0,.int .i64 a1] 34 (0,0)) (by exact bup BKI.out) hg (Kd.R_ne HO9.out BKI.out (by decide)));replace BKA:=am (blk_grown (g:=gba) (o := .cells #[.int .i64 a3,.int .i64 a4,.int .i64 a5] 40 (0,0)) (by exact bup BKA.out) hg (Kd.R_ne HO9.out BKA.out (by decide)));replace BKX:=am (blk_grown (g:=gbx) (o := .cells #[.int .i64 ((rd_T59 l2 x22).f0),.int .i64 ((rd_T59 l2 x22).f1),.int .i64 ((rd_T59 l2 x22).f2)] 59 (0,0)) (by exact bup BKX.out) hg (Kd.R_ne HO9.out BKX.out (by decide)));replace HM:=am (World.ownsMap.kept (by(with_reducible repeat(first|refine impl_spoken.map_drewN ?_ _|refine World.ownsMap.alloc ?_ _));exact HM.out) hg (fun e_=>HO9.out.1 _ e_.symm rfl));replace HB:=am (hb);replace HO9:=am (ho);clear ho hb hg hat))
         go_roundg k1
         case measure=>have:=HK1.out;omega
         case rel=>exact⟨x8,x9 ++ [x22],la,(wrap64 (x22+1)),D,fin2,H',⟨by have:=HK1.out;omega⟩,⟨rup HO8.out⟩,⟨rup HO9.out⟩,⟨by(with_reducible repeat(first|refine impl_spoken.map_drewN ?_ _|refine World.ownsMap.alloc ?_ _));exact HM.out⟩,HG,⟨by exact bup BKI.out⟩,⟨by exact bup BKA.out⟩,⟨bl⟩⟩
        ·rw[if_neg (show ¬ impl_spoken.bad l0 a1 a3 a4 a5 la (rd_T59 l2 x22) from fun hb_=>by rcases hb_ with h_|h_|h_|h_;exact c1 h_;exact c2 h_;exact hv3 h_.2;exact c4 h_)] at H
         have CP:=am (show(rd_T59 l2 x22).f0<(l0.length:Int) from by omega)
         obtain⟨cl_,H⟩:=ifp H
         have CV:=am cl_.1
         have cf0:decide (0≤(rd_T59 l2 x22).f0)=true:=decide_eq_true cl_.2.1
         have cf1:decide ((rd_T59 l2 x22).f0<(l0.length:Int))=true:=decide_eq_true CP.out
         have cl:=cl_.2.2
         clear cl_
         have CL:=am cl
         clear cl
         have H':=am H
         clear H
         have c1b:decide ((l0.length:Int)≤(rd_T59 l2 x22).f0)=false:=decide_eq_false c1
         have c2b:decide (wrap64 ((rd_T59 l2 x22).f2 - (rd_T59 l2 x22).f1)<a5)=false:=decide_eq_false c2
         have c3b:decide (wrap64 ((rd_T59 l2 x22).f1 - b_)<wrap64 (2*a1))=false:=decide_eq_false c3
         have c4b:decide (wrap64 ((rd_T59 l2 x22).f2+a4)≤wrap64 ((rd_T59 l2 x22).f1+a3))=false:=decide_eq_false c4
         clear c9 c10 c1 c2 c3 hv3 c4
         have p_:0≤(x22:Int):=od
         have q_:x22<(l2.length:Int):=od
         obtain⟨adh,eh,hxh_0,hxh_1,hxh_2⟩:=at_T59 HR2.out x22 p_ q_
         cases eh
         replace hxh_0:=(HB.out.cell (World.block_lt_of_cell? w _ hxh_0)).trans hxh_0
         replace hxh_1:=(HB.out.cell (World.block_lt_of_cell? w _ hxh_1)).trans hxh_1
         replace hxh_2:=(HB.out.cell (World.block_lt_of_cell? w _ hxh_2)).trans hxh_2
         replace p_:=eq_true p_
         replace q_:=eq_true q_
         go_wp2_with (first|((with_reducible refine gate_dst (N:=12) rfl ?_);refine box_event ?hg (N:=12) ?hd (cs := #[.int .i64 0,.int .i64 0,.int .i64 0]) (t:=59) ?hr ?_;(case hd=>rfl);(case hg=>rfl);(case hr=>first|(go_simp;done)|(go_simp;rfl));intro gbx hg wa hbox hb;replace HO8:=am (Kd.R_below (rup HO8.out) hb);replace HO9:=am (Kd.R_below (rup HO9.out) hb);have BKX:=am (hbox);have GEX:=am (ge_ bl hg);replace HB:=am (below_step bl hb);have NXI:=am ((by rw[hg];exact Nat.ne_of_lt (blk_lt (g:=gbi) (o := .cells #[.slice A0 l0.length c0,.int .i64 a1] 34 (0,0)) (by exact bup BKI.out)):gbi≠gbx));replace BKI:=am (blk_below (g:=gbi) (o := .cells #[.slice A0 l0.length c0,.int .i64 a1] 34 (0,0)) (by exact bup BKI.out) hb);have NXA:=am ((by rw[hg];exact Nat.ne_of_lt (blk_lt (g:=gba) (o := .cells #[.int .i64 a3,.int .i64 a4,.int .i64 a5] 40 (0,0)) (by exact bup BKA.out)):gba≠gbx));replace BKA:=am (blk_below (g:=gba) (o := .cells #[.int .i64 a3,.int .i64 a4,.int .i64 a5] 40 (0,0)) (by exact bup BKA.out) hb);have NXM:=am ((by rw[hg];exact Nat.ne_of_lt (World.ownsMap.lt (by(with_reducible repeat(first|refine impl_spoken.map_drewN ?_ _|refine World.ownsMap.alloc ?_ _));exact HM.out)):w3.heap.size≠gbx));replace HM:=am (impl_spoken.map_below (by(with_reducible repeat(first|refine impl_spoken.map_drewN ?_ _|refine World.ownsMap.alloc ?_ _));exact HM.out) hb);clear hb hbox hg;have hcza_0:=bc BKX.out 0;have hcza_1:=bc BKX.out 1;have hcza_2:=bc BKX.out 2;have hfza_0:=blk_frozen BKX.out 0;have hfza_1:=blk_frozen BKX.out 1;have hfza_2:=blk_frozen BKX.out 2)|((with_reducible refine gate_store (t:=59) (p:=12) rfl ?_);refine store_event (t:=59) (p:=12) (v:=?vo) (w1:=(((wa.setCell ⟨gbx,0,none⟩ (.int .i64 ((rd_T59 l2 x22).f0))).setCell ⟨gbx,1,none⟩ (.int .i64 ((rd_T59 l2 x22).f1))).setCell ⟨gbx,2,none⟩ (.int .i64 ((rd_T59 l2 x22).f2)))) ?hg ?ho ?hn ?hr ?_;(case ho=>rfl);(case hg=>rfl);(case hn=>rfl);(case hr=>first|(go_simp;done)|(go_simp;rfl));intro wb hw;have HO8_:Aside0 (Kd.R k90 90 wb w.heap.size (fun k_=>k_≠w3.heap.size) u8 x8):=⟨(by rw[hw];exact Kd.R_mono (Kd.R_far (p:=⟨gbx,2,none⟩) (Kd.R_far (p:=⟨gbx,1,none⟩) (Kd.R_far (p:=⟨gbx,0,none⟩) (Kd.R_types HO8.out BKX.out (by decide)) (fun _ hk=>hk.2) (.int .i64 ((rd_T59 l2 x22).f0))) (fun _ hk=>hk.2) (.int .i64 ((rd_T59 l2 x22).f1))) (fun _ hk=>hk.2) (.int .i64 ((rd_T59 l2 x22).f2))) (fun _ hk=>hk.1))⟩;have HO9_:Aside0 (Kd.R (Kd.int .i64) 3 wb w.heap.size (fun k_=>k_≠w3.heap.size) u9 x9):=⟨(by rw[hw];exact Kd.R_mono (Kd.R_far (p:=⟨gbx,2,none⟩) (Kd.R_far (p:=⟨gbx,1,none⟩) (Kd.R_far (p:=⟨gbx,0,none⟩) (Kd.R_types HO9.out BKX.out (by decide)) (fun _ hk=>hk.2) (.int .i64 ((rd_T59 l2 x22).f0))) (fun _ hk=>hk.2) (.int .i64 ((rd_T59 l2 x22).f1))) (fun _ hk=>hk.2) (.int .i64 ((rd_T59 l2 x22).f2))) (fun _ hk=>hk.1))⟩;have HM_:Aside0 (wb.ownsMap Tryz.prog 3 (plainElem Tryz.prog 3) w3.heap.size x8.length D):=⟨by rw[hw];exact impl_spoken.map_far (impl_spoken.map_far (impl_spoken.map_far HM.out NXM.out) NXM.out) NXM.out⟩;have BKI_:Aside0 (wb.heap[gbi]?=some (.cells #[.slice A0 l0.length c0,.int .i64 a1] 34 (0,0))):=⟨by rw[hw];refine blk_far ?_ NXI.out _;refine blk_far ?_ NXI.out _;refine blk_far ?_ NXI.out _;exact BKI.out⟩;have BKA_:Aside0 (wb.heap[gba]?=some (.cells #[.int .i64 a3,.int .i64 a4,.int .i64 a5] 40 (0,0))):=⟨by rw[hw];refine blk_far ?_ NXA.out _;refine blk_far ?_ NXA.out _;refine blk_far ?_ NXA.out _;exact BKA.out⟩;have BKX_:Aside0 (wb.heap[gbx]?=some (.cells #[.int .i64 ((rd_T59 l2 x22).f0),.int .i64 ((rd_T59 l2 x22).f1),.int .i64 ((rd_T59 l2 x22).f2)] 59 (0,0))):=⟨by rw[hw];refine blk_put (cs := #[.int .i64 ((rd_T59 l2 x22).f0),.int .i64 ((rd_T59 l2 x22).f1),.int .i64 0]) ?_ 2 _ rfl;refine blk_put (cs := #[.int .i64 ((rd_T59 l2 x22).f0),.int .i64 0,.int .i64 0]) ?_ 1 _ rfl;refine blk_put (cs := #[.int .i64 0,.int .i64 0,.int .i64 0]) ?_ 0 _ rfl;exact BKX.out⟩;have HB_:Aside0 (Below w.heap.size w wb):=⟨by rw[hw];exact below_set (below_set (below_set HB.out GEX.out) GEX.out) GEX.out⟩;clear hw HO8 HO9 HM BKI BKA BKX HB;have HO8:=HO8_;have HO9:=HO9_;have HM:=HM_;have BKI:=BKI_;have BKA:=BKA_;have BKX:=BKX_;have HB:=HB_;clear HO8_ HO9_ HM_ BKI_ BKA_ BKX_ HB_;(try clear hcza_0 hcza_1 hcza_2 hfza_0 hfza_1 hfza_2);have hczb_0:=bc BKX.out 0;have hczb_1:=bc BKX.out 1;have hczb_2:=bc BKX.out 2;have hfzb_0:=blk_frozen BKX.out 0;have hfzb_1:=blk_frozen BKX.out 1;have hfzb_2:=blk_frozen BKX.out 2;have hczc_0:=bc BKA.out 0;have hczc_1:=bc BKA.out 1;have hczc_2:=bc BKA.out 2;have hfzc_0:=blk_frozen BKA.out 0;have hfzc_1:=blk_frozen BKA.out 1;have hfzc_2:=blk_frozen BKA.out 2;have hczd_0:=bc BKI.out 0;have hczd_1:=bc BKI.out 1;have hfzd_0:=blk_frozen BKI.out 0;have hfzd_1:=blk_frozen BKI.out 1)|(at_lookup;refine wpList_lookup_own_ok_int _ rfl _ _ 95 rfl 3 3 .i64 impl_spoken.law3 Tryz.underlying95 Tryz.underlying3 (impl_spoken.zero3 _) w3.heap.size x8.length D rfl (by exact HM.out) _ _ rfl (Maps.keyOf_int_mk Tryz.underlying3 CW.out) ?_;intro c_ hat_ hwc_;rw[HS.out];obtain rfl:b_=c_:=(by have e_:=HV.out.symm.trans hat_;injection e_ with e_;injection e_)))
         go_quiet (fail)
         generalize hq_:wb.drewN _=wq
         replace HO8:=am (Kd.R_at hq_ HO8.out)
         replace HO9:=am (Kd.R_at hq_ HO9.out)
         replace BKI:=am (blk_at hq_ BKI.out)
         replace BKA:=am (blk_at hq_ BKA.out)
         replace BKX:=am (blk_at hq_ BKX.out)
         replace HB:=am (below_at hq_ HB.out)
         replace HM:=am (impl_spoken.map_to HM.out (show wq.heap[w3.heap.size]?=wb.heap[w3.heap.size]? from by rw[← hq_];rfl))
         clear hq_
         (try clear hczb_0 hczb_1 hczb_2 hfzb_0 hfzb_1 hfzb_2);(try clear hczc_0 hczc_1 hczc_2 hfzc_0 hfzc_1 hfzc_2);(try clear hczd_0 hczd_1 hfzd_0 hfzd_1)
         have hczg_0:=bc BKX.out 0;have hczg_1:=bc BKX.out 1;have hczg_2:=bc BKX.out 2;have hfzg_0:=blk_frozen BKX.out 0;have hfzg_1:=blk_frozen BKX.out 1;have hfzg_2:=blk_frozen BKX.out 2;have hczh_0:=bc BKA.out 0;have hczh_1:=bc BKA.out 1;have hczh_2:=bc BKA.out 2;have hfzh_0:=blk_frozen BKA.out 0;have hfzh_1:=blk_frozen BKA.out 1;have hfzh_2:=blk_frozen BKA.out 2;have hczi_0:=bc BKI.out 0;have hczi_1:=bc BKI.out 1;have hfzi_0:=blk_frozen BKI.out 0;have hfzi_1:=blk_frozen BKI.out 1
         go_wp2_with (first|(at_mapUpdate;refine wpList_mapUpdate_own _ rfl _ _ _ 95 rfl 3 3 impl_spoken.law3 Tryz.underlying95 _ w3.heap.size x8.length D rfl (by exact HM.out) (by have:=CL.out;unfold maxLen;omega) _ _ _ rfl rfl (Maps.keyOf_int_mk Tryz.underlying3 CW.out) _ [] (plainElem_int Tryz.underlying3 CV.out) ?_;intro wc hown1 hgrow1;replace HM:=am (hown1);replace HO8:=am (Kd.R_grown (ok:=fun k_=>k_≠w3.heap.size) (rup HO8.out) hgrow1 (fun k_ hk_ e_=>hk_ (by injection e_)));replace HO9:=am (Kd.R_grown (ok:=fun k_=>k_≠w3.heap.size) (rup HO9.out) hgrow1 (fun k_ hk_ e_=>hk_ (by injection e_)));replace BKI:=am (blk_grown (g:=gbi) (o := .cells #[.slice A0 l0.length c0,.int .i64 a1] 34 (0,0)) (by exact bup BKI.out) hgrow1 (fun e_=>absurd (by injection e_) NMI.out));replace BKA:=am (blk_grown (g:=gba) (o := .cells #[.int .i64 a3,.int .i64 a4,.int .i64 a5] 40 (0,0)) (by exact bup BKA.out) hgrow1 (fun e_=>absurd (by injection e_) NMA.out));replace BKX:=am (blk_grown (g:=gbx) (o := .cells #[.int .i64 ((rd_T59 l2 x22).f0),.int .i64 ((rd_T59 l2 x22).f1),.int .i64 ((rd_T59 l2 x22).f2)] 59 (0,0)) (by exact bup BKX.out) hgrow1 (fun e_=>absurd (by injection e_) (Ne.symm NXM.out)));replace HB:=am ((show Below w.heap.size w _ from bl).grown hgrow1 (below_size HB.out) (fun j hj=>by cases hj;exact BGE.out));clear hown1 hgrow1;have hcze_0:=bc BKX.out 0;have hcze_1:=bc BKX.out 1;have hcze_2:=bc BKX.out 2;have hfze_0:=blk_frozen BKX.out 0;have hfze_1:=blk_frozen BKX.out 1;have hfze_2:=blk_frozen BKX.out 2;have hczf_0:=bc BKI.out 0;have hczf_1:=bc BKI.out 1;have hfzf_0:=blk_frozen BKI.out 0;have hfzf_1:=blk_frozen BKI.out 1;have p_:0≤(((rd_T59 l2 x22).f0):Int):=od;have q_:((rd_T59 l2 x22).f0)<(l0.length:Int):=CP.out;obtain⟨adp,ep,hxp⟩:=Kd.at_int HR0.out ((rd_T59 l2 x22).f0) p_ q_;cases ep;replace hxp:=(HB.out.cell (World.block_lt_of_cell? w _ hxp)).trans hxp;replace p_:=eq_true p_;replace q_:=eq_true q_)|((with_reducible refine gate_builtin (b := .append) (xs := #[.tmp 87,.tmp 97]) rfl ?_);at_builtin;refine Kd.R_append k90 (w0:=w) w.heap.size rfl (.tmp 87) (.tmp 97) 72 90 (.agg #[(.int .i64 0),(.int .i64 0),(.int .i64 0)]) 24 rfl Tryz.underlying72 info90 rfl (by decide) (by omega) u8 x8 (⟨rd l0 ((rd_T59 l2 x22).f0),wrap64 ((rd_T59 l2 x22).f1+a3),wrap64 ((rd_T59 l2 x22).f2+a4)⟩:S90) [.int .i64 (rd l0 ((rd_T59 l2 x22).f0)),.int .i64 (wrap64 ((rd_T59 l2 x22).f1+a3)),.int .i64 (wrap64 ((rd_T59 l2 x22).f2+a4))] (fun k_=>k_≠w3.heap.size) (fun _=>False) rfl rfl ?aP (fun _ hk=>hk.elim) ?aF ?aO ?aB ?aS ?aL ?_;(case aP=>exact k90_mkM _ _ _ (⟨rd l0 ((rd_T59 l2 x22).f0),wrap64 ((rd_T59 l2 x22).f1+a3),wrap64 ((rd_T59 l2 x22).f2+a4)⟩:S90));(case aB=>exact bl);(case aF=>exact(fun k_ hk_ e_=>by subst e_;exact absurd hk_ (Nat.not_le_of_lt (World.ownsMap.lt (by(with_reducible repeat(first|refine impl_spoken.map_drewN ?_ _|refine World.ownsMap.alloc ?_ _));exact HM.out)))));(case aO=>exact(rup HO8.out));(case aS=>exact(below_size bl));(case aL=>have:=CL.out;omega);intro va wd ho hb hg hat;replace HO9:=am (Kd.R_over' (rup HO9.out) (Kd.R_typed (rup HO8.out)) (by decide) hg);replace BKI:=am (blk_grown (g:=gbi) (o := .cells #[.slice (some adp) l0.length c0,.int .i64 a1] 34 (0,0)) (by exact bup BKI.out) hg (Kd.R_ne HO8.out BKI.out (by decide)));replace BKA:=am (blk_grown (g:=gba) (o := .cells #[.int .i64 a3,.int .i64 a4,.int .i64 a5] 40 (0,0)) (by exact bup BKA.out) hg (Kd.R_ne HO8.out BKA.out (by decide)));replace BKX:=am (blk_grown (g:=gbx) (o := .cells #[.int .i64 ((rd_T59 l2 x22).f0),.int .i64 ((rd_T59 l2 x22).f1),.int .i64 ((rd_T59 l2 x22).f2)] 59 (0,0)) (by exact bup BKX.out) hg (Kd.R_ne HO8.out BKX.out (by decide)));replace HM:=am (World.ownsMap.kept (by(with_reducible repeat(first|refine impl_spoken.map_drewN ?_ _|refine World.ownsMap.alloc ?_ _));exact HM.out) hg (fun e_=>HO8.out.1 _ e_.symm rfl));replace HB:=am (hb);replace HO8:=am (ho);clear ho hb hg hat))
         go_roundg k1
         case measure=>have:=HK1.out;omega
         case rel=>exact⟨x8 ++ [(⟨rd l0 ((rd_T59 l2 x22).f0),wrap64 ((rd_T59 l2 x22).f1+a3),wrap64 ((rd_T59 l2 x22).f2+a4)⟩:S90)],x9,impl_spoken.upd la ((rd_T59 l2 x22).f0) ((rd_T59 l2 x22).f1),(wrap64 (x22+1)),_,fin2,H',⟨by have:=HK1.out;omega⟩,⟨rup HO8.out⟩,⟨rup HO9.out⟩,⟨by rw[List.length_append];(with_reducible repeat(first|refine impl_spoken.map_drewN ?_ _|refine World.ownsMap.alloc ?_ _));exact HM.out⟩,⟨impl_spoken.agree_put HG.out _ _⟩,⟨by exact bup BKI.out⟩,⟨by exact bup BKA.out⟩,⟨bl⟩⟩
    | false =>
     rw[hso] at hs_
     have HS:=am hs_
     clear hs_
     by_cases c1:(rd_T59 l2 x22).f0≥(l0.length:Int)
     ·rw[if_pos (show impl_spoken.bad l0 a1 a3 a4 a5 la (rd_T59 l2 x22) from Or.inl c1)] at H
      obtain⟨cl,H⟩:=ifp H
      have CL:=am cl
      clear cl
      have H':=am H
      clear H
      have c1b:decide ((l0.length:Int)≤(rd_T59 l2 x22).f0)=true:=decide_eq_true c1
      clear c9 c10 c1
      (try clear hso)
      have p_:0≤(x22:Int):=od
      have q_:x22<(l2.length:Int):=od
      obtain⟨adh,eh,hxh_0,hxh_1,hxh_2⟩:=at_T59 HR2.out x22 p_ q_
      cases eh
      replace hxh_0:=(HB.out.cell (World.block_lt_of_cell? w _ hxh_0)).trans hxh_0
      replace hxh_1:=(HB.out.cell (World.block_lt_of_cell? w _ hxh_1)).trans hxh_1
      replace hxh_2:=(HB.out.cell (World.block_lt_of_cell? w _ hxh_2)).trans hxh_2
      replace p_:=eq_true p_
      replace q_:=eq_true q_
      go_wp2_with (first|((with_reducible refine gate_dst (N:=12) rfl ?_);refine box_event ?hg (N:=12) ?hd (cs := #[.int .i64 0,.int .i64 0,.int .i64 0]) (t:=59) ?hr ?_;(case hd=>rfl);(case hg=>rfl);(case hr=>first|(go_simp;done)|(go_simp;rfl));intro gbx hg wa hbox hb;replace HO8:=am (Kd.R_below (rup HO8.out) hb);replace HO9:=am (Kd.R_below (rup HO9.out) hb);have BKX:=am (hbox);have GEX:=am (ge_ bl hg);replace HB:=am (below_step bl hb);have NXI:=am ((by rw[hg];exact Nat.ne_of_lt (blk_lt (g:=gbi) (o := .cells #[.slice A0 l0.length c0,.int .i64 a1] 34 (0,0)) (by exact bup BKI.out)):gbi≠gbx));replace BKI:=am (blk_below (g:=gbi) (o := .cells #[.slice A0 l0.length c0,.int .i64 a1] 34 (0,0)) (by exact bup BKI.out) hb);have NXA:=am ((by rw[hg];exact Nat.ne_of_lt (blk_lt (g:=gba) (o := .cells #[.int .i64 a3,.int .i64 a4,.int .i64 a5] 40 (0,0)) (by exact bup BKA.out)):gba≠gbx));replace BKA:=am (blk_below (g:=gba) (o := .cells #[.int .i64 a3,.int .i64 a4,.int .i64 a5] 40 (0,0)) (by exact bup BKA.out) hb);have NXM:=am ((by rw[hg];exact Nat.ne_of_lt (World.ownsMap.lt (by(with_reducible repeat(first|refine impl_spoken.map_drewN ?_ _|refine World.ownsMap.alloc ?_ _));exact HM.out)):w3.heap.size≠gbx));replace HM:=am (impl_spoken.map_below (by(with_reducible repeat(first|refine impl_spoken.map_drewN ?_ _|refine World.ownsMap.alloc ?_ _));exact HM.out) hb);clear hb hbox hg;have hcza_0:=bc BKX.out 0;have hcza_1:=bc BKX.out 1;have hcza_2:=bc BKX.out 2;have hfza_0:=blk_frozen BKX.out 0;have hfza_1:=blk_frozen BKX.out 1;have hfza_2:=blk_frozen BKX.out 2)|((with_reducible refine gate_store (t:=59) (p:=12) rfl ?_);refine store_event (t:=59) (p:=12) (v:=?vo) (w1:=(((wa.setCell ⟨gbx,0,none⟩ (.int .i64 ((rd_T59 l2 x22).f0))).setCell ⟨gbx,1,none⟩ (.int .i64 ((rd_T59 l2 x22).f1))).setCell ⟨gbx,2,none⟩ (.int .i64 ((rd_T59 l2 x22).f2)))) ?hg ?ho ?hn ?hr ?_;(case ho=>rfl);(case hg=>rfl);(case hn=>rfl);(case hr=>first|(go_simp;done)|(go_simp;rfl));intro wb hw;have HO8_:Aside0 (Kd.R k90 90 wb w.heap.size (fun k_=>k_≠w3.heap.size) u8 x8):=⟨(by rw[hw];exact Kd.R_mono (Kd.R_far (p:=⟨gbx,2,none⟩) (Kd.R_far (p:=⟨gbx,1,none⟩) (Kd.R_far (p:=⟨gbx,0,none⟩) (Kd.R_types HO8.out BKX.out (by decide)) (fun _ hk=>hk.2) (.int .i64 ((rd_T59 l2 x22).f0))) (fun _ hk=>hk.2) (.int .i64 ((rd_T59 l2 x22).f1))) (fun _ hk=>hk.2) (.int .i64 ((rd_T59 l2 x22).f2))) (fun _ hk=>hk.1))⟩;have HO9_:Aside0 (Kd.R (Kd.int .i64) 3 wb w.heap.size (fun k_=>k_≠w3.heap.size) u9 x9):=⟨(by rw[hw];exact Kd.R_mono (Kd.R_far (p:=⟨gbx,2,none⟩) (Kd.R_far (p:=⟨gbx,1,none⟩) (Kd.R_far (p:=⟨gbx,0,none⟩) (Kd.R_types HO9.out BKX.out (by decide)) (fun _ hk=>hk.2) (.int .i64 ((rd_T59 l2 x22).f0))) (fun _ hk=>hk.2) (.int .i64 ((rd_T59 l2 x22).f1))) (fun _ hk=>hk.2) (.int .i64 ((rd_T59 l2 x22).f2))) (fun _ hk=>hk.1))⟩;have HM_:Aside0 (wb.ownsMap Tryz.prog 3 (plainElem Tryz.prog 3) w3.heap.size x8.length D):=⟨by rw[hw];exact impl_spoken.map_far (impl_spoken.map_far (impl_spoken.map_far HM.out NXM.out) NXM.out) NXM.out⟩;have BKI_:Aside0 (wb.heap[gbi]?=some (.cells #[.slice A0 l0.length c0,.int .i64 a1] 34 (0,0))):=⟨by rw[hw];refine blk_far ?_ NXI.out _;refine blk_far ?_ NXI.out _;refine blk_far ?_ NXI.out _;exact BKI.out⟩;have BKA_:Aside0 (wb.heap[gba]?=some (.cells #[.int .i64 a3,.int .i64 a4,.int .i64 a5] 40 (0,0))):=⟨by rw[hw];refine blk_far ?_ NXA.out _;refine blk_far ?_ NXA.out _;refine blk_far ?_ NXA.out _;exact BKA.out⟩;have BKX_:Aside0 (wb.heap[gbx]?=some (.cells #[.int .i64 ((rd_T59 l2 x22).f0),.int .i64 ((rd_T59 l2 x22).f1),.int .i64 ((rd_T59 l2 x22).f2)] 59 (0,0))):=⟨by rw[hw];refine blk_put (cs := #[.int .i64 ((rd_T59 l2 x22).f0),.int .i64 ((rd_T59 l2 x22).f1),.int .i64 0]) ?_ 2 _ rfl;refine blk_put (cs := #[.int .i64 ((rd_T59 l2 x22).f0),.int .i64 0,.int .i64 0]) ?_ 1 _ rfl;refine blk_put (cs := #[.int .i64 0,.int .i64 0,.int .i64 0]) ?_ 0 _ rfl;exact BKX.out⟩;have HB_:Aside0 (Below w.heap.size w wb):=⟨by rw[hw];exact below_set (below_set (below_set HB.out GEX.out) GEX.out) GEX.out⟩;clear hw HO8 HO9 HM BKI BKA BKX HB;have HO8:=HO8_;have HO9:=HO9_;have HM:=HM_;have BKI:=BKI_;have BKA:=BKA_;have BKX:=BKX_;have HB:=HB_;clear HO8_ HO9_ HM_ BKI_ BKA_ BKX_ HB_;(try clear hcza_0 hcza_1 hcza_2 hfza_0 hfza_1 hfza_2);have hczb_0:=bc BKX.out 0;have hczb_1:=bc BKX.out 1;have hczb_2:=bc BKX.out 2;have hfzb_0:=blk_frozen BKX.out 0;have hfzb_1:=blk_frozen BKX.out 1;have hfzb_2:=blk_frozen BKX.out 2;have hczc_0:=bc BKA.out 0;have hczc_1:=bc BKA.out 1;have hczc_2:=bc BKA.out 2;have hfzc_0:=blk_frozen BKA.out 0;have hfzc_1:=blk_frozen BKA.out 1;have hfzc_2:=blk_frozen BKA.out 2;have hczd_0:=bc BKI.out 0;have hczd_1:=bc BKI.out 1;have hfzd_0:=blk_frozen BKI.out 0;have hfzd_1:=blk_frozen BKI.out 1)|(at_lookup;refine wpList_lookup_own_ok_int _ rfl _ _ 95 rfl 3 3 .i64 impl_spoken.law3 Tryz.underlying95 Tryz.underlying3 (impl_spoken.zero3 _) w3.heap.size x8.length D rfl (by exact HM.out) _ _ rfl (Maps.keyOf_int_mk Tryz.underlying3 CW.out) ?_;intro c_ hat_ hwc_;rw[HS.out]))
      go_quiet (fail)
      generalize hq_:wb.drewN _=wq
      replace HO8:=am (Kd.R_at hq_ HO8.out)
      replace HO9:=am (Kd.R_at hq_ HO9.out)
      replace BKI:=am (blk_at hq_ BKI.out)
      replace BKA:=am (blk_at hq_ BKA.out)
      replace BKX:=am (blk_at hq_ BKX.out)
      replace HB:=am (below_at hq_ HB.out)
      replace HM:=am (impl_spoken.map_to HM.out (show wq.heap[w3.heap.size]?=wb.heap[w3.heap.size]? from by rw[← hq_];rfl))
      clear hq_
      (try clear hczb_0 hczb_1 hczb_2 hfzb_0 hfzb_1 hfzb_2);(try clear hczc_0 hczc_1 hczc_2 hfzc_0 hfzc_1 hfzc_2);(try clear hczd_0 hczd_1 hfzd_0 hfzd_1)
      have hczg_0:=bc BKX.out 0;have hczg_1:=bc BKX.out 1;have hczg_2:=bc BKX.out 2;have hfzg_0:=blk_frozen BKX.out 0;have hfzg_1:=blk_frozen BKX.out 1;have hfzg_2:=blk_frozen BKX.out 2;have hczh_0:=bc BKA.out 0;have hczh_1:=bc BKA.out 1;have hczh_2:=bc BKA.out 2;have hfzh_0:=blk_frozen BKA.out 0;have hfzh_1:=blk_frozen BKA.out 1;have hfzh_2:=blk_frozen BKA.out 2;have hczi_0:=bc BKI.out 0;have hczi_1:=bc BKI.out 1;have hfzi_0:=blk_frozen BKI.out 0;have hfzi_1:=blk_frozen BKI.out 1
      go_wp2_with (first|((with_reducible refine gate_builtin (b := .append) (xs := #[.tmp 78,.tmp 80]) rfl ?_);at_builtin;refine Kd.R_append (Kd.int .i64) (w0:=w) w.heap.size rfl (.tmp 78) (.tmp 80) 22 3 (.int .i64 0) 8 rfl Tryz.underlying22 info3 rfl (by decide) (by omega) u9 x9 x22 [.int .i64 x22] (fun k_=>k_≠w3.heap.size) (fun _=>False) rfl (by first|(go_simp;done)|(go_simp;rfl)) ?aP (fun _ hk=>hk.elim) ?aF ?aO ?aB ?aS ?aL ?_;(case aP=>exact rfl);(case aB=>exact bl);(case aF=>exact(fun k_ hk_ e_=>by subst e_;exact absurd hk_ (Nat.not_le_of_lt (World.ownsMap.lt (by(with_reducible repeat(first|refine impl_spoken.map_drewN ?_ _|refine World.ownsMap.alloc ?_ _));exact HM.out)))));(case aO=>exact(rup HO9.out));(case aS=>exact(below_size bl));(case aL=>have:=CL.out;omega);intro va wc ho hb hg hat;replace HO8:=am (Kd.R_over' (rup HO8.out) (Kd.R_typed (rup HO9.out)) (by decide) hg);replace BKI:=am (blk_grown (g:=gbi) (o := .cells #[.slice A0 l0.length c0,.int .i64 a1] 34 (0,0)) (by exact bup BKI.out) hg (Kd.R_ne HO9.out BKI.out (by decide)));replace BKA:=am (blk_grown (g:=gba) (o := .cells #[.int .i64 a3,.int .i64 a4,.int .i64 a5] 40 (0,0)) (by exact bup BKA.out) hg (Kd.R_ne HO9.out BKA.out (by decide)));replace BKX:=am (blk_grown (g:=gbx) (o := .cells #[.int .i64 ((rd_T59 l2 x22).f0),.int .i64 ((rd_T59 l2 x22).f1),.int .i64 ((rd_T59 l2 x22).f2)] 59 (0,0)) (by exact bup BKX.out) hg (Kd.R_ne HO9.out BKX.out (by decide)));replace HM:=am (World.ownsMap.kept (by(with_reducible repeat(first|refine impl_spoken.map_drewN ?_ _|refine World.ownsMap.alloc ?_ _));exact HM.out) hg (fun e_=>HO9.out.1 _ e_.symm rfl));replace HB:=am (hb);replace HO9:=am (ho);clear ho hb hg hat))
      go_roundg k1
      case measure=>have:=HK1.out;omega
      case rel=>exact⟨x8,x9 ++ [x22],la,(wrap64 (x22+1)),D,fin2,H',⟨by have:=HK1.out;omega⟩,⟨rup HO8.out⟩,⟨rup HO9.out⟩,⟨by(with_reducible repeat(first|refine impl_spoken.map_drewN ?_ _|refine World.ownsMap.alloc ?_ _));exact HM.out⟩,HG,⟨by exact bup BKI.out⟩,⟨by exact bup BKA.out⟩,⟨bl⟩⟩
     ·by_cases c2:wrap64 ((rd_T59 l2 x22).f2 - (rd_T59 l2 x22).f1)<a5
      ·rw[if_pos (show impl_spoken.bad l0 a1 a3 a4 a5 la (rd_T59 l2 x22) from Or.inr (Or.inl c2))] at H
       obtain⟨cl,H⟩:=ifp H
       have CL:=am cl
       clear cl
       have H':=am H
       clear H
       have c1b:decide ((l0.length:Int)≤(rd_T59 l2 x22).f0)=false:=decide_eq_false c1
       have c2b:decide (wrap64 ((rd_T59 l2 x22).f2 - (rd_T59 l2 x22).f1)<a5)=true:=decide_eq_true c2
       clear c9 c10 c1 c2
       have p_:0≤(x22:Int):=od
       have q_:x22<(l2.length:Int):=od
       obtain⟨adh,eh,hxh_0,hxh_1,hxh_2⟩:=at_T59 HR2.out x22 p_ q_
       cases eh
       replace hxh_0:=(HB.out.cell (World.block_lt_of_cell? w _ hxh_0)).trans hxh_0
       replace hxh_1:=(HB.out.cell (World.block_lt_of_cell? w _ hxh_1)).trans hxh_1
       replace hxh_2:=(HB.out.cell (World.block_lt_of_cell? w _ hxh_2)).trans hxh_2
       replace p_:=eq_true p_
       replace q_:=eq_true q_
       go_wp2_with (first|((with_reducible refine gate_dst (N:=12) rfl ?_);refine box_event ?hg (N:=12) ?hd (cs := #[.int .i64 0,.int .i64 0,.int .i64 0]) (t:=59) ?hr ?_;(case hd=>rfl);(case hg=>rfl);(case hr=>first|(go_simp;done)|(go_simp;rfl));intro gbx hg wa hbox hb;replace HO8:=am (Kd.R_below (rup HO8.out) hb);replace HO9:=am (Kd.R_below (rup HO9.out) hb);have BKX:=am (hbox);have GEX:=am (ge_ bl hg);replace HB:=am (below_step bl hb);have NXI:=am ((by rw[hg];exact Nat.ne_of_lt (blk_lt (g:=gbi) (o := .cells #[.slice A0 l0.length c0,.int .i64 a1] 34 (0,0)) (by exact bup BKI.out)):gbi≠gbx));replace BKI:=am (blk_below (g:=gbi) (o := .cells #[.slice A0 l0.length c0,.int .i64 a1] 34 (0,0)) (by exact bup BKI.out) hb);have NXA:=am ((by rw[hg];exact Nat.ne_of_lt (blk_lt (g:=gba) (o := .cells #[.int .i64 a3,.int .i64 a4,.int .i64 a5] 40 (0,0)) (by exact bup BKA.out)):gba≠gbx));replace BKA:=am (blk_below (g:=gba) (o := .cells #[.int .i64 a3,.int .i64 a4,.int .i64 a5] 40 (0,0)) (by exact bup BKA.out) hb);have NXM:=am ((by rw[hg];exact Nat.ne_of_lt (World.ownsMap.lt (by(with_reducible repeat(first|refine impl_spoken.map_drewN ?_ _|refine World.ownsMap.alloc ?_ _));exact HM.out)):w3.heap.size≠gbx));replace HM:=am (impl_spoken.map_below (by(with_reducible repeat(first|refine impl_spoken.map_drewN ?_ _|refine World.ownsMap.alloc ?_ _));exact HM.out) hb);clear hb hbox hg;have hcza_0:=bc BKX.out 0;have hcza_1:=bc BKX.out 1;have hcza_2:=bc BKX.out 2;have hfza_0:=blk_frozen BKX.out 0;have hfza_1:=blk_frozen BKX.out 1;have hfza_2:=blk_frozen BKX.out 2)|((with_reducible refine gate_store (t:=59) (p:=12) rfl ?_);refine store_event (t:=59) (p:=12) (v:=?vo) (w1:=(((wa.setCell ⟨gbx,0,none⟩ (.int .i64 ((rd_T59 l2 x22).f0))).setCell ⟨gbx,1,none⟩ (.int .i64 ((rd_T59 l2 x22).f1))).setCell ⟨gbx,2,none⟩ (.int .i64 ((rd_T59 l2 x22).f2)))) ?hg ?ho ?hn ?hr ?_;(case ho=>rfl);(case hg=>rfl);(case hn=>rfl);(case hr=>first|(go_simp;done)|(go_simp;rfl));intro wb hw;have HO8_:Aside0 (Kd.R k90 90 wb w.heap.size (fun k_=>k_≠w3.heap.size) u8 x8):=⟨(by rw[hw];exact Kd.R_mono (Kd.R_far (p:=⟨gbx,2,none⟩) (Kd.R_far (p:=⟨gbx,1,none⟩) (Kd.R_far (p:=⟨gbx,0,none⟩) (Kd.R_types HO8.out BKX.out (by decide)) (fun _ hk=>hk.2) (.int .i64 ((rd_T59 l2 x22).f0))) (fun _ hk=>hk.2) (.int .i64 ((rd_T59 l2 x22).f1))) (fun _ hk=>hk.2) (.int .i64 ((rd_T59 l2 x22).f2))) (fun _ hk=>hk.1))⟩;have HO9_:Aside0 (Kd.R (Kd.int .i64) 3 wb w.heap.size (fun k_=>k_≠w3.heap.size) u9 x9):=⟨(by rw[hw];exact Kd.R_mono (Kd.R_far (p:=⟨gbx,2,none⟩) (Kd.R_far (p:=⟨gbx,1,none⟩) (Kd.R_far (p:=⟨gbx,0,none⟩) (Kd.R_types HO9.out BKX.out (by decide)) (fun _ hk=>hk.2) (.int .i64 ((rd_T59 l2 x22).f0))) (fun _ hk=>hk.2) (.int .i64 ((rd_T59 l2 x22).f1))) (fun _ hk=>hk.2) (.int .i64 ((rd_T59 l2 x22).f2))) (fun _ hk=>hk.1))⟩;have HM_:Aside0 (wb.ownsMap Tryz.prog 3 (plainElem Tryz.prog 3) w3.heap.size x8.length D):=⟨by rw[hw];exact impl_spoken.map_far (impl_spoken.map_far (impl_spoken.map_far HM.out NXM.out) NXM.out) NXM.out⟩;have BKI_:Aside0 (wb.heap[gbi]?=some (.cells #[.slice A0 l0.length c0,.int .i64 a1] 34 (0,0))):=⟨by rw[hw];refine blk_far ?_ NXI.out _;refine blk_far ?_ NXI.out _;refine blk_far ?_ NXI.out _;exact BKI.out⟩;have BKA_:Aside0 (wb.heap[gba]?=some (.cells #[.int .i64 a3,.int .i64 a4,.int .i64 a5] 40 (0,0))):=⟨by rw[hw];refine blk_far ?_ NXA.out _;refine blk_far ?_ NXA.out _;refine blk_far ?_ NXA.out _;exact BKA.out⟩;have BKX_:Aside0 (wb.heap[gbx]?=some (.cells #[.int .i64 ((rd_T59 l2 x22).f0),.int .i64 ((rd_T59 l2 x22).f1),.int .i64 ((rd_T59 l2 x22).f2)] 59 (0,0))):=⟨by rw[hw];refine blk_put (cs := #[.int .i64 ((rd_T59 l2 x22).f0),.int .i64 ((rd_T59 l2 x22).f1),.int .i64 0]) ?_ 2 _ rfl;refine blk_put (cs := #[.int .i64 ((rd_T59 l2 x22).f0),.int .i64 0,.int .i64 0]) ?_ 1 _ rfl;refine blk_put (cs := #[.int .i64 0,.int .i64 0,.int .i64 0]) ?_ 0 _ rfl;exact BKX.out⟩;have HB_:Aside0 (Below w.heap.size w wb):=⟨by rw[hw];exact below_set (below_set (below_set HB.out GEX.out) GEX.out) GEX.out⟩;clear hw HO8 HO9 HM BKI BKA BKX HB;have HO8:=HO8_;have HO9:=HO9_;have HM:=HM_;have BKI:=BKI_;have BKA:=BKA_;have BKX:=BKX_;have HB:=HB_;clear HO8_ HO9_ HM_ BKI_ BKA_ BKX_ HB_;(try clear hcza_0 hcza_1 hcza_2 hfza_0 hfza_1 hfza_2);have hczb_0:=bc BKX.out 0;have hczb_1:=bc BKX.out 1;have hczb_2:=bc BKX.out 2;have hfzb_0:=blk_frozen BKX.out 0;have hfzb_1:=blk_frozen BKX.out 1;have hfzb_2:=blk_frozen BKX.out 2;have hczc_0:=bc BKA.out 0;have hczc_1:=bc BKA.out 1;have hczc_2:=bc BKA.out 2;have hfzc_0:=blk_frozen BKA.out 0;have hfzc_1:=blk_frozen BKA.out 1;have hfzc_2:=blk_frozen BKA.out 2;have hczd_0:=bc BKI.out 0;have hczd_1:=bc BKI.out 1;have hfzd_0:=blk_frozen BKI.out 0;have hfzd_1:=blk_frozen BKI.out 1)|(at_lookup;refine wpList_lookup_own_ok_int _ rfl _ _ 95 rfl 3 3 .i64 impl_spoken.law3 Tryz.underlying95 Tryz.underlying3 (impl_spoken.zero3 _) w3.heap.size x8.length D rfl (by exact HM.out) _ _ rfl (Maps.keyOf_int_mk Tryz.underlying3 CW.out) ?_;intro c_ hat_ hwc_;rw[HS.out]))
       go_quiet (fail)
       generalize hq_:wb.drewN _=wq
       replace HO8:=am (Kd.R_at hq_ HO8.out)
       replace HO9:=am (Kd.R_at hq_ HO9.out)
       replace BKI:=am (blk_at hq_ BKI.out)
       replace BKA:=am (blk_at hq_ BKA.out)
       replace BKX:=am (blk_at hq_ BKX.out)
       replace HB:=am (below_at hq_ HB.out)
       replace HM:=am (impl_spoken.map_to HM.out (show wq.heap[w3.heap.size]?=wb.heap[w3.heap.size]? from by rw[← hq_];rfl))
       clear hq_
       (try clear hczb_0 hczb_1 hczb_2 hfzb_0 hfzb_1 hfzb_2);(try clear hczc_0 hczc_1 hczc_2 hfzc_0 hfzc_1 hfzc_2);(try clear hczd_0 hczd_1 hfzd_0 hfzd_1)
       have hczg_0:=bc BKX.out 0;have hczg_1:=bc BKX.out 1;have hczg_2:=bc BKX.out 2;have hfzg_0:=blk_frozen BKX.out 0;have hfzg_1:=blk_frozen BKX.out 1;have hfzg_2:=blk_frozen BKX.out 2;have hczh_0:=bc BKA.out 0;have hczh_1:=bc BKA.out 1;have hczh_2:=bc BKA.out 2;have hfzh_0:=blk_frozen BKA.out 0;have hfzh_1:=blk_frozen BKA.out 1;have hfzh_2:=blk_frozen BKA.out 2;have hczi_0:=bc BKI.out 0;have hczi_1:=bc BKI.out 1;have hfzi_0:=blk_frozen BKI.out 0;have hfzi_1:=blk_frozen BKI.out 1
       go_wp2_with (first|((with_reducible refine gate_builtin (b := .append) (xs := #[.tmp 78,.tmp 80]) rfl ?_);at_builtin;refine Kd.R_append (Kd.int .i64) (w0:=w) w.heap.size rfl (.tmp 78) (.tmp 80) 22 3 (.int .i64 0) 8 rfl Tryz.underlying22 info3 rfl (by decide) (by omega) u9 x9 x22 [.int .i64 x22] (fun k_=>k_≠w3.heap.size) (fun _=>False) rfl (by first|(go_simp;done)|(go_simp;rfl)) ?aP (fun _ hk=>hk.elim) ?aF ?aO ?aB ?aS ?aL ?_;(case aP=>exact rfl);(case aB=>exact bl);(case aF=>exact(fun k_ hk_ e_=>by subst e_;exact absurd hk_ (Nat.not_le_of_lt (World.ownsMap.lt (by(with_reducible repeat(first|refine impl_spoken.map_drewN ?_ _|refine World.ownsMap.alloc ?_ _));exact HM.out)))));(case aO=>exact(rup HO9.out));(case aS=>exact(below_size bl));(case aL=>have:=CL.out;omega);intro va wc ho hb hg hat;replace HO8:=am (Kd.R_over' (rup HO8.out) (Kd.R_typed (rup HO9.out)) (by decide) hg);replace BKI:=am (blk_grown (g:=gbi) (o := .cells #[.slice A0 l0.length c0,.int .i64 a1] 34 (0,0)) (by exact bup BKI.out) hg (Kd.R_ne HO9.out BKI.out (by decide)));replace BKA:=am (blk_grown (g:=gba) (o := .cells #[.int .i64 a3,.int .i64 a4,.int .i64 a5] 40 (0,0)) (by exact bup BKA.out) hg (Kd.R_ne HO9.out BKA.out (by decide)));replace BKX:=am (blk_grown (g:=gbx) (o := .cells #[.int .i64 ((rd_T59 l2 x22).f0),.int .i64 ((rd_T59 l2 x22).f1),.int .i64 ((rd_T59 l2 x22).f2)] 59 (0,0)) (by exact bup BKX.out) hg (Kd.R_ne HO9.out BKX.out (by decide)));replace HM:=am (World.ownsMap.kept (by(with_reducible repeat(first|refine impl_spoken.map_drewN ?_ _|refine World.ownsMap.alloc ?_ _));exact HM.out) hg (fun e_=>HO9.out.1 _ e_.symm rfl));replace HB:=am (hb);replace HO9:=am (ho);clear ho hb hg hat))
       go_roundg k1
       case measure=>have:=HK1.out;omega
       case rel=>exact⟨x8,x9 ++ [x22],la,(wrap64 (x22+1)),D,fin2,H',⟨by have:=HK1.out;omega⟩,⟨rup HO8.out⟩,⟨rup HO9.out⟩,⟨by(with_reducible repeat(first|refine impl_spoken.map_drewN ?_ _|refine World.ownsMap.alloc ?_ _));exact HM.out⟩,HG,⟨by exact bup BKI.out⟩,⟨by exact bup BKA.out⟩,⟨bl⟩⟩
      ·by_cases c4:wrap64 ((rd_T59 l2 x22).f1+a3)≥wrap64 ((rd_T59 l2 x22).f2+a4)
       ·rw[if_pos (show impl_spoken.bad l0 a1 a3 a4 a5 la (rd_T59 l2 x22) from Or.inr (Or.inr (Or.inr c4)))] at H
        obtain⟨cl,H⟩:=ifp H
        have CL:=am cl
        clear cl
        have H':=am H
        clear H
        have c1b:decide ((l0.length:Int)≤(rd_T59 l2 x22).f0)=false:=decide_eq_false c1
        have c2b:decide (wrap64 ((rd_T59 l2 x22).f2 - (rd_T59 l2 x22).f1)<a5)=false:=decide_eq_false c2
        have c4b:decide (wrap64 ((rd_T59 l2 x22).f2+a4)≤wrap64 ((rd_T59 l2 x22).f1+a3))=true:=decide_eq_true c4
        clear c9 c10 c1 c2 c4
        have p_:0≤(x22:Int):=od
        have q_:x22<(l2.length:Int):=od
        obtain⟨adh,eh,hxh_0,hxh_1,hxh_2⟩:=at_T59 HR2.out x22 p_ q_
        cases eh
        replace hxh_0:=(HB.out.cell (World.block_lt_of_cell? w _ hxh_0)).trans hxh_0
        replace hxh_1:=(HB.out.cell (World.block_lt_of_cell? w _ hxh_1)).trans hxh_1
        replace hxh_2:=(HB.out.cell (World.block_lt_of_cell? w _ hxh_2)).trans hxh_2
        replace p_:=eq_true p_
        replace q_:=eq_true q_
        go_wp2_with (first|((with_reducible refine gate_dst (N:=12) rfl ?_);refine box_event ?hg (N:=12) ?hd (cs := #[.int .i64 0,.int .i64 0,.int .i64 0]) (t:=59) ?hr ?_;(case hd=>rfl);(case hg=>rfl);(case hr=>first|(go_simp;done)|(go_simp;rfl));intro gbx hg wa hbox hb;replace HO8:=am (Kd.R_below (rup HO8.out) hb);replace HO9:=am (Kd.R_below (rup HO9.out) hb);have BKX:=am (hbox);have GEX:=am (ge_ bl hg);replace HB:=am (below_step bl hb);have NXI:=am ((by rw[hg];exact Nat.ne_of_lt (blk_lt (g:=gbi) (o := .cells #[.slice A0 l0.length c0,.int .i64 a1] 34 (0,0)) (by exact bup BKI.out)):gbi≠gbx));replace BKI:=am (blk_below (g:=gbi) (o := .cells #[.slice A0 l0.length c0,.int .i64 a1] 34 (0,0)) (by exact bup BKI.out) hb);have NXA:=am ((by rw[hg];exact Nat.ne_of_lt (blk_lt (g:=gba) (o := .cells #[.int .i64 a3,.int .i64 a4,.int .i64 a5] 40 (0,0)) (by exact bup BKA.out)):gba≠gbx));replace BKA:=am (blk_below (g:=gba) (o := .cells #[.int .i64 a3,.int .i64 a4,.int .i64 a5] 40 (0,0)) (by exact bup BKA.out) hb);have NXM:=am ((by rw[hg];exact Nat.ne_of_lt (World.ownsMap.lt (by(with_reducible repeat(first|refine impl_spoken.map_drewN ?_ _|refine World.ownsMap.alloc ?_ _));exact HM.out)):w3.heap.size≠gbx));replace HM:=am (impl_spoken.map_below (by(with_reducible repeat(first|refine impl_spoken.map_drewN ?_ _|refine World.ownsMap.alloc ?_ _));exact HM.out) hb);clear hb hbox hg;have hcza_0:=bc BKX.out 0;have hcza_1:=bc BKX.out 1;have hcza_2:=bc BKX.out 2;have hfza_0:=blk_frozen BKX.out 0;have hfza_1:=blk_frozen BKX.out 1;have hfza_2:=blk_frozen BKX.out 2)|((with_reducible refine gate_store (t:=59) (p:=12) rfl ?_);refine store_event (t:=59) (p:=12) (v:=?vo) (w1:=(((wa.setCell ⟨gbx,0,none⟩ (.int .i64 ((rd_T59 l2 x22).f0))).setCell ⟨gbx,1,none⟩ (.int .i64 ((rd_T59 l2 x22).f1))).setCell ⟨gbx,2,none⟩ (.int .i64 ((rd_T59 l2 x22).f2)))) ?hg ?ho ?hn ?hr ?_;(case ho=>rfl);(case hg=>rfl);(case hn=>rfl);(case hr=>first|(go_simp;done)|(go_simp;rfl));intro wb hw;have HO8_:Aside0 (Kd.R k90 90 wb w.heap.size (fun k_=>k_≠w3.heap.size) u8 x8):=⟨(by rw[hw];exact Kd.R_mono (Kd.R_far (p:=⟨gbx,2,none⟩) (Kd.R_far (p:=⟨gbx,1,none⟩) (Kd.R_far (p:=⟨gbx,0,none⟩) (Kd.R_types HO8.out BKX.out (by decide)) (fun _ hk=>hk.2) (.int .i64 ((rd_T59 l2 x22).f0))) (fun _ hk=>hk.2) (.int .i64 ((rd_T59 l2 x22).f1))) (fun _ hk=>hk.2) (.int .i64 ((rd_T59 l2 x22).f2))) (fun _ hk=>hk.1))⟩;have HO9_:Aside0 (Kd.R (Kd.int .i64) 3 wb w.heap.size (fun k_=>k_≠w3.heap.size) u9 x9):=⟨(by rw[hw];exact Kd.R_mono (Kd.R_far (p:=⟨gbx,2,none⟩) (Kd.R_far (p:=⟨gbx,1,none⟩) (Kd.R_far (p:=⟨gbx,0,none⟩) (Kd.R_types HO9.out BKX.out (by decide)) (fun _ hk=>hk.2) (.int .i64 ((rd_T59 l2 x22).f0))) (fun _ hk=>hk.2) (.int .i64 ((rd_T59 l2 x22).f1))) (fun _ hk=>hk.2) (.int .i64 ((rd_T59 l2 x22).f2))) (fun _ hk=>hk.1))⟩;have HM_:Aside0 (wb.ownsMap Tryz.prog 3 (plainElem Tryz.prog 3) w3.heap.size x8.length D):=⟨by rw[hw];exact impl_spoken.map_far (impl_spoken.map_far (impl_spoken.map_far HM.out NXM.out) NXM.out) NXM.out⟩;have BKI_:Aside0 (wb.heap[gbi]?=some (.cells #[.slice A0 l0.length c0,.int .i64 a1] 34 (0,0))):=⟨by rw[hw];refine blk_far ?_ NXI.out _;refine blk_far ?_ NXI.out _;refine blk_far ?_ NXI.out _;exact BKI.out⟩;have BKA_:Aside0 (wb.heap[gba]?=some (.cells #[.int .i64 a3,.int .i64 a4,.int .i64 a5] 40 (0,0))):=⟨by rw[hw];refine blk_far ?_ NXA.out _;refine blk_far ?_ NXA.out _;refine blk_far ?_ NXA.out _;exact BKA.out⟩;have BKX_:Aside0 (wb.heap[gbx]?=some (.cells #[.int .i64 ((rd_T59 l2 x22).f0),.int .i64 ((rd_T59 l2 x22).f1),.int .i64 ((rd_T59 l2 x22).f2)] 59 (0,0))):=⟨by rw[hw];refine blk_put (cs := #[.int .i64 ((rd_T59 l2 x22).f0),.int .i64 ((rd_T59 l2 x22).f1),.int .i64 0]) ?_ 2 _ rfl;refine blk_put (cs := #[.int .i64 ((rd_T59 l2 x22).f0),.int .i64 0,.int .i64 0]) ?_ 1 _ rfl;refine blk_put (cs := #[.int .i64 0,.int .i64 0,.int .i64 0]) ?_ 0 _ rfl;exact BKX.out⟩;have HB_:Aside0 (Below w.heap.size w wb):=⟨by rw[hw];exact below_set (below_set (below_set HB.out GEX.out) GEX.out) GEX.out⟩;clear hw HO8 HO9 HM BKI BKA BKX HB;have HO8:=HO8_;have HO9:=HO9_;have HM:=HM_;have BKI:=BKI_;have BKA:=BKA_;have BKX:=BKX_;have HB:=HB_;clear HO8_ HO9_ HM_ BKI_ BKA_ BKX_ HB_;(try clear hcza_0 hcza_1 hcza_2 hfza_0 hfza_1 hfza_2);have hczb_0:=bc BKX.out 0;have hczb_1:=bc BKX.out 1;have hczb_2:=bc BKX.out 2;have hfzb_0:=blk_frozen BKX.out 0;have hfzb_1:=blk_frozen BKX.out 1;have hfzb_2:=blk_frozen BKX.out 2;have hczc_0:=bc BKA.out 0;have hczc_1:=bc BKA.out 1;have hczc_2:=bc BKA.out 2;have hfzc_0:=blk_frozen BKA.out 0;have hfzc_1:=blk_frozen BKA.out 1;have hfzc_2:=blk_frozen BKA.out 2;have hczd_0:=bc BKI.out 0;have hczd_1:=bc BKI.out 1;have hfzd_0:=blk_frozen BKI.out 0;have hfzd_1:=blk_frozen BKI.out 1)|(at_lookup;refine wpList_lookup_own_ok_int _ rfl _ _ 95 rfl 3 3 .i64 impl_spoken.law3 Tryz.underlying95 Tryz.underlying3 (impl_spoken.zero3 _) w3.heap.size x8.length D rfl (by exact HM.out) _ _ rfl (Maps.keyOf_int_mk Tryz.underlying3 CW.out) ?_;intro c_ hat_ hwc_;rw[HS.out]))
        go_quiet (fail)
        generalize hq_:wb.drewN _=wq
        replace HO8:=am (Kd.R_at hq_ HO8.out)
        replace HO9:=am (Kd.R_at hq_ HO9.out)
        replace BKI:=am (blk_at hq_ BKI.out)
        replace BKA:=am (blk_at hq_ BKA.out)
        replace BKX:=am (blk_at hq_ BKX.out)
        replace HB:=am (below_at hq_ HB.out)
        replace HM:=am (impl_spoken.map_to HM.out (show wq.heap[w3.heap.size]?=wb.heap[w3.heap.size]? from by rw[← hq_];rfl))
        clear hq_
        (try clear hczb_0 hczb_1 hczb_2 hfzb_0 hfzb_1 hfzb_2);(try clear hczc_0 hczc_1 hczc_2 hfzc_0 hfzc_1 hfzc_2);(try clear hczd_0 hczd_1 hfzd_0 hfzd_1)
        have hczg_0:=bc BKX.out 0;have hczg_1:=bc BKX.out 1;have hczg_2:=bc BKX.out 2;have hfzg_0:=blk_frozen BKX.out 0;have hfzg_1:=blk_frozen BKX.out 1;have hfzg_2:=blk_frozen BKX.out 2;have hczh_0:=bc BKA.out 0;have hczh_1:=bc BKA.out 1;have hczh_2:=bc BKA.out 2;have hfzh_0:=blk_frozen BKA.out 0;have hfzh_1:=blk_frozen BKA.out 1;have hfzh_2:=blk_frozen BKA.out 2;have hczi_0:=bc BKI.out 0;have hczi_1:=bc BKI.out 1;have hfzi_0:=blk_frozen BKI.out 0;have hfzi_1:=blk_frozen BKI.out 1
        go_wp2_with (first|((with_reducible refine gate_builtin (b := .append) (xs := #[.tmp 78,.tmp 80]) rfl ?_);at_builtin;refine Kd.R_append (Kd.int .i64) (w0:=w) w.heap.size rfl (.tmp 78) (.tmp 80) 22 3 (.int .i64 0) 8 rfl Tryz.underlying22 info3 rfl (by decide) (by omega) u9 x9 x22 [.int .i64 x22] (fun k_=>k_≠w3.heap.size) (fun _=>False) rfl (by first|(go_simp;done)|(go_simp;rfl)) ?aP (fun _ hk=>hk.elim) ?aF ?aO ?aB ?aS ?aL ?_;(case aP=>exact rfl);(case aB=>exact bl);(case aF=>exact(fun k_ hk_ e_=>by subst e_;exact absurd hk_ (Nat.not_le_of_lt (World.ownsMap.lt (by(with_reducible repeat(first|refine impl_spoken.map_drewN ?_ _|refine World.ownsMap.alloc ?_ _));exact HM.out)))));(case aO=>exact(rup HO9.out));(case aS=>exact(below_size bl));(case aL=>have:=CL.out;omega);intro va wc ho hb hg hat;replace HO8:=am (Kd.R_over' (rup HO8.out) (Kd.R_typed (rup HO9.out)) (by decide) hg);replace BKI:=am (blk_grown (g:=gbi) (o := .cells #[.slice A0 l0.length c0,.int .i64 a1] 34 (0,0)) (by exact bup BKI.out) hg (Kd.R_ne HO9.out BKI.out (by decide)));replace BKA:=am (blk_grown (g:=gba) (o := .cells #[.int .i64 a3,.int .i64 a4,.int .i64 a5] 40 (0,0)) (by exact bup BKA.out) hg (Kd.R_ne HO9.out BKA.out (by decide)));replace BKX:=am (blk_grown (g:=gbx) (o := .cells #[.int .i64 ((rd_T59 l2 x22).f0),.int .i64 ((rd_T59 l2 x22).f1),.int .i64 ((rd_T59 l2 x22).f2)] 59 (0,0)) (by exact bup BKX.out) hg (Kd.R_ne HO9.out BKX.out (by decide)));replace HM:=am (World.ownsMap.kept (by(with_reducible repeat(first|refine impl_spoken.map_drewN ?_ _|refine World.ownsMap.alloc ?_ _));exact HM.out) hg (fun e_=>HO9.out.1 _ e_.symm rfl));replace HB:=am (hb);replace HO9:=am (ho);clear ho hb hg hat))
        go_roundg k1
        case measure=>have:=HK1.out;omega
        case rel=>exact⟨x8,x9 ++ [x22],la,(wrap64 (x22+1)),D,fin2,H',⟨by have:=HK1.out;omega⟩,⟨rup HO8.out⟩,⟨rup HO9.out⟩,⟨by(with_reducible repeat(first|refine impl_spoken.map_drewN ?_ _|refine World.ownsMap.alloc ?_ _));exact HM.out⟩,HG,⟨by exact bup BKI.out⟩,⟨by exact bup BKA.out⟩,⟨bl⟩⟩
       ·rw[if_neg (show ¬ impl_spoken.bad l0 a1 a3 a4 a5 la (rd_T59 l2 x22) from fun hb_=>by rcases hb_ with h_|h_|h_|h_;exact c1 h_;exact c2 h_;exact absurd h_.1 (by rw[hso];simp);exact c4 h_)] at H
        have CP:=am (show(rd_T59 l2 x22).f0<(l0.length:Int) from by omega)
        obtain⟨cl_,H⟩:=ifp H
        have CV:=am cl_.1
        have cf0:decide (0≤(rd_T59 l2 x22).f0)=true:=decide_eq_true cl_.2.1
        have cf1:decide ((rd_T59 l2 x22).f0<(l0.length:Int))=true:=decide_eq_true CP.out
        have cl:=cl_.2.2
        clear cl_
        have CL:=am cl
        clear cl
        have H':=am H
        clear H
        have c1b:decide ((l0.length:Int)≤(rd_T59 l2 x22).f0)=false:=decide_eq_false c1
        have c2b:decide (wrap64 ((rd_T59 l2 x22).f2 - (rd_T59 l2 x22).f1)<a5)=false:=decide_eq_false c2
        have c4b:decide (wrap64 ((rd_T59 l2 x22).f2+a4)≤wrap64 ((rd_T59 l2 x22).f1+a3))=false:=decide_eq_false c4
        clear c9 c10 c1 c2 c4
        (try clear hso)
        have p_:0≤(x22:Int):=od
        have q_:x22<(l2.length:Int):=od
        obtain⟨adh,eh,hxh_0,hxh_1,hxh_2⟩:=at_T59 HR2.out x22 p_ q_
        cases eh
        replace hxh_0:=(HB.out.cell (World.block_lt_of_cell? w _ hxh_0)).trans hxh_0
        replace hxh_1:=(HB.out.cell (World.block_lt_of_cell? w _ hxh_1)).trans hxh_1
        replace hxh_2:=(HB.out.cell (World.block_lt_of_cell? w _ hxh_2)).trans hxh_2
        replace p_:=eq_true p_
        replace q_:=eq_true q_
        go_wp2_with (first|((with_reducible refine gate_dst (N:=12) rfl ?_);refine box_event ?hg (N:=12) ?hd (cs := #[.int .i64 0,.int .i64 0,.int .i64 0]) (t:=59) ?hr ?_;(case hd=>rfl);(case hg=>rfl);(case hr=>first|(go_simp;done)|(go_simp;rfl));intro gbx hg wa hbox hb;replace HO8:=am (Kd.R_below (rup HO8.out) hb);replace HO9:=am (Kd.R_below (rup HO9.out) hb);have BKX:=am (hbox);have GEX:=am (ge_ bl hg);replace HB:=am (below_step bl hb);have NXI:=am ((by rw[hg];exact Nat.ne_of_lt (blk_lt (g:=gbi) (o := .cells #[.slice A0 l0.length c0,.int .i64 a1] 34 (0,0)) (by exact bup BKI.out)):gbi≠gbx));replace BKI:=am (blk_below (g:=gbi) (o := .cells #[.slice A0 l0.length c0,.int .i64 a1] 34 (0,0)) (by exact bup BKI.out) hb);have NXA:=am ((by rw[hg];exact Nat.ne_of_lt (blk_lt (g:=gba) (o := .cells #[.int .i64 a3,.int .i64 a4,.int .i64 a5] 40 (0,0)) (by exact bup BKA.out)):gba≠gbx));replace BKA:=am (blk_below (g:=gba) (o := .cells #[.int .i64 a3,.int .i64 a4,.int .i64 a5] 40 (0,0)) (by exact bup BKA.out) hb);have NXM:=am ((by rw[hg];exact Nat.ne_of_lt (World.ownsMap.lt (by(with_reducible repeat(first|refine impl_spoken.map_drewN ?_ _|refine World.ownsMap.alloc ?_ _));exact HM.out)):w3.heap.size≠gbx));replace HM:=am (impl_spoken.map_below (by(with_reducible repeat(first|refine impl_spoken.map_drewN ?_ _|refine World.ownsMap.alloc ?_ _));exact HM.out) hb);clear hb hbox hg;have hcza_0:=bc BKX.out 0;have hcza_1:=bc BKX.out 1;have hcza_2:=bc BKX.out 2;have hfza_0:=blk_frozen BKX.out 0;have hfza_1:=blk_frozen BKX.out 1;have hfza_2:=blk_frozen BKX.out 2)|((with_reducible refine gate_store (t:=59) (p:=12) rfl ?_);refine store_event (t:=59) (p:=12) (v:=?vo) (w1:=(((wa.setCell ⟨gbx,0,none⟩ (.int .i64 ((rd_T59 l2 x22).f0))).setCell ⟨gbx,1,none⟩ (.int .i64 ((rd_T59 l2 x22).f1))).setCell ⟨gbx,2,none⟩ (.int .i64 ((rd_T59 l2 x22).f2)))) ?hg ?ho ?hn ?hr ?_;(case ho=>rfl);(case hg=>rfl);(case hn=>rfl);(case hr=>first|(go_simp;done)|(go_simp;rfl));intro wb hw;have HO8_:Aside0 (Kd.R k90 90 wb w.heap.size (fun k_=>k_≠w3.heap.size) u8 x8):=⟨(by rw[hw];exact Kd.R_mono (Kd.R_far (p:=⟨gbx,2,none⟩) (Kd.R_far (p:=⟨gbx,1,none⟩) (Kd.R_far (p:=⟨gbx,0,none⟩) (Kd.R_types HO8.out BKX.out (by decide)) (fun _ hk=>hk.2) (.int .i64 ((rd_T59 l2 x22).f0))) (fun _ hk=>hk.2) (.int .i64 ((rd_T59 l2 x22).f1))) (fun _ hk=>hk.2) (.int .i64 ((rd_T59 l2 x22).f2))) (fun _ hk=>hk.1))⟩;have HO9_:Aside0 (Kd.R (Kd.int .i64) 3 wb w.heap.size (fun k_=>k_≠w3.heap.size) u9 x9):=⟨(by rw[hw];exact Kd.R_mono (Kd.R_far (p:=⟨gbx,2,none⟩) (Kd.R_far (p:=⟨gbx,1,none⟩) (Kd.R_far (p:=⟨gbx,0,none⟩) (Kd.R_types HO9.out BKX.out (by decide)) (fun _ hk=>hk.2) (.int .i64 ((rd_T59 l2 x22).f0))) (fun _ hk=>hk.2) (.int .i64 ((rd_T59 l2 x22).f1))) (fun _ hk=>hk.2) (.int .i64 ((rd_T59 l2 x22).f2))) (fun _ hk=>hk.1))⟩;have HM_:Aside0 (wb.ownsMap Tryz.prog 3 (plainElem Tryz.prog 3) w3.heap.size x8.length D):=⟨by rw[hw];exact impl_spoken.map_far (impl_spoken.map_far (impl_spoken.map_far HM.out NXM.out) NXM.out) NXM.out⟩;have BKI_:Aside0 (wb.heap[gbi]?=some (.cells #[.slice A0 l0.length c0,.int .i64 a1] 34 (0,0))):=⟨by rw[hw];refine blk_far ?_ NXI.out _;refine blk_far ?_ NXI.out _;refine blk_far ?_ NXI.out _;exact BKI.out⟩;have BKA_:Aside0 (wb.heap[gba]?=some (.cells #[.int .i64 a3,.int .i64 a4,.int .i64 a5] 40 (0,0))):=⟨by rw[hw];refine blk_far ?_ NXA.out _;refine blk_far ?_ NXA.out _;refine blk_far ?_ NXA.out _;exact BKA.out⟩;have BKX_:Aside0 (wb.heap[gbx]?=some (.cells #[.int .i64 ((rd_T59 l2 x22).f0),.int .i64 ((rd_T59 l2 x22).f1),.int .i64 ((rd_T59 l2 x22).f2)] 59 (0,0))):=⟨by rw[hw];refine blk_put (cs := #[.int .i64 ((rd_T59 l2 x22).f0),.int .i64 ((rd_T59 l2 x22).f1),.int .i64 0]) ?_ 2 _ rfl;refine blk_put (cs := #[.int .i64 ((rd_T59 l2 x22).f0),.int .i64 0,.int .i64 0]) ?_ 1 _ rfl;refine blk_put (cs := #[.int .i64 0,.int .i64 0,.int .i64 0]) ?_ 0 _ rfl;exact BKX.out⟩;have HB_:Aside0 (Below w.heap.size w wb):=⟨by rw[hw];exact below_set (below_set (below_set HB.out GEX.out) GEX.out) GEX.out⟩;clear hw HO8 HO9 HM BKI BKA BKX HB;have HO8:=HO8_;have HO9:=HO9_;have HM:=HM_;have BKI:=BKI_;have BKA:=BKA_;have BKX:=BKX_;have HB:=HB_;clear HO8_ HO9_ HM_ BKI_ BKA_ BKX_ HB_;(try clear hcza_0 hcza_1 hcza_2 hfza_0 hfza_1 hfza_2);have hczb_0:=bc BKX.out 0;have hczb_1:=bc BKX.out 1;have hczb_2:=bc BKX.out 2;have hfzb_0:=blk_frozen BKX.out 0;have hfzb_1:=blk_frozen BKX.out 1;have hfzb_2:=blk_frozen BKX.out 2;have hczc_0:=bc BKA.out 0;have hczc_1:=bc BKA.out 1;have hczc_2:=bc BKA.out 2;have hfzc_0:=blk_frozen BKA.out 0;have hfzc_1:=blk_frozen BKA.out 1;have hfzc_2:=blk_frozen BKA.out 2;have hczd_0:=bc BKI.out 0;have hczd_1:=bc BKI.out 1;have hfzd_0:=blk_frozen BKI.out 0;have hfzd_1:=blk_frozen BKI.out 1)|(at_lookup;refine wpList_lookup_own_ok_int _ rfl _ _ 95 rfl 3 3 .i64 impl_spoken.law3 Tryz.underlying95 Tryz.underlying3 (impl_spoken.zero3 _) w3.heap.size x8.length D rfl (by exact HM.out) _ _ rfl (Maps.keyOf_int_mk Tryz.underlying3 CW.out) ?_;intro c_ hat_ hwc_;rw[HS.out]))
        go_quiet (fail)
        generalize hq_:wb.drewN _=wq
        replace HO8:=am (Kd.R_at hq_ HO8.out)
        replace HO9:=am (Kd.R_at hq_ HO9.out)
        replace BKI:=am (blk_at hq_ BKI.out)
        replace BKA:=am (blk_at hq_ BKA.out)
        replace BKX:=am (blk_at hq_ BKX.out)
        replace HB:=am (below_at hq_ HB.out)
        replace HM:=am (impl_spoken.map_to HM.out (show wq.heap[w3.heap.size]?=wb.heap[w3.heap.size]? from by rw[← hq_];rfl))
        clear hq_
        (try clear hczb_0 hczb_1 hczb_2 hfzb_0 hfzb_1 hfzb_2);(try clear hczc_0 hczc_1 hczc_2 hfzc_0 hfzc_1 hfzc_2);(try clear hczd_0 hczd_1 hfzd_0 hfzd_1)
        have hczg_0:=bc BKX.out 0;have hczg_1:=bc BKX.out 1;have hczg_2:=bc BKX.out 2;have hfzg_0:=blk_frozen BKX.out 0;have hfzg_1:=blk_frozen BKX.out 1;have hfzg_2:=blk_frozen BKX.out 2;have hczh_0:=bc BKA.out 0;have hczh_1:=bc BKA.out 1;have hczh_2:=bc BKA.out 2;have hfzh_0:=blk_frozen BKA.out 0;have hfzh_1:=blk_frozen BKA.out 1;have hfzh_2:=blk_frozen BKA.out 2;have hczi_0:=bc BKI.out 0;have hczi_1:=bc BKI.out 1;have hfzi_0:=blk_frozen BKI.out 0;have hfzi_1:=blk_frozen BKI.out 1
        go_wp2_with (first|(at_mapUpdate;refine wpList_mapUpdate_own _ rfl _ _ _ 95 rfl 3 3 impl_spoken.law3 Tryz.underlying95 _ w3.heap.size x8.length D rfl (by exact HM.out) (by have:=CL.out;unfold maxLen;omega) _ _ _ rfl rfl (Maps.keyOf_int_mk Tryz.underlying3 CW.out) _ [] (plainElem_int Tryz.underlying3 CV.out) ?_;intro wc hown1 hgrow1;replace HM:=am (hown1);replace HO8:=am (Kd.R_grown (ok:=fun k_=>k_≠w3.heap.size) (rup HO8.out) hgrow1 (fun k_ hk_ e_=>hk_ (by injection e_)));replace HO9:=am (Kd.R_grown (ok:=fun k_=>k_≠w3.heap.size) (rup HO9.out) hgrow1 (fun k_ hk_ e_=>hk_ (by injection e_)));replace BKI:=am (blk_grown (g:=gbi) (o := .cells #[.slice A0 l0.length c0,.int .i64 a1] 34 (0,0)) (by exact bup BKI.out) hgrow1 (fun e_=>absurd (by injection e_) NMI.out));replace BKA:=am (blk_grown (g:=gba) (o := .cells #[.int .i64 a3,.int .i64 a4,.int .i64 a5] 40 (0,0)) (by exact bup BKA.out) hgrow1 (fun e_=>absurd (by injection e_) NMA.out));replace BKX:=am (blk_grown (g:=gbx) (o := .cells #[.int .i64 ((rd_T59 l2 x22).f0),.int .i64 ((rd_T59 l2 x22).f1),.int .i64 ((rd_T59 l2 x22).f2)] 59 (0,0)) (by exact bup BKX.out) hgrow1 (fun e_=>absurd (by injection e_) (Ne.symm NXM.out)));replace HB:=am ((show Below w.heap.size w _ from bl).grown hgrow1 (below_size HB.out) (fun j hj=>by cases hj;exact BGE.out));clear hown1 hgrow1;have hcze_0:=bc BKX.out 0;have hcze_1:=bc BKX.out 1;have hcze_2:=bc BKX.out 2;have hfze_0:=blk_frozen BKX.out 0;have hfze_1:=blk_frozen BKX.out 1;have hfze_2:=blk_frozen BKX.out 2;have hczf_0:=bc BKI.out 0;have hczf_1:=bc BKI.out 1;have hfzf_0:=blk_frozen BKI.out 0;have hfzf_1:=blk_frozen BKI.out 1;have p_:0≤(((rd_T59 l2 x22).f0):Int):=od;have q_:((rd_T59 l2 x22).f0)<(l0.length:Int):=CP.out;obtain⟨adp,ep,hxp⟩:=Kd.at_int HR0.out ((rd_T59 l2 x22).f0) p_ q_;cases ep;replace hxp:=(HB.out.cell (World.block_lt_of_cell? w _ hxp)).trans hxp;replace p_:=eq_true p_;replace q_:=eq_true q_)|((with_reducible refine gate_builtin (b := .append) (xs := #[.tmp 87,.tmp 97]) rfl ?_);at_builtin;refine Kd.R_append k90 (w0:=w) w.heap.size rfl (.tmp 87) (.tmp 97) 72 90 (.agg #[(.int .i64 0),(.int .i64 0),(.int .i64 0)]) 24 rfl Tryz.underlying72 info90 rfl (by decide) (by omega) u8 x8 (⟨rd l0 ((rd_T59 l2 x22).f0),wrap64 ((rd_T59 l2 x22).f1+a3),wrap64 ((rd_T59 l2 x22).f2+a4)⟩:S90) [.int .i64 (rd l0 ((rd_T59 l2 x22).f0)),.int .i64 (wrap64 ((rd_T59 l2 x22).f1+a3)),.int .i64 (wrap64 ((rd_T59 l2 x22).f2+a4))] (fun k_=>k_≠w3.heap.size) (fun _=>False) rfl rfl ?aP (fun _ hk=>hk.elim) ?aF ?aO ?aB ?aS ?aL ?_;(case aP=>exact k90_mkM _ _ _ (⟨rd l0 ((rd_T59 l2 x22).f0),wrap64 ((rd_T59 l2 x22).f1+a3),wrap64 ((rd_T59 l2 x22).f2+a4)⟩:S90));(case aB=>exact bl);(case aF=>exact(fun k_ hk_ e_=>by subst e_;exact absurd hk_ (Nat.not_le_of_lt (World.ownsMap.lt (by(with_reducible repeat(first|refine impl_spoken.map_drewN ?_ _|refine World.ownsMap.alloc ?_ _));exact HM.out)))));(case aO=>exact(rup HO8.out));(case aS=>exact(below_size bl));(case aL=>have:=CL.out;omega);intro va wd ho hb hg hat;replace HO9:=am (Kd.R_over' (rup HO9.out) (Kd.R_typed (rup HO8.out)) (by decide) hg);replace BKI:=am (blk_grown (g:=gbi) (o := .cells #[.slice (some adp) l0.length c0,.int .i64 a1] 34 (0,0)) (by exact bup BKI.out) hg (Kd.R_ne HO8.out BKI.out (by decide)));replace BKA:=am (blk_grown (g:=gba) (o := .cells #[.int .i64 a3,.int .i64 a4,.int .i64 a5] 40 (0,0)) (by exact bup BKA.out) hg (Kd.R_ne HO8.out BKA.out (by decide)));replace BKX:=am (blk_grown (g:=gbx) (o := .cells #[.int .i64 ((rd_T59 l2 x22).f0),.int .i64 ((rd_T59 l2 x22).f1),.int .i64 ((rd_T59 l2 x22).f2)] 59 (0,0)) (by exact bup BKX.out) hg (Kd.R_ne HO8.out BKX.out (by decide)));replace HM:=am (World.ownsMap.kept (by(with_reducible repeat(first|refine impl_spoken.map_drewN ?_ _|refine World.ownsMap.alloc ?_ _));exact HM.out) hg (fun e_=>HO8.out.1 _ e_.symm rfl));replace HB:=am (hb);replace HO8:=am (ho);clear ho hb hg hat))
        go_roundg k1
        case measure=>have:=HK1.out;omega
        case rel=>exact⟨x8 ++ [(⟨rd l0 ((rd_T59 l2 x22).f0),wrap64 ((rd_T59 l2 x22).f1+a3),wrap64 ((rd_T59 l2 x22).f2+a4)⟩:S90)],x9,impl_spoken.upd la ((rd_T59 l2 x22).f0) ((rd_T59 l2 x22).f1),(wrap64 (x22+1)),_,fin2,H',⟨by have:=HK1.out;omega⟩,⟨rup HO8.out⟩,⟨rup HO9.out⟩,⟨by rw[List.length_append];(with_reducible repeat(first|refine impl_spoken.map_drewN ?_ _|refine World.ownsMap.alloc ?_ _));exact HM.out⟩,⟨impl_spoken.agree_put HG.out _ _⟩,⟨by exact bup BKI.out⟩,⟨by exact bup BKA.out⟩,⟨bl⟩⟩
   ·have c9b0:=decide_eq_false c9
    clear c9
    simp only[Option.some.injEq,Prod.mk.injEq] at H
    obtain⟨rfl,rfl⟩:=H
    go_wp2
    repeat(go_quiet (fail);try go_wp2)
    go_ret2
    exact⟨_,_,by first|rfl|(simp;done)|(simp [*];done),rup (Kd.R_mono HO8.out (fun _ _=>trivial)),rup (Kd.R_mono HO9.out (fun _ _=>trivial)),bl⟩

def cmp_isNaN_int.f (a0:Int):Option (Bool):=some (a0 != a0)
set_option maxHeartbeats 8000000 in
set_option maxRecDepth 100000 in
theorem cmp_isNaN_int.calls (a0:Int) (r:Bool) (w:World) (h:cmp_isNaN_int.f a0=some r) :
  Calls Tryz.prog 86 #[.int .i64 a0] w fun e w'=>e = .returned (.bool r)∧Drawn0 w w':=by
 have H:(some (a0 != a0))=some r:=h
 clear h
 obtain rfl:=Option.some.inj H
 go_enter Tryz.func86,Tryz.ntmps86
 go_wp2
 go_ret
 exact⟨by first|rfl|(simp;done)|(simp [*];done),by repeat(first|exact Drawn0.refl _|apply Drawn0.step)⟩

def cmp_Compare_int.f (a0:Int) (a1:Int):Option (Int):=(cmp_isNaN_int.f a0).bind fun t387=>((cmp_isNaN_int.f a1).bind fun t388=>(if t387=true then(if t388=true then(some 0) else(some (-1))) else(if t388=true then(some 1) else(if a0<a1 then(some (-1)) else(if a0>a1 then(some 1) else(some 0))))))
set_option maxHeartbeats 8000000 in
set_option maxRecDepth 100000 in
theorem cmp_Compare_int.calls (a0:Int) (a1:Int) (r:Int) (w:World) (h:cmp_Compare_int.f a0 a1=some r) :
  Calls Tryz.prog 68 #[.int .i64 a0,.int .i64 a1] w fun e w'=>e = .returned (.int .i64 r)∧Drawn0 w w':=by
 have H:((cmp_isNaN_int.f a0).bind fun t387=>((cmp_isNaN_int.f a1).bind fun t388=>(if t387=true then(if t388=true then(some 0) else(some (-1))) else(if t388=true then(some 1) else(if a0<a1 then(some (-1)) else(if a0>a1 then(some 1) else(some 0)))))))=some r:=h
 clear h
 obtain⟨t387,A3,H⟩:=bnd H
 obtain⟨t388,A4,H⟩:=bnd H
 by_cases c5:t387=true
 ·subst c5
  replace H:=(if_pos rfl).symm.trans H
  by_cases c6:t388=true
  ·subst c6
   replace H:=(if_pos rfl).symm.trans H
   obtain rfl:=Option.some.inj H
   go_enter Tryz.func68,Tryz.ntmps68
   go_wp2_with (first|((with_reducible refine gate_callee (f:=86) rfl ?_);refine goesL_ (some 8) rfl rfl Tryz.func86 (by kernel_rfl) rfl #[.int .i64 a0] rfl tl ?_;(with_reducible refine(cmp_isNaN_int.calls a0 true _ A3.out).mono ?_);rintro e w' ⟨rfl,⟨nd,rfl⟩⟩;refine⟨_,rfl,?_⟩)|((with_reducible refine gate_callee (f:=86) rfl ?_);refine goesL_ (some 10) rfl rfl Tryz.func86 (by kernel_rfl) rfl #[.int .i64 a1] rfl tl ?_;(with_reducible refine(cmp_isNaN_int.calls a1 true _ A4.out).mono ?_);rintro e w' ⟨rfl,⟨nd,rfl⟩⟩;refine⟨_,rfl,?_⟩))
   go_ret
   exact⟨by first|rfl|(simp;done)|(simp [*];done),by repeat(first|exact Drawn0.refl _|apply Drawn0.step)⟩
  ·replace c6:=Bool.eq_false_iff.mpr c6
   subst c6
   replace H:=(if_neg Bool.false_ne_true).symm.trans H
   obtain rfl:=Option.some.inj H
   go_enter Tryz.func68,Tryz.ntmps68
   go_wp2_with (first|((with_reducible refine gate_callee (f:=86) rfl ?_);refine goesL_ (some 8) rfl rfl Tryz.func86 (by kernel_rfl) rfl #[.int .i64 a0] rfl tl ?_;(with_reducible refine(cmp_isNaN_int.calls a0 true _ A3.out).mono ?_);rintro e w' ⟨rfl,⟨nd,rfl⟩⟩;refine⟨_,rfl,?_⟩)|((with_reducible refine gate_callee (f:=86) rfl ?_);refine goesL_ (some 10) rfl rfl Tryz.func86 (by kernel_rfl) rfl #[.int .i64 a1] rfl tl ?_;(with_reducible refine(cmp_isNaN_int.calls a1 false _ A4.out).mono ?_);rintro e w' ⟨rfl,⟨nd,rfl⟩⟩;refine⟨_,rfl,?_⟩))
   go_ret
   exact⟨by first|rfl|(simp;done)|(simp [*];done),by repeat(first|exact Drawn0.refl _|apply Drawn0.step)⟩
 ·replace c5:=Bool.eq_false_iff.mpr c5
  subst c5
  replace H:=(if_neg Bool.false_ne_true).symm.trans H
  by_cases c7:t388=true
  ·subst c7
   replace H:=(if_pos rfl).symm.trans H
   obtain rfl:=Option.some.inj H
   go_enter Tryz.func68,Tryz.ntmps68
   go_wp2_with (first|((with_reducible refine gate_callee (f:=86) rfl ?_);refine goesL_ (some 8) rfl rfl Tryz.func86 (by kernel_rfl) rfl #[.int .i64 a0] rfl tl ?_;(with_reducible refine(cmp_isNaN_int.calls a0 false _ A3.out).mono ?_);rintro e w' ⟨rfl,⟨nd,rfl⟩⟩;refine⟨_,rfl,?_⟩)|((with_reducible refine gate_callee (f:=86) rfl ?_);refine goesL_ (some 10) rfl rfl Tryz.func86 (by kernel_rfl) rfl #[.int .i64 a1] rfl tl ?_;(with_reducible refine(cmp_isNaN_int.calls a1 true _ A4.out).mono ?_);rintro e w' ⟨rfl,⟨nd,rfl⟩⟩;refine⟨_,rfl,?_⟩))
   go_ret
   exact⟨by first|rfl|(simp;done)|(simp [*];done),by repeat(first|exact Drawn0.refl _|apply Drawn0.step)⟩
  ·replace c7:=Bool.eq_false_iff.mpr c7
   subst c7
   replace H:=(if_neg Bool.false_ne_true).symm.trans H
   rcases itc H with⟨c8,H⟩|⟨c8,H⟩
   ·have c8b0:=decide_eq_true c8
    clear c8
    obtain rfl:=Option.some.inj H
    go_enter Tryz.func68,Tryz.ntmps68
    go_wp2_with (first|((with_reducible refine gate_callee (f:=86) rfl ?_);refine goesL_ (some 8) rfl rfl Tryz.func86 (by kernel_rfl) rfl #[.int .i64 a0] rfl tl ?_;(with_reducible refine(cmp_isNaN_int.calls a0 false _ A3.out).mono ?_);rintro e w' ⟨rfl,⟨nd,rfl⟩⟩;refine⟨_,rfl,?_⟩)|((with_reducible refine gate_callee (f:=86) rfl ?_);refine goesL_ (some 10) rfl rfl Tryz.func86 (by kernel_rfl) rfl #[.int .i64 a1] rfl tl ?_;(with_reducible refine(cmp_isNaN_int.calls a1 false _ A4.out).mono ?_);rintro e w' ⟨rfl,⟨nd,rfl⟩⟩;refine⟨_,rfl,?_⟩))
    go_ret
    exact⟨by first|rfl|(simp;done)|(simp [*];done),by repeat(first|exact Drawn0.refl _|apply Drawn0.step)⟩
   ·have c8b0:=decide_eq_false c8
    clear c8
    rcases itc H with⟨c9,H⟩|⟨c9,H⟩
    ·have c9b0:decide (a1<a0)=true:=decide_eq_true c9
     clear c9
     obtain rfl:=Option.some.inj H
     go_enter Tryz.func68,Tryz.ntmps68
     go_wp2_with (first|((with_reducible refine gate_callee (f:=86) rfl ?_);refine goesL_ (some 8) rfl rfl Tryz.func86 (by kernel_rfl) rfl #[.int .i64 a0] rfl tl ?_;(with_reducible refine(cmp_isNaN_int.calls a0 false _ A3.out).mono ?_);rintro e w' ⟨rfl,⟨nd,rfl⟩⟩;refine⟨_,rfl,?_⟩)|((with_reducible refine gate_callee (f:=86) rfl ?_);refine goesL_ (some 10) rfl rfl Tryz.func86 (by kernel_rfl) rfl #[.int .i64 a1] rfl tl ?_;(with_reducible refine(cmp_isNaN_int.calls a1 false _ A4.out).mono ?_);rintro e w' ⟨rfl,⟨nd,rfl⟩⟩;refine⟨_,rfl,?_⟩))
     go_ret
     exact⟨by first|rfl|(simp;done)|(simp [*];done),by repeat(first|exact Drawn0.refl _|apply Drawn0.step)⟩
    ·have c9b0:decide (a1<a0)=false:=decide_eq_false c9
     clear c9
     obtain rfl:=Option.some.inj H
     go_enter Tryz.func68,Tryz.ntmps68
     go_wp2_with (first|((with_reducible refine gate_callee (f:=86) rfl ?_);refine goesL_ (some 8) rfl rfl Tryz.func86 (by kernel_rfl) rfl #[.int .i64 a0] rfl tl ?_;(with_reducible refine(cmp_isNaN_int.calls a0 false _ A3.out).mono ?_);rintro e w' ⟨rfl,⟨nd,rfl⟩⟩;refine⟨_,rfl,?_⟩)|((with_reducible refine gate_callee (f:=86) rfl ?_);refine goesL_ (some 10) rfl rfl Tryz.func86 (by kernel_rfl) rfl #[.int .i64 a1] rfl tl ?_;(with_reducible refine(cmp_isNaN_int.calls a1 false _ A4.out).mono ?_);rintro e w' ⟨rfl,⟨nd,rfl⟩⟩;refine⟨_,rfl,?_⟩))
     go_ret
     exact⟨by first|rfl|(simp;done)|(simp [*];done),by repeat(first|exact Drawn0.refl _|apply Drawn0.step)⟩

end Go.Proofs.YtipklbjbgbbgpaaGreat.PFnExactShiftToPass
