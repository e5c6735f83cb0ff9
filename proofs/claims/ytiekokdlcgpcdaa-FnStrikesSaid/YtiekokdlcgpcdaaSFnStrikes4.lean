/- Walks of functions that FnStrikes reaches. No conditions beyond the arguments' being read. -/
import Derived.Test.YtiekokdlcgpcdaaSFnStrikes0
import Derived.Test.YtiekokdlcgpcdaaSFnStrikes2
import Derived.Test.YtiekokdlcgpcdaaSFnStrikes3
namespace Go.Proofs.Ytiekokdlcgpcdaa.PFnStrikes
open Go.RowKit Go.Proofs.YtiekokdlcgpcdaaW.PrintWords Go.Proofs.YtiekokdlcgpcdaaW.PrintLast Go.Proofs.YtiekokdlcgpcdaaW.PrintMore
attribute [local go_sem] max2_int min2_int max_two min_two max_three min_three max_four min_four
set_option linter.unusedVariables false
set_option linter.unusedSimpArgs false

def impl_isRest.f (a0:Int):Option (Bool):=if a0≥1 then(some (decide (a0≤200))) else(some false)
set_option maxHeartbeats 8000000 in
set_option maxRecDepth 100000 in
theorem impl_isRest.calls (a0:Int) (r:Bool) (w:World) (h:impl_isRest.f a0=some r) :
  Calls Try.prog 24 #[.int .i64 a0] w fun e w'=>e = .returned (.bool r)∧Drawn0 w w':=by
 have H:(if a0≥1 then(some (decide (a0≤200))) else(some false))=some r:=h
 clear h
 rcases itc H with⟨c2,H⟩|⟨c2,H⟩
 ·have c2b0:decide (1≤a0)=true:=decide_eq_true c2
  clear c2
  obtain rfl:=Option.some.inj H
  go_enter Try.func24,Try.ntmps24
  go_wp2
  go_ret
  exact⟨by first|rfl|(simp;done)|(simp [*];done),by repeat(first|exact Drawn0.refl _|apply Drawn0.step)⟩
 ·have c2b0:decide (1≤a0)=false:=decide_eq_false c2
  clear c2
  obtain rfl:=Option.some.inj H
  go_enter Try.func24,Try.ntmps24
  go_wp2
  go_ret
  exact⟨by first|rfl|(simp;done)|(simp [*];done),by repeat(first|exact Drawn0.refl _|apply Drawn0.step)⟩

def impl_teethOf.l0:Nat→Int→List Int→List (S41)→Int→Int→Option (List Int)
 | 0,_,_,_,_,_=>none
 | k+1,x1,x5,x9,x10,x11=>if x11<x10 then(if 0≤x11 then(if x11<(x9.length:Int) then(if((rd_T41 x9 x11).f0)=x1 then(if x5.length<17592186044416 then(impl_teethOf.l0 k x1 (x5 ++ [x11]) x9 x10 (wrap64 (x11+1))) else(none)) else(impl_teethOf.l0 k x1 x5 x9 x10 (wrap64 (x11+1)))) else(none)) else(none)) else(some x5)
def impl_teethOf.f (k:Nat) (l0:List (S41)) (a1:Int):Option (List Int):=impl_teethOf.l0 k a1 (([]:List Int)) l0 (l0.length:Int) 0
set_option maxHeartbeats 8000000 in
set_option maxRecDepth 100000 in
theorem impl_teethOf.calls (k:Nat) (A0:Option Addr) (c0:Nat) (l0:List (S41)) (a1:Int) (r:List Int) (w:World) (hr0:Kd.C k41 w A0 l0.length l0) (hc0:l0.length≤c0) (h:impl_teethOf.f k l0 a1=some r) :
  Calls Try.prog 36 #[.slice A0 l0.length c0,.int .i64 a1] w fun e w'=>∃ v0_:Value,e = .returned (v0_)∧Kd.R (Kd.int .i64) 3 w' w.heap.size (fun _=>True) v0_ r∧Below w.heap.size w w':=by
 have hu41:=Try.underlying41
 have HR0:=am hr0
 have HC0:=am hc0
 clear hr0 hc0
 have HB:=am (Below.refl w.heap.size w)
 have H:(impl_teethOf.l0 k a1 (([]:List Int)) l0 (l0.length:Int) 0)=some r:=h
 clear h
 obtain⟨y297,hy297⟩:∃ y_:List Int,y_=(([]:List Int)):=⟨_,rfl⟩
 replace H:(impl_teethOf.l0 k a1 y297 l0 (l0.length:Int) 0)=some r:=by subst hy297;exact H
 have Ny297:=am hy297
 clear hy297
 have H':=am H
 clear H
 go_enter Try.func36,Try.ntmps36
 go_wp2_with (first|((with_reducible refine gate_dst (N:=8) rfl ?_);refine Kd.R_lit (Kd.int .i64) _ 3 ?hg (N:=8) ?hd (xs:=([]:List Int)) (inner:=[]) (ok:=fun _=>True) (okp:=fun _=>True) ?hr ?hp (fun _ hk=>hk) trivial (Below.refl _ _) (Nat.le_refl _) (by simp) ?_;(case hd=>rfl);(case hg=>rfl);(case hr=>first|(go_simp;done)|(go_simp;rfl));(case hp=>exact(Reps.none _ _));intro v298 w3 ho4 hb hg_ hnew_;clear hg_ hnew_;(first|rw[← Ny297.out] at ho4|(simp only[Int.reduceToNat] at ho4;rw[← Ny297.out] at ho4));have HO299:=am (Kd.R_lower ho4 (below_size bl));replace HB:=am (below_step bl hb);clear hb ho4))
 go_loopg [5,11] k (fun kq v5 v11 w'=>∃(x5_1:List Int) (x11_1:Int),v11 = .int .i64 x11_1∧Aside0 (impl_teethOf.l0 kq a1 x5_1 l0 (l0.length:Int) x11_1=some r)∧Aside0 (kq≤k)∧Aside0 (Kd.R (Kd.int .i64) 3 w' w.heap.size (fun _=>True) v5 x5_1)∧Aside0 (Below w.heap.size w w'))
 case atStart=>exact⟨(y297),(0),fin2,H',⟨Nat.le_refl _⟩,⟨rup HO299.out⟩,⟨bl⟩⟩
 case round =>
  clear H'
  obtain⟨x5_1,x11_1,rfl,HA,HK1,HO_5,HB⟩:=hrel
  cases gk with
  | zero=>exact absurd HA.out (by simp [impl_teethOf.l0])
  | succ k1 =>
   have H:=HA.out
   clear HA
   simp only[impl_teethOf.l0] at H
   rcases itc H with⟨c5,H⟩|⟨c5,H⟩
   ·have c5b0:=decide_eq_true c5
    clear c5
    obtain⟨c6b0,H⟩:=ifb H
    obtain⟨c7b0,H⟩:=ifb H
    rcases itc H with⟨c8,H⟩|⟨c8,H⟩
    ·have c8b0:(((rd_T41 l0 x11_1).f0) == a1)=true:=beq_iff_eq.mpr c8
     have c8b1:(((rd_T41 l0 x11_1).f0) != a1)=false:=bne_eq_false_iff_eq.mpr c8
     clear c8
     obtain⟨c9,H⟩:=ifp H
     have LMc9:=am c9
     clear c9
     obtain⟨y302,hy302⟩:∃ y_:List Int,y_=(x5_1 ++ [x11_1]):=⟨_,rfl⟩
     replace H:(impl_teethOf.l0 k1 a1 y302 l0 (l0.length:Int) (wrap64 (x11_1+1)))=some r:=by subst hy302;exact H
     have Ny302:=am hy302
     clear hy302
     have H':=am H
     clear H
     have p300:0≤(x11_1:Int):=od
     have q300:x11_1<(l0.length:Int):=od
     obtain⟨ad300,e300,hx300_0,hx300_1,hx300_2⟩:=at_T41 HR0.out x11_1 p300 q300
     cases e300
     replace hx300_0:=(HB.out.cell (World.block_lt_of_cell? w _ hx300_0)).trans hx300_0
     replace hx300_1:=(HB.out.cell (World.block_lt_of_cell? w _ hx300_1)).trans hx300_1
     replace hx300_2:=(HB.out.cell (World.block_lt_of_cell? w _ hx300_2)).trans hx300_2
     replace p300:=eq_true p300
     replace q300:=eq_true q300
     go_wp2_with (first|((with_reducible refine gate_dst (N:=7) rfl ?_);refine box_event ?hg (N:=7) ?hd (cs := #[.int .i64 0,.int .i64 0,.int .i64 0]) (t:=41) ?hr ?_;(case hd=>rfl);(case hg=>rfl);(case hr=>first|(go_simp;done)|(go_simp;rfl));intro gb301 hg w10 hbox hb;replace HO_5:=am (Kd.R_below (rup HO_5.out) hb);have BK301:=am (hbox);have GW301:=am (ge_ bl hg);have GE301:=am (ge_ bl hg);replace HB:=am (below_step bl hb);clear hb hbox hg;have hcz11_0:=bc BK301.out 0;have hcz11_1:=bc BK301.out 1;have hcz11_2:=bc BK301.out 2;have hfz11_0:=blk_frozen BK301.out 0;have hfz11_1:=blk_frozen BK301.out 1;have hfz11_2:=blk_frozen BK301.out 2)|((with_reducible refine gate_builtin (b := .append) (xs := #[.tmp 20,.tmp 22]) rfl ?_);at_builtin;refine Kd.R_append (Kd.int .i64) (w0:=w) w.heap.size rfl (.tmp 20) (.tmp 22) 27 3 (.int .i64 0) 8 rfl Try.underlying27 info3 rfl (by decide) (by omega) u5 x5_1 x11_1 [.int .i64 x11_1] (fun _=>True) (fun _=>False) rfl (by first|(go_simp;done)|(go_simp;rfl)) ?aP (fun _ hk=>hk.elim) ?aF ?aO ?aB ?aS ?aL ?_;(case aP=>exact rfl);(case aB=>exact bl);(case aF=>exact(fun _ _=>trivial));(case aO=>exact(rup (Kd.R_mono (Kd.R_far (p:=⟨gb301,2,none⟩) (Kd.R_far (p:=⟨gb301,1,none⟩) (Kd.R_far (p:=⟨gb301,0,none⟩) (Kd.R_types HO_5.out BK301.out (by decide)) (fun _ hk=>hk.2) (.int .i64 ((rd_T41 l0 x11_1).f0))) (fun _ hk=>hk.2) (.int .i64 ((rd_T41 l0 x11_1).f1))) (fun _ hk=>hk.2) (.int .i64 ((rd_T41 l0 x11_1).f2))) (fun _ hk=>trivial))));(case aS=>exact(below_size bl));(case aL=>have:=LMc9.out;omega);intro v303 w12 ho hb hg hat;rw[← Ny302.out] at ho;replace BK301:=am (blk_grown (g:=gb301) (o := .cells #[.int .i64 ((rd_T41 l0 x11_1).f0),.int .i64 ((rd_T41 l0 x11_1).f1),.int .i64 ((rd_T41 l0 x11_1).f2)] 41 (0,0)) (by(with_reducible repeat(first|refine bN_ ?_ _|refine bD_ ?_|refine bA_ ?_ _));refine blk_put (cs := #[.int .i64 ((rd_T41 l0 x11_1).f0),.int .i64 ((rd_T41 l0 x11_1).f1),.int .i64 0]) ?_ 2 _ rfl;(with_reducible repeat(first|refine bN_ ?_ _|refine bD_ ?_|refine bA_ ?_ _));refine blk_put (cs := #[.int .i64 ((rd_T41 l0 x11_1).f0),.int .i64 0,.int .i64 0]) ?_ 1 _ rfl;(with_reducible repeat(first|refine bN_ ?_ _|refine bD_ ?_|refine bA_ ?_ _));refine blk_put (cs := #[.int .i64 0,.int .i64 0,.int .i64 0]) ?_ 0 _ rfl;exact bup BK301.out) hg (Kd.R_ne HO_5.out BK301.out (by decide)));replace HB:=am (hb);have HO304:=am (ho);clear HO_5 ho hb hg hat))
     go_roundg k1
     case measure=>have:=HK1.out;omega
     case rel=>exact⟨(y302),(wrap64 (x11_1+1)),fin2,H',⟨by have:=HK1.out;omega⟩,⟨rup HO304.out⟩,⟨bl⟩⟩
    ·have c8b0:(((rd_T41 l0 x11_1).f0) == a1)=false:=beq_eq_false_iff_ne.mpr c8
     have c8b1:(((rd_T41 l0 x11_1).f0) != a1)=true:=bne_iff_ne.mpr c8
     have H':=am H
     clear H
     have p300:0≤(x11_1:Int):=od
     have q300:x11_1<(l0.length:Int):=od
     obtain⟨ad300,e300,hx300_0,hx300_1,hx300_2⟩:=at_T41 HR0.out x11_1 p300 q300
     cases e300
     replace hx300_0:=(HB.out.cell (World.block_lt_of_cell? w _ hx300_0)).trans hx300_0
     replace hx300_1:=(HB.out.cell (World.block_lt_of_cell? w _ hx300_1)).trans hx300_1
     replace hx300_2:=(HB.out.cell (World.block_lt_of_cell? w _ hx300_2)).trans hx300_2
     replace p300:=eq_true p300
     replace q300:=eq_true q300
     go_wp2_with (first|((with_reducible refine gate_dst (N:=7) rfl ?_);refine box_event ?hg (N:=7) ?hd (cs := #[.int .i64 0,.int .i64 0,.int .i64 0]) (t:=41) ?hr ?_;(case hd=>rfl);(case hg=>rfl);(case hr=>first|(go_simp;done)|(go_simp;rfl));intro gb301 hg w13 hbox hb;replace HO_5:=am (Kd.R_below (rup HO_5.out) hb);have BK301:=am (hbox);have GW301:=am (ge_ bl hg);have GE301:=am (ge_ bl hg);replace HB:=am (below_step bl hb);clear hb hbox hg;have hcz14_0:=bc BK301.out 0;have hcz14_1:=bc BK301.out 1;have hcz14_2:=bc BK301.out 2;have hfz14_0:=blk_frozen BK301.out 0;have hfz14_1:=blk_frozen BK301.out 1;have hfz14_2:=blk_frozen BK301.out 2))
     go_roundg k1
     case measure=>have:=HK1.out;omega
     case rel=>exact⟨(x5_1),(wrap64 (x11_1+1)),fin2,H',⟨by have:=HK1.out;omega⟩,⟨rup (Kd.R_mono (Kd.R_far (p:=⟨gb301,2,none⟩) (Kd.R_far (p:=⟨gb301,1,none⟩) (Kd.R_far (p:=⟨gb301,0,none⟩) (Kd.R_types HO_5.out BK301.out (by decide)) (fun _ hk=>hk.2) (.int .i64 ((rd_T41 l0 x11_1).f0))) (fun _ hk=>hk.2) (.int .i64 ((rd_T41 l0 x11_1).f1))) (fun _ hk=>hk.2) (.int .i64 ((rd_T41 l0 x11_1).f2))) (fun _ hk=>trivial))⟩,⟨bl⟩⟩
   ·have c5b0:=decide_eq_false c5
    clear c5
    obtain rfl:=Option.some.inj H
    go_wp2
    go_ret
    exact⟨_,fin1,by(with_reducible repeat(first|apply Kd.R_alloc|apply Kd.R_drewN|apply Kd.R_drew));exact HO_5.out,bl⟩

/-- What was given last, one more. -/
def impl_giveTeeth.upd (last:Int→Option Int) (t v:Int):Int→Option Int:=fun s=>if s=t then some v else last s
def impl_giveTeeth.Agree (D:DataW Unit) (last:Int→Option Int):Prop :=
 Maps.IsMap D∧∀ t,Maps.has D (.int .i64 t)=(last t).isSome∧∀ b,last t=some b→D.atKey (.int .i64 t) (.lit (.int .i64 0)) = .lit (.int .i64 b)
theorem impl_giveTeeth.agree_made:impl_giveTeeth.Agree (.map []) (fun _=>none):=⟨Maps.isMap_empty,fun t=>⟨rfl,fun b h=>by cases h⟩⟩
theorem impl_giveTeeth.agree_put {D:DataW Unit} {last:Int→Option Int} (h:impl_giveTeeth.Agree D last) (t v:Int):impl_giveTeeth.Agree (D.put (.int .i64 t) (.lit (.int .i64 v))) (impl_giveTeeth.upd last t v):=by
 refine⟨h.1.put _ _,fun s=>?_⟩
 by_cases e:s=t
 ·subst e
  refine⟨by rw[Maps.has_put_same h.1 (show WideAt.IsKeyLit (.int .i64 s) from trivial)];simp [impl_giveTeeth.upd],fun b hb=>?_⟩
  rw[Maps.atKey_put_same h.1 (show WideAt.IsKeyLit (.int .i64 s) from trivial)]
  simp [impl_giveTeeth.upd] at hb
  rw[hb]
 ·have hne:(Lit.int .i64 s)≠(Lit.int .i64 t):=fun h=>e (by injection h)
  refine⟨by rw[Maps.has_put_other hne,(h.2 s).1];simp [impl_giveTeeth.upd,e],fun b hb=>?_⟩
  rw[Maps.atKey_put_other hne]
  exact(h.2 s).2 b (by simpa [impl_giveTeeth.upd,e] using hb)
theorem impl_giveTeeth.map_below {w w':World} {k e:TypeId} {b n:Nat} {D:DataW Unit} (h:w.ownsMap Try.prog k (plainElem Try.prog e) b n D) (hb:Below w.heap.size w w'):w'.ownsMap Try.prog k (plainElem Try.prog e) b n D:=by
 have hlt:=h.lt
 obtain⟨es,clock,hh,F,hs,hD⟩:=h
 exact⟨es,clock,(hb.block b hlt).trans hh,F,hs,hD⟩
mutual
def impl_giveTeeth.l0:Nat→List (S41)→Int→List Int→(Int→Option Int)→List (S45)→Int→Int→Option (List Int×Bool)
 | 0,_,_,_,_,_,_,_=>none
 | k+1,x0,x2,x8,x9,x19,x20,x21=>if x21<x20 then(if 0≤x21 then(if x21<(x19.length:Int) then((impl_teethOf.f k x0 ((rd_T45 x19 x21).f0)).bind fun t28=>(impl_giveTeeth.l1 k x0 x2 x8 x9 x19 x20 x21 ((rd_T45 x19 x21).f1) (-1) t28 (t28.length:Int) 0)) else(none)) else(none)) else(some (x8,true))
def impl_giveTeeth.l1:Nat→List (S41)→Int→List Int→(Int→Option Int)→List (S45)→Int→Int→Int→Int→List Int→Int→Int→Option (List Int×Bool)
 | 0,_,_,_,_,_,_,_,_,_,_,_,_=>none
 | k+1,x0,x2,x8,x9,x19,x20,x21,x11,x12,x28,x29,x30=>if x30<x29 then(if 0≤x30 then(if x30<(x28.length:Int) then(if(Lit.int .i64 (rd x28 x30)).wf=true then(if x12<0 then(if(x9 (rd x28 x30)).isSome=true then(if x2≤(wrap64 (x11 - (x9 (rd x28 x30)).getD 0)) then(impl_giveTeeth.l1 k x0 x2 x8 x9 x19 x20 x21 x11 (rd x28 x30) x28 x29 (wrap64 (x30+1))) else(impl_giveTeeth.l1 k x0 x2 x8 x9 x19 x20 x21 x11 x12 x28 x29 (wrap64 (x30+1)))) else(impl_giveTeeth.l1 k x0 x2 x8 x9 x19 x20 x21 x11 (rd x28 x30) x28 x29 (wrap64 (x30+1)))) else(impl_giveTeeth.l1 k x0 x2 x8 x9 x19 x20 x21 x11 x12 x28 x29 (wrap64 (x30+1)))) else(none)) else(none)) else(none)) else(if x12<0 then(some (([]:List Int),false)) else(if(Lit.int .i64 x12).wf=true then(if(Lit.int .i64 x11).wf=true then(if x8.length<17592186044416 then(impl_giveTeeth.l0 k x0 x2 (x8 ++ [x12]) (impl_giveTeeth.upd x9 x12 x11) x19 x20 (wrap64 (x21+1))) else(none)) else(none)) else(none)))
end
def impl_giveTeeth.f (k:Nat) (l0:List (S41)) (l1:List (S45)) (a2:Int):Option (List Int×Bool):=impl_giveTeeth.l0 k l0 a2 ([]:List Int) (fun _=>none) l1 (l1.length:Int) 0
theorem impl_giveTeeth.law3:Maps.Keyed Try.prog 3:=Maps.int_keyed Try.underlying3
theorem impl_giveTeeth.zero3 (w:World):(zeroValue 3).run Try.prog w = .ok (.int .i64 0) w:=by kernel_rfl
set_option maxHeartbeats 8000000 in
set_option maxRecDepth 100000 in
theorem impl_giveTeeth.calls (k:Nat) (A0:Option Addr) (c0:Nat) (l0:List (S41)) (A1:Option Addr) (c1:Nat) (l1:List (S45)) (a2:Int) (r1:List Int) (r2:Bool) (w:World) (hr0:Kd.C k41 w A0 l0.length l0) (hc0:l0.length≤c0) (hr1:Kd.C k45 w A1 l1.length l1) (hc1:l1.length≤c1) (h:impl_giveTeeth.f k l0 l1 a2=some (r1,r2)) :
  Calls Try.prog 25 #[.slice A0 l0.length c0,.slice A1 l1.length c1,.int .i64 a2] w fun e w'=>∃ v0_:Value,e = .returned (.tuple #[v0_,.bool r2])∧Kd.R (Kd.int .i64) 3 w' w.heap.size (fun _=>True) v0_ r1∧Below w.heap.size w w':=by
 have hu45:=Try.underlying45
 have hmm:=@run_makeMap Try.prog
 have HR0:=am hr0
 have HC0:=am hc0
 clear hr0 hc0
 have HR1:=am hr1
 have HC1:=am hc1
 clear hr1 hc1
 have HB:=am (Below.refl w.heap.size w)
 have H':=am (show impl_giveTeeth.l0 k l0 a2 ([]:List Int) (fun _=>none) l1 (l1.length:Int) 0=some (r1,r2) from h)
 clear h
 go_enter Try.func25,Try.ntmps25
 go_wp2_with (first|((with_reducible refine gate_dst (N:=17) rfl ?_);refine Kd.R_lit (Kd.int .i64) _ 3 ?hg (N:=17) ?hd (xs:=([]:List Int)) (inner:=[]) (ok:=fun _=>True) (okp:=fun _=>True) ?hr ?hp (fun _ hk=>hk) trivial (Below.refl _ _) (Nat.le_refl _) (by simp) ?_;(case hd=>rfl);(case hg=>rfl);(case hr=>first|(go_simp;done)|(go_simp;rfl));(case hp=>exact(Reps.none _ _));intro v155 w3 ho4 hb hg_ hnew_;clear hg_ hnew_;have HO8:=am (Kd.R_mono (ok':=fun k_=>k_≠w3.heap.size) (Kd.R_bound (Kd.R_lower ho4 (below_size HB.out))) (fun k_ hk_=>Nat.ne_of_lt hk_.2.2.1));replace HB:=am (below_step HB.out hb);clear hb ho4))
 have BGE:=am (show w.heap.size≤w3.heap.size from(below_size HB.out))
 go_loopg [8,21] k (fun kq v8 v21 w'=>∃(x8:List Int) (x9:Int→Option Int) (x21:Int) (D:DataW Unit),v21 = .int .i64 x21∧Aside0 (impl_giveTeeth.l0 kq l0 a2 x8 x9 l1 (l1.length:Int) x21=some (r1,r2))∧Aside0 (kq≤k)∧Aside0 (Kd.R (Kd.int .i64) 3 w' w.heap.size (fun k_=>k_≠w3.heap.size) v8 x8)∧Aside0 (w'.ownsMap Try.prog 3 (plainElem Try.prog 3) w3.heap.size x8.length D)∧Aside0 (impl_giveTeeth.Agree D x9)∧Aside0 (Below w.heap.size w w'))
 case atStart=>exact⟨[],(fun _=>none),0,.map [],fin2,H',⟨Nat.le_refl _⟩,⟨rup HO8.out⟩,⟨World.ownsMap_made _ _ _ _⟩,⟨impl_giveTeeth.agree_made⟩,⟨bl⟩⟩
 case round =>
  clear H' HO8
  obtain⟨x8,x9,x21,D,rfl,HA,HK1,HO8,HM,HG,HB⟩:=hrel
  cases gk with
  | zero=>exact absurd HA.out (by simp [impl_giveTeeth.l0])
  | succ k1 =>
   have H:=HA.out
   clear HA
   simp only[impl_giveTeeth.l0] at H
   rcases itc H with⟨c9,H⟩|⟨c9,H⟩
   ·have c9b0:=decide_eq_true c9
    by_cases c10:0≤x21
    ·rw[if_pos c10,if_pos c9] at H
     clear c9
     have c10b0:=decide_eq_true c10
     clear c10
     obtain⟨t28,A180,H⟩:=Option.bind_eq_some_iff.mp H
     have A18:=am A180
     clear A180
     have H':=am H
     clear H
     have p159:0≤(x21:Int):=od
     have q159:x21<(l1.length:Int):=od
     obtain⟨ad159,e159,hx159_0,hx159_1⟩:=at_T45 HR1.out x21 p159 q159
     cases e159
     replace hx159_0:=(HB.out.cell (World.block_lt_of_cell? w _ hx159_0)).trans hx159_0
     replace hx159_1:=(HB.out.cell (World.block_lt_of_cell? w _ hx159_1)).trans hx159_1
     replace p159:=eq_true p159
     replace q159:=eq_true q159
     go_wp2_with (first|((with_reducible refine gate_dst (N:=11) rfl ?_);refine box_event ?hg (N:=11) ?hd (cs := #[.int .i64 0,.int .i64 0]) (t:=45) ?hr ?_;(case hd=>rfl);(case hg=>rfl);(case hr=>first|(go_simp;done)|(go_simp;rfl));intro gbx hg w19 hbox hb;have n0_:=am (Kd.R_below (rup HO8.out) hb);have n6_:=am (show w3.heap.size≠gbx from(by rw[hg];exact Nat.ne_of_lt HM.out.lt));have n7_:=am (impl_giveTeeth.map_below (by exact HM.out) hb);have n2_:=am (below_step bl hb);have n3_:=am (hbox);have n5_:=am ((by rw[hg];exact below_size bl):w.heap.size≤gbx);clear HO8 HM HB;have HO8:=n0_;have HM:=n7_;have NEX:=n6_;have HB:=n2_;have BKX:=n3_;have GEX:=n5_;clear n0_ n2_ n3_ n5_ n6_ n7_ hb hbox hg;have hcz20_0:=bc BKX.out 0;have hcz20_1:=bc BKX.out 1;have hfz20_0:=blk_frozen BKX.out 0;have hfz20_1:=blk_frozen BKX.out 1)|(go_at_call 36;(with_reducible refine(impl_teethOf.calls k1 _ _ l0 ((rd_T45 l1 x21).f0) t28 _ ?side1 ?side2 A18.out).mono ?_);(case side1=>exact Kd.C_below HR0.out (by repeat(first|(with_reducible first|exact HB.out|apply below_alloc|apply pw_below_drewN|apply below_drew1|refine below_set ?_ GEX.out)|exact HB.out)));(case side2=>exact HC0.out);rintro e w21 ⟨v162,rfl,ho0,hb⟩;replace HO8:=am (Kd.R_below (by(with_reducible repeat(first|apply Kd.R_alloc|apply Kd.R_drewN|apply Kd.R_drew));exact(Kd.R_mono (Kd.R_far (p:=⟨gbx,1,none⟩) (Kd.R_far (p:=⟨gbx,0,none⟩) (Kd.R_types HO8.out BKX.out (by decide)) (fun _ hk=>hk.2) (.int .i64 ((rd_T45 l1 x21).f0))) (fun _ hk=>hk.2) (.int .i64 ((rd_T45 l1 x21).f1))) (fun _ h_=>h_.1))) hb);replace HM:=am (impl_giveTeeth.map_below (by exact(HM.out.setCell NEX.out _).setCell NEX.out _) hb);have HOT:=am (Kd.R_lower ho0 (below_size (by repeat(first|(with_reducible first|exact HB.out|apply below_alloc|apply pw_below_drewN|apply below_drew1|refine below_set ?_ GEX.out)|exact HB.out))));replace BKX:=am (blk_below (g:=gbx) (o := .cells #[.int .i64 ((rd_T45 l1 x21).f0),.int .i64 ((rd_T45 l1 x21).f1)] 45 (0,0)) (by(with_reducible repeat(first|refine bN_ ?_ _|refine bD_ ?_|refine bA_ ?_ _));refine blk_put (cs := #[.int .i64 ((rd_T45 l1 x21).f0),.int .i64 0]) ?_ 1 _ rfl;(with_reducible repeat(first|refine bN_ ?_ _|refine bD_ ?_|refine bA_ ?_ _));refine blk_put (cs := #[.int .i64 0,.int .i64 0]) ?_ 0 _ rfl;exact bup BKX.out) hb);replace HB:=am (below_step (by repeat(first|(with_reducible first|exact HB.out|apply below_alloc|apply pw_below_drewN|apply below_drew1|refine below_set ?_ GEX.out)|exact HB.out)) hb);(try clear hb);(try clear ho0);obtain⟨Ao22,co22,eo22⟩:=Kd.R_slice HOT.out;subst eo22))
     repeat(go_quiet (first|((with_reducible refine gate_dst (N:=11) rfl ?_);refine box_event ?hg (N:=11) ?hd (cs := #[.int .i64 0,.int .i64 0]) (t:=45) ?hr ?_;(case hd=>rfl);(case hg=>rfl);(case hr=>first|(go_simp;done)|(go_simp;rfl));intro gbx hg w19 hbox hb;have n0_:=am (Kd.R_below (rup HO8.out) hb);have n6_:=am (show w3.heap.size≠gbx from(by rw[hg];exact Nat.ne_of_lt HM.out.lt));have n7_:=am (impl_giveTeeth.map_below (by exact HM.out) hb);have n2_:=am (below_step bl hb);have n3_:=am (hbox);have n5_:=am ((by rw[hg];exact below_size bl):w.heap.size≤gbx);clear HO8 HM HB;have HO8:=n0_;have HM:=n7_;have NEX:=n6_;have HB:=n2_;have BKX:=n3_;have GEX:=n5_;clear n0_ n2_ n3_ n5_ n6_ n7_ hb hbox hg;have hcz20_0:=bc BKX.out 0;have hcz20_1:=bc BKX.out 1;have hfz20_0:=blk_frozen BKX.out 0;have hfz20_1:=blk_frozen BKX.out 1)|(go_at_call 36;(with_reducible refine(impl_teethOf.calls k1 _ _ l0 ((rd_T45 l1 x21).f0) t28 _ ?side1 ?side2 A18.out).mono ?_);(case side1=>exact Kd.C_below HR0.out (by repeat(first|(with_reducible first|exact HB.out|apply below_alloc|apply pw_below_drewN|apply below_drew1|refine below_set ?_ GEX.out)|exact HB.out)));(case side2=>exact HC0.out);rintro e w21 ⟨v162,rfl,ho0,hb⟩;replace HO8:=am (Kd.R_below (by(with_reducible repeat(first|apply Kd.R_alloc|apply Kd.R_drewN|apply Kd.R_drew));exact(Kd.R_mono (Kd.R_far (p:=⟨gbx,1,none⟩) (Kd.R_far (p:=⟨gbx,0,none⟩) (Kd.R_types HO8.out BKX.out (by decide)) (fun _ hk=>hk.2) (.int .i64 ((rd_T45 l1 x21).f0))) (fun _ hk=>hk.2) (.int .i64 ((rd_T45 l1 x21).f1))) (fun _ h_=>h_.1))) hb);replace HM:=am (impl_giveTeeth.map_below (by exact(HM.out.setCell NEX.out _).setCell NEX.out _) hb);have HOT:=am (Kd.R_lower ho0 (below_size (by repeat(first|(with_reducible first|exact HB.out|apply below_alloc|apply pw_below_drewN|apply below_drew1|refine below_set ?_ GEX.out)|exact HB.out))));replace BKX:=am (blk_below (g:=gbx) (o := .cells #[.int .i64 ((rd_T45 l1 x21).f0),.int .i64 ((rd_T45 l1 x21).f1)] 45 (0,0)) (by(with_reducible repeat(first|refine bN_ ?_ _|refine bD_ ?_|refine bA_ ?_ _));refine blk_put (cs := #[.int .i64 ((rd_T45 l1 x21).f0),.int .i64 0]) ?_ 1 _ rfl;(with_reducible repeat(first|refine bN_ ?_ _|refine bD_ ?_|refine bA_ ?_ _));refine blk_put (cs := #[.int .i64 0,.int .i64 0]) ?_ 0 _ rfl;exact bup BKX.out) hb);replace HB:=am (below_step (by repeat(first|(with_reducible first|exact HB.out|apply below_alloc|apply pw_below_drewN|apply below_drew1|refine below_set ?_ GEX.out)|exact HB.out)) hb);(try clear hb);(try clear ho0);obtain⟨Ao22,co22,eo22⟩:=Kd.R_slice HOT.out;subst eo22));try go_wp2)
     go_loopg [12,30] k1 (fun kq v12 v30 w'=>∃(x12:Int) (x30:Int),v12 = .int .i64 x12∧v30 = .int .i64 x30∧Aside0 (impl_giveTeeth.l1 kq l0 a2 x8 x9 l1 (l1.length:Int) x21 ((rd_T45 l1 x21).f1) x12 t28 (t28.length:Int) x30=some (r1,r2))∧Aside0 (kq≤k1)∧Aside0 (Kd.R (Kd.int .i64) 3 w' w.heap.size (fun k_=>k_≠w3.heap.size) u8 x8)∧Aside0 (w'.ownsMap Try.prog 3 (plainElem Try.prog 3) w3.heap.size x8.length D)∧Aside0 (Kd.R (Kd.int .i64) 3 w' w.heap.size (fun _=>True) (.slice Ao22 t28.length co22) t28)∧Aside0 (w'.heap[gbx]?=some (.cells #[.int .i64 ((rd_T45 l1 x21).f0),.int .i64 ((rd_T45 l1 x21).f1)] 45 (0,0)))∧Aside0 (Below w.heap.size w w'))
     case atStart=>exact⟨(-1),0,fin2,fin2,H',⟨Nat.le_refl _⟩,⟨rup HO8.out⟩,⟨HM.out⟩,⟨by(with_reducible repeat(first|apply Kd.R_alloc|apply Kd.R_drewN|apply Kd.R_drew));exact HOT.out⟩,⟨by exact bup BKX.out⟩,⟨bl⟩⟩
     case round =>
      clear H'
      obtain⟨x12,x30,rfl,rfl,HA,HK2,HO8,HM,HOT,BKX,HB⟩:=hrel
      cases gk with
      | zero=>exact absurd HA.out (by simp [impl_giveTeeth.l1])
      | succ k2 =>
       have H:=HA.out
       clear HA
       simp only[impl_giveTeeth.l1] at H
       rcases itc H with⟨c23,H⟩|⟨c23,H⟩
       ·have c23b0:=decide_eq_true c23
        by_cases c24:0≤x30
        ·rw[if_pos c24,if_pos c23] at H
         clear c23
         have c24b0:=decide_eq_true c24
         clear c24
         obtain⟨cw,H⟩:=ifp H
         have CW:=am cw
         clear cw
         have HS0:=(HG.out.2 (rd t28 x30))
         rcases itc H with⟨c26,H⟩|⟨c26,H⟩
         ·have c26b0:=decide_eq_true c26
          clear c26
          cases hl:x9 (rd t28 x30) with
          | none =>
           rw[hl] at H
           rw[if_neg (by simp)] at H
           have HS:=am (show Maps.has D (.int .i64 (rd t28 x30))=false by rw[HS0.1,hl];rfl)
           clear HS0 hl
           have H':=am H
           clear H
           have p164:0≤(x30:Int):=od
           have q164:x30<(t28.length:Int):=od
           obtain⟨ad164,e164,hx164_0⟩:=Kd.at_int (Kd.R_reads' HOT.out).2.2 x30 p164 q164
           cases e164
           replace p164:=eq_true p164
           replace q164:=eq_true q164
           have hcz30_0:=bc BKX.out 0
           have hcz30_1:=bc BKX.out 1
           have hfz30_0:=blk_frozen BKX.out 0
           have hfz30_1:=blk_frozen BKX.out 1
           go_wp2_with (first|(at_lookup;refine wpList_lookup_own_ok_int _ rfl _ _ 65 rfl 3 3 .i64 impl_giveTeeth.law3 Try.underlying65 Try.underlying3 (impl_giveTeeth.zero3 _) w3.heap.size x8.length D rfl (by exact HM.out) _ _ rfl (Maps.keyOf_int_mk Try.underlying3 CW.out) ?_;intro c_ hat_ hwc_;rw[HS.out]))
           repeat(go_quiet (first|(at_lookup;refine wpList_lookup_own_ok_int _ rfl _ _ 65 rfl 3 3 .i64 impl_giveTeeth.law3 Try.underlying65 Try.underlying3 (impl_giveTeeth.zero3 _) w3.heap.size x8.length D rfl (by exact HM.out) _ _ rfl (Maps.keyOf_int_mk Try.underlying3 CW.out) ?_;intro c_ hat_ hwc_;rw[HS.out]));try go_wp2)
           go_roundg k2
           case measure=>have:=HK1.out;have:=HK2.out;omega
           case rel=>exact⟨(rd t28 x30),(wrap64 (x30+1)),fin2,fin2,H',⟨by have:=HK1.out;have:=HK2.out;omega⟩,⟨rup HO8.out⟩,⟨HM.out⟩,⟨by(with_reducible repeat(first|apply Kd.R_alloc|apply Kd.R_drewN|apply Kd.R_drew));exact HOT.out⟩,⟨by exact bup BKX.out⟩,⟨bl⟩⟩
          | some b_ =>
           rw[hl] at H
           rw[if_pos (by simp),Option.getD_some] at H
           have HS:=am (show Maps.has D (.int .i64 (rd t28 x30))=true by rw[HS0.1,hl];rfl)
           have HV:=am (HS0.2 b_ hl)
           clear HS0 hl
           rcases itc H with⟨c29,H⟩|⟨c29,H⟩
           ·have c29b0:=decide_eq_true c29
            clear c29
            have H':=am H
            clear H
            have p164:0≤(x30:Int):=od
            have q164:x30<(t28.length:Int):=od
            obtain⟨ad164,e164,hx164_0⟩:=Kd.at_int (Kd.R_reads' HOT.out).2.2 x30 p164 q164
            cases e164
            replace p164:=eq_true p164
            replace q164:=eq_true q164
            have hcz30_0:=bc BKX.out 0
            have hcz30_1:=bc BKX.out 1
            have hfz30_0:=blk_frozen BKX.out 0
            have hfz30_1:=blk_frozen BKX.out 1
            go_wp2_with (first|(at_lookup;refine wpList_lookup_own_ok_int _ rfl _ _ 65 rfl 3 3 .i64 impl_giveTeeth.law3 Try.underlying65 Try.underlying3 (impl_giveTeeth.zero3 _) w3.heap.size x8.length D rfl (by exact HM.out) _ _ rfl (Maps.keyOf_int_mk Try.underlying3 CW.out) ?_;intro c_ hat_ hwc_;rw[HS.out];obtain rfl:b_=c_:=(by have e_:=HV.out.symm.trans hat_;injection e_ with e_;injection e_)))
            repeat(go_quiet (first|(at_lookup;refine wpList_lookup_own_ok_int _ rfl _ _ 65 rfl 3 3 .i64 impl_giveTeeth.law3 Try.underlying65 Try.underlying3 (impl_giveTeeth.zero3 _) w3.heap.size x8.length D rfl (by exact HM.out) _ _ rfl (Maps.keyOf_int_mk Try.underlying3 CW.out) ?_;intro c_ hat_ hwc_;rw[HS.out];obtain rfl:b_=c_:=(by have e_:=HV.out.symm.trans hat_;injection e_ with e_;injection e_)));try go_wp2)
            go_roundg k2
            case measure=>have:=HK1.out;have:=HK2.out;omega
            case rel=>exact⟨(rd t28 x30),(wrap64 (x30+1)),fin2,fin2,H',⟨by have:=HK1.out;have:=HK2.out;omega⟩,⟨rup HO8.out⟩,⟨HM.out⟩,⟨by(with_reducible repeat(first|apply Kd.R_alloc|apply Kd.R_drewN|apply Kd.R_drew));exact HOT.out⟩,⟨by exact bup BKX.out⟩,⟨bl⟩⟩
           ·have c29b0:=decide_eq_false c29
            clear c29
            have H':=am H
            clear H
            have p164:0≤(x30:Int):=od
            have q164:x30<(t28.length:Int):=od
            obtain⟨ad164,e164,hx164_0⟩:=Kd.at_int (Kd.R_reads' HOT.out).2.2 x30 p164 q164
            cases e164
            replace p164:=eq_true p164
            replace q164:=eq_true q164
            have hcz30_0:=bc BKX.out 0
            have hcz30_1:=bc BKX.out 1
            have hfz30_0:=blk_frozen BKX.out 0
            have hfz30_1:=blk_frozen BKX.out 1
            go_wp2_with (first|(at_lookup;refine wpList_lookup_own_ok_int _ rfl _ _ 65 rfl 3 3 .i64 impl_giveTeeth.law3 Try.underlying65 Try.underlying3 (impl_giveTeeth.zero3 _) w3.heap.size x8.length D rfl (by exact HM.out) _ _ rfl (Maps.keyOf_int_mk Try.underlying3 CW.out) ?_;intro c_ hat_ hwc_;rw[HS.out];obtain rfl:b_=c_:=(by have e_:=HV.out.symm.trans hat_;injection e_ with e_;injection e_)))
            repeat(go_quiet (first|(at_lookup;refine wpList_lookup_own_ok_int _ rfl _ _ 65 rfl 3 3 .i64 impl_giveTeeth.law3 Try.underlying65 Try.underlying3 (impl_giveTeeth.zero3 _) w3.heap.size x8.length D rfl (by exact HM.out) _ _ rfl (Maps.keyOf_int_mk Try.underlying3 CW.out) ?_;intro c_ hat_ hwc_;rw[HS.out];obtain rfl:b_=c_:=(by have e_:=HV.out.symm.trans hat_;injection e_ with e_;injection e_)));try go_wp2)
            go_roundg k2
            case measure=>have:=HK1.out;have:=HK2.out;omega
            case rel=>exact⟨x12,(wrap64 (x30+1)),fin2,fin2,H',⟨by have:=HK1.out;have:=HK2.out;omega⟩,⟨rup HO8.out⟩,⟨HM.out⟩,⟨by(with_reducible repeat(first|apply Kd.R_alloc|apply Kd.R_drewN|apply Kd.R_drew));exact HOT.out⟩,⟨by exact bup BKX.out⟩,⟨bl⟩⟩
         ·have c26b0:=decide_eq_false c26
          clear c26
          cases hl:Maps.has D (.int .i64 (rd t28 x30)) with
          | true =>
           have HS:=am hl
           clear HS0 hl
           have H':=am H
           clear H
           have p164:0≤(x30:Int):=od
           have q164:x30<(t28.length:Int):=od
           obtain⟨ad164,e164,hx164_0⟩:=Kd.at_int (Kd.R_reads' HOT.out).2.2 x30 p164 q164
           cases e164
           replace p164:=eq_true p164
           replace q164:=eq_true q164
           have hcz30_0:=bc BKX.out 0
           have hcz30_1:=bc BKX.out 1
           have hfz30_0:=blk_frozen BKX.out 0
           have hfz30_1:=blk_frozen BKX.out 1
           go_wp2_with (first|(at_lookup;refine wpList_lookup_own_ok_int _ rfl _ _ 65 rfl 3 3 .i64 impl_giveTeeth.law3 Try.underlying65 Try.underlying3 (impl_giveTeeth.zero3 _) w3.heap.size x8.length D rfl (by exact HM.out) _ _ rfl (Maps.keyOf_int_mk Try.underlying3 CW.out) ?_;intro c_ hat_ hwc_;rw[HS.out]))
           repeat(go_quiet (first|(at_lookup;refine wpList_lookup_own_ok_int _ rfl _ _ 65 rfl 3 3 .i64 impl_giveTeeth.law3 Try.underlying65 Try.underlying3 (impl_giveTeeth.zero3 _) w3.heap.size x8.length D rfl (by exact HM.out) _ _ rfl (Maps.keyOf_int_mk Try.underlying3 CW.out) ?_;intro c_ hat_ hwc_;rw[HS.out]));try go_wp2)
           go_roundg k2
           case measure=>have:=HK1.out;have:=HK2.out;omega
           case rel=>exact⟨x12,(wrap64 (x30+1)),fin2,fin2,H',⟨by have:=HK1.out;have:=HK2.out;omega⟩,⟨rup HO8.out⟩,⟨HM.out⟩,⟨by(with_reducible repeat(first|apply Kd.R_alloc|apply Kd.R_drewN|apply Kd.R_drew));exact HOT.out⟩,⟨by exact bup BKX.out⟩,⟨bl⟩⟩
          | false =>
           have HS:=am hl
           clear HS0 hl
           have H':=am H
           clear H
           have p164:0≤(x30:Int):=od
           have q164:x30<(t28.length:Int):=od
           obtain⟨ad164,e164,hx164_0⟩:=Kd.at_int (Kd.R_reads' HOT.out).2.2 x30 p164 q164
           cases e164
           replace p164:=eq_true p164
           replace q164:=eq_true q164
           have hcz30_0:=bc BKX.out 0
           have hcz30_1:=bc BKX.out 1
           have hfz30_0:=blk_frozen BKX.out 0
           have hfz30_1:=blk_frozen BKX.out 1
           go_wp2_with (first|(at_lookup;refine wpList_lookup_own_ok_int _ rfl _ _ 65 rfl 3 3 .i64 impl_giveTeeth.law3 Try.underlying65 Try.underlying3 (impl_giveTeeth.zero3 _) w3.heap.size x8.length D rfl (by exact HM.out) _ _ rfl (Maps.keyOf_int_mk Try.underlying3 CW.out) ?_;intro c_ hat_ hwc_;rw[HS.out]))
           repeat(go_quiet (first|(at_lookup;refine wpList_lookup_own_ok_int _ rfl _ _ 65 rfl 3 3 .i64 impl_giveTeeth.law3 Try.underlying65 Try.underlying3 (impl_giveTeeth.zero3 _) w3.heap.size x8.length D rfl (by exact HM.out) _ _ rfl (Maps.keyOf_int_mk Try.underlying3 CW.out) ?_;intro c_ hat_ hwc_;rw[HS.out]));try go_wp2)
           go_roundg k2
           case measure=>have:=HK1.out;have:=HK2.out;omega
           case rel=>exact⟨x12,(wrap64 (x30+1)),fin2,fin2,H',⟨by have:=HK1.out;have:=HK2.out;omega⟩,⟨rup HO8.out⟩,⟨HM.out⟩,⟨by(with_reducible repeat(first|apply Kd.R_alloc|apply Kd.R_drewN|apply Kd.R_drew));exact HOT.out⟩,⟨by exact bup BKX.out⟩,⟨bl⟩⟩
        ·rw[if_neg c24] at H
         exact absurd H (by simp)
       ·have c23b0:=decide_eq_false c23
        clear c23
        rcases itc H with⟨c31,H⟩|⟨c31,H⟩
        ·have c31b0:=decide_eq_true c31
         clear c31
         simp only[Option.some.injEq,Prod.mk.injEq] at H
         obtain⟨rfl,rfl⟩:=H
         go_wp2
         repeat(go_quiet (fail);try go_wp2)
         go_ret2
         exact⟨_,rfl,Kd.R_nil _ _ _ _ _,bl⟩
        ·have c31b0:=decide_eq_false c31
         clear c31
         by_cases cw:(Lit.int .i64 x12).wf=true
         ·by_cases cv:(Lit.int .i64 ((rd_T45 l1 x21).f1)).wf=true
          ·by_cases c32:x8.length<17592186044416
           ·rw[if_pos cw,if_pos cv,if_pos c32] at H
            have CW:=am cw
            have CV:=am cv
            have CL:=am c32
            clear cw cv c32
            have H':=am H
            clear H
            have hcz30_0:=bc BKX.out 0
            have hcz30_1:=bc BKX.out 1
            have hfz30_0:=blk_frozen BKX.out 0
            have hfz30_1:=blk_frozen BKX.out 1
            go_wp2_with (first|(at_mapUpdate;refine wpList_mapUpdate_own _ rfl _ _ _ 65 rfl 3 3 impl_giveTeeth.law3 Try.underlying65 _ w3.heap.size x8.length D rfl (by exact HM.out) (by have:=CL.out;unfold maxLen;omega) _ _ _ rfl rfl (Maps.keyOf_int_mk Try.underlying3 CW.out) _ [] (plainElem_int Try.underlying3 CV.out) ?_;intro w31 hown1 hgrow1;have n0_:=am hown1;have n1_:=am (Kd.R_grown (ok:=fun k_=>k_≠w3.heap.size) (rup HO8.out) hgrow1 (fun k_ hk_ e_=>hk_ (by injection e_)));have n2_:=am ((show Below w.heap.size w _ from bl).grown hgrow1 (below_size HB.out) (fun j hj=>by cases hj;exact BGE.out));clear HM HO8 HB hown1 hgrow1;have HM:=n0_;have HO8:=n1_;have HB:=n2_;clear n0_ n1_ n2_)|((with_reducible refine gate_builtin (b := .append) (xs := #[.tmp 62,.tmp 64]) rfl ?_);at_builtin;refine Kd.R_append (Kd.int .i64) (w0:=w) w.heap.size rfl (.tmp 62) (.tmp 64) 27 3 (.int .i64 0) 8 rfl Try.underlying27 info3 rfl (by decide) (by omega) u8 x8 x12 [.int .i64 x12] (fun k_=>k_≠w3.heap.size) (fun _=>False) rfl (by first|(go_simp;done)|(go_simp;rfl)) ?aP (fun _ hk=>hk.elim) ?aF ?aO ?aB ?aS ?aL ?_;(case aP=>exact rfl);(case aB=>exact bl);(case aF=>exact(fun k_ hk_ e_=>by subst e_;exact absurd hk_ (Nat.not_le_of_lt (World.ownsMap.lt (by first|exact HM.out|exact HM.out.alloc _)))));(case aO=>exact(rup HO8.out));(case aS=>exact(below_size bl));(case aL=>have:=CL.out;omega);intro v160 w12 ho hb hg hat;replace HM:=am (World.ownsMap.kept (by first|exact HM.out|exact HM.out.alloc _) hg (fun e_=>HO8.out.1 _ e_.symm rfl));replace HB:=am (hb);replace HO8:=am (ho);clear ho hb hg hat))
            repeat(go_quiet (first|(at_mapUpdate;refine wpList_mapUpdate_own _ rfl _ _ _ 65 rfl 3 3 impl_giveTeeth.law3 Try.underlying65 _ w3.heap.size x8.length D rfl (by exact HM.out) (by have:=CL.out;unfold maxLen;omega) _ _ _ rfl rfl (Maps.keyOf_int_mk Try.underlying3 CW.out) _ [] (plainElem_int Try.underlying3 CV.out) ?_;intro w31 hown1 hgrow1;have n0_:=am hown1;have n1_:=am (Kd.R_grown (ok:=fun k_=>k_≠w3.heap.size) (rup HO8.out) hgrow1 (fun k_ hk_ e_=>hk_ (by injection e_)));have n2_:=am ((show Below w.heap.size w _ from bl).grown hgrow1 (below_size HB.out) (fun j hj=>by cases hj;exact BGE.out));clear HM HO8 HB hown1 hgrow1;have HM:=n0_;have HO8:=n1_;have HB:=n2_;clear n0_ n1_ n2_)|((with_reducible refine gate_builtin (b := .append) (xs := #[.tmp 62,.tmp 64]) rfl ?_);at_builtin;refine Kd.R_append (Kd.int .i64) (w0:=w) w.heap.size rfl (.tmp 62) (.tmp 64) 27 3 (.int .i64 0) 8 rfl Try.underlying27 info3 rfl (by decide) (by omega) u8 x8 x12 [.int .i64 x12] (fun k_=>k_≠w3.heap.size) (fun _=>False) rfl (by first|(go_simp;done)|(go_simp;rfl)) ?aP (fun _ hk=>hk.elim) ?aF ?aO ?aB ?aS ?aL ?_;(case aP=>exact rfl);(case aB=>exact bl);(case aF=>exact(fun k_ hk_ e_=>by subst e_;exact absurd hk_ (Nat.not_le_of_lt (World.ownsMap.lt (by first|exact HM.out|exact HM.out.alloc _)))));(case aO=>exact(rup HO8.out));(case aS=>exact(below_size bl));(case aL=>have:=CL.out;omega);intro v160 w12 ho hb hg hat;replace HM:=am (World.ownsMap.kept (by first|exact HM.out|exact HM.out.alloc _) hg (fun e_=>HO8.out.1 _ e_.symm rfl));replace HB:=am (hb);replace HO8:=am (ho);clear ho hb hg hat));try go_wp2)
            go_roundg k2
            case measure=>have:=HK1.out;have:=HK2.out;omega
            case rel=>exact⟨x8 ++ [x12],impl_giveTeeth.upd x9 x12 ((rd_T45 l1 x21).f1),(wrap64 (x21+1)),_,fin2,H',⟨by have:=HK1.out;have:=HK2.out;omega⟩,⟨rup HO8.out⟩,⟨by rw[List.length_append];exact HM.out⟩,⟨impl_giveTeeth.agree_put HG.out _ _⟩,⟨bl⟩⟩
           ·rw[if_pos cw,if_pos cv,if_neg c32] at H
            exact absurd H (by simp)
          ·rw[if_pos cw,if_neg cv] at H
           exact absurd H (by simp)
         ·rw[if_neg cw] at H
          exact absurd H (by simp)
    ·rw[if_neg c10] at H
     exact absurd H (by simp)
   ·have c9b0:=decide_eq_false c9
    clear c9
    simp only[Option.some.injEq,Prod.mk.injEq] at H
    obtain⟨rfl,rfl⟩:=H
    go_wp2
    repeat(go_quiet (fail);try go_wp2)
    go_ret2
    exact⟨_,rfl,rup (Kd.R_mono HO8.out (fun _ _=>trivial)),bl⟩

def impl_GiveTeeth.f (k:Nat) (l0:List (S41)) (l1:List (S45)) (a2:Int):Option (List Int×Bool):=(impl_IsComb.f k l0).bind fun t305=>(if t305=true then((impl_AreStrikes.f k l1).bind fun t306=>(if t306=true then((impl_isRest.f a2).bind fun t307=>(if t307=true then((impl_giveTeeth.f k l0 l1 a2).bind fun bt308=>(some (bt308.1,bt308.2))) else(some (([]:List Int),false)))) else(some (([]:List Int),false)))) else(some (([]:List Int),false)))
set_option maxHeartbeats 8000000 in
set_option maxRecDepth 100000 in
theorem impl_GiveTeeth.calls (k:Nat) (A0:Option Addr) (c0:Nat) (l0:List (S41)) (A1:Option Addr) (c1:Nat) (l1:List (S45)) (a2:Int) (r1:List Int) (r2:Bool) (w:World) (hr0:Kd.C k41 w A0 l0.length l0) (hc0:l0.length≤c0) (hr1:Kd.C k45 w A1 l1.length l1) (hc1:l1.length≤c1) (h:impl_GiveTeeth.f k l0 l1 a2=some (r1,r2)) :
  Calls Try.prog 5 #[.slice A0 l0.length c0,.slice A1 l1.length c1,.int .i64 a2] w fun e w'=>∃ v0_:Value,e = .returned (.tuple #[v0_,.bool r2])∧Kd.R (Kd.int .i64) 3 w' w.heap.size (fun _=>True) v0_ r1∧Below w.heap.size w w':=by
 have HR0:=am hr0
 have HC0:=am hc0
 clear hr0 hc0
 have HR1:=am hr1
 have HC1:=am hc1
 clear hr1 hc1
 have HB:=am (Below.refl w.heap.size w)
 have H:((impl_IsComb.f k l0).bind fun t305=>(if t305=true then((impl_AreStrikes.f k l1).bind fun t306=>(if t306=true then((impl_isRest.f a2).bind fun t307=>(if t307=true then((impl_giveTeeth.f k l0 l1 a2).bind fun bt308=>(some (bt308.1,bt308.2))) else(some (([]:List Int),false)))) else(some (([]:List Int),false)))) else(some (([]:List Int),false))))=some (r1,r2):=h
 clear h
 replace H:=Option.bind_eq_some_iff.mp H
 obtain⟨t305,A40,H⟩:=H
 replace H:(if t305=true then((impl_AreStrikes.f k l1).bind fun t306=>(if t306=true then((impl_isRest.f a2).bind fun t307=>(if t307=true then((impl_giveTeeth.f k l0 l1 a2).bind fun bt308=>(some (bt308.1,bt308.2))) else(some (([]:List Int),false)))) else(some (([]:List Int),false)))) else(some (([]:List Int),false)))=some (r1,r2):=H
 have A4:=am A40
 clear A40
 by_cases c5:t305=true
 ·subst c5
  replace H:=(if_pos rfl).symm.trans H
  replace H:=Option.bind_eq_some_iff.mp H
  obtain⟨t306,A60,H⟩:=H
  replace H:(if t306=true then((impl_isRest.f a2).bind fun t307=>(if t307=true then((impl_giveTeeth.f k l0 l1 a2).bind fun bt308=>(some (bt308.1,bt308.2))) else(some (([]:List Int),false)))) else(some (([]:List Int),false)))=some (r1,r2):=H
  have A6:=am A60
  clear A60
  by_cases c7:t306=true
  ·subst c7
   replace H:=(if_pos rfl).symm.trans H
   replace H:=Option.bind_eq_some_iff.mp H
   obtain⟨t307,A80,H⟩:=H
   replace H:(if t307=true then((impl_giveTeeth.f k l0 l1 a2).bind fun bt308=>(some (bt308.1,bt308.2))) else(some (([]:List Int),false)))=some (r1,r2):=H
   have A8:=am A80
   clear A80
   by_cases c9:t307=true
   ·subst c9
    replace H:=(if_pos rfl).symm.trans H
    replace H:=Option.bind_eq_some_iff.mp H
    obtain⟨⟨t308,t309⟩,A100,H⟩:=H
    replace H:(some (t308,t309))=some (r1,r2):=H
    have A10:=am A100
    clear A100
    simp only[Option.some.injEq,Prod.mk.injEq] at H
    obtain⟨rfl,rfl⟩:=H
    go_enter Try.func5,Try.ntmps5
    go_wp2_with (first|((with_reducible refine gate_callee (f:=18) rfl ?_);refine goesL_ (some 9) rfl rfl Try.func18 (by kernel_rfl) rfl #[.slice A0 l0.length c0] rfl tl ?_;(with_reducible refine(impl_IsComb.calls k _ _ l0 true _ ?side1 ?side2 A4.out).mono ?_);(case side1=>repeat(first|exact HR0.out|(with_reducible refine Kd.C_alloc ?_ _)|(with_reducible refine Kd.C_drewN ?_ _)|(with_reducible refine Kd.C_drew ?_)));(case side2=>exact HC0.out);rintro e w11 ⟨rfl,hb⟩;refine⟨_,rfl,?_⟩;replace HB:=am (below_step bl hb);(try clear hb))|(go_at_call 16;(with_reducible refine(impl_AreStrikes.calls k _ _ l1 true _ ?side1 ?side2 A6.out).mono ?_);(case side1=>exact cup (Kd.C_below HR1.out HB.out));(case side2=>exact HC1.out);rintro e w12 ⟨rfl,hb⟩;replace HB:=am (below_step bl hb);(try clear hb))|(go_at_call 24;(with_reducible refine(impl_isRest.calls a2 true _ A8.out).mono ?_);rintro e w' ⟨rfl,⟨nd,rfl⟩⟩)|((with_reducible refine gate_callee (f:=25) rfl ?_);refine goesL_ (some 24) rfl rfl Try.func25 (by kernel_rfl) rfl #[.slice A0 l0.length c0,.slice A1 l1.length c1,.int .i64 a2] rfl tl ?_;(with_reducible refine(impl_giveTeeth.calls k _ _ l0 _ _ l1 a2 t308 t309 _ ?side1 ?side2 ?side3 ?side4 A10.out).mono ?_);(case side1=>repeat(first|exact(Kd.C_below HR0.out bl)|(with_reducible refine Kd.C_alloc ?_ _)|(with_reducible refine Kd.C_drewN ?_ _)|(with_reducible refine Kd.C_drew ?_)));(case side2=>exact HC0.out);(case side3=>repeat(first|exact(Kd.C_below HR1.out bl)|(with_reducible refine Kd.C_alloc ?_ _)|(with_reducible refine Kd.C_drewN ?_ _)|(with_reducible refine Kd.C_drew ?_)));(case side4=>exact HC1.out);rintro e w13 ⟨v310,rfl,ho0,hb⟩;refine⟨_,rfl,?_⟩;have HO311:=am (Kd.R_lower ho0 (below_size bl));replace HB:=am (below_step bl hb);(try clear hb);(try clear ho0)))
    go_ret2
    exact⟨_,fin1,by(with_reducible repeat(first|apply Kd.R_alloc|apply Kd.R_drewN|apply Kd.R_drew));exact HO311.out,bl⟩
   ·replace c9:=Bool.eq_false_iff.mpr c9
    subst c9
    replace H:=(if_neg Bool.false_ne_true).symm.trans H
    simp only[Option.some.injEq,Prod.mk.injEq] at H
    obtain⟨rfl,rfl⟩:=H
    go_enter Try.func5,Try.ntmps5
    go_wp2_with (first|((with_reducible refine gate_callee (f:=18) rfl ?_);refine goesL_ (some 9) rfl rfl Try.func18 (by kernel_rfl) rfl #[.slice A0 l0.length c0] rfl tl ?_;(with_reducible refine(impl_IsComb.calls k _ _ l0 true _ ?side1 ?side2 A4.out).mono ?_);(case side1=>repeat(first|exact HR0.out|(with_reducible refine Kd.C_alloc ?_ _)|(with_reducible refine Kd.C_drewN ?_ _)|(with_reducible refine Kd.C_drew ?_)));(case side2=>exact HC0.out);rintro e w14 ⟨rfl,hb⟩;refine⟨_,rfl,?_⟩;replace HB:=am (below_step bl hb);(try clear hb))|(go_at_call 16;(with_reducible refine(impl_AreStrikes.calls k _ _ l1 true _ ?side1 ?side2 A6.out).mono ?_);(case side1=>exact cup (Kd.C_below HR1.out HB.out));(case side2=>exact HC1.out);rintro e w15 ⟨rfl,hb⟩;replace HB:=am (below_step bl hb);(try clear hb))|(go_at_call 24;(with_reducible refine(impl_isRest.calls a2 false _ A8.out).mono ?_);rintro e w' ⟨rfl,⟨nd,rfl⟩⟩))
    go_ret2
    exact⟨_,fin1,by first|exact Kd.R_nil _ _ _ _ _|exact Kd.N_nil _ _ _ _ _|exact Kd.V_nil _ _ _ _ _|exact Kd.Q_nil _ _ _ _ _|exact Kd.S_nil _ _ _ _ _,bl⟩
  ·replace c7:=Bool.eq_false_iff.mpr c7
   subst c7
   replace H:=(if_neg Bool.false_ne_true).symm.trans H
   simp only[Option.some.injEq,Prod.mk.injEq] at H
   obtain⟨rfl,rfl⟩:=H
   go_enter Try.func5,Try.ntmps5
   go_wp2_with (first|((with_reducible refine gate_callee (f:=18) rfl ?_);refine goesL_ (some 9) rfl rfl Try.func18 (by kernel_rfl) rfl #[.slice A0 l0.length c0] rfl tl ?_;(with_reducible refine(impl_IsComb.calls k _ _ l0 true _ ?side1 ?side2 A4.out).mono ?_);(case side1=>repeat(first|exact HR0.out|(with_reducible refine Kd.C_alloc ?_ _)|(with_reducible refine Kd.C_drewN ?_ _)|(with_reducible refine Kd.C_drew ?_)));(case side2=>exact HC0.out);rintro e w16 ⟨rfl,hb⟩;refine⟨_,rfl,?_⟩;replace HB:=am (below_step bl hb);(try clear hb))|(go_at_call 16;(with_reducible refine(impl_AreStrikes.calls k _ _ l1 false _ ?side1 ?side2 A6.out).mono ?_);(case side1=>exact cup (Kd.C_below HR1.out HB.out));(case side2=>exact HC1.out);rintro e w17 ⟨rfl,hb⟩;replace HB:=am (below_step bl hb);(try clear hb)))
   go_ret2
   exact⟨_,fin1,by first|exact Kd.R_nil _ _ _ _ _|exact Kd.N_nil _ _ _ _ _|exact Kd.V_nil _ _ _ _ _|exact Kd.Q_nil _ _ _ _ _|exact Kd.S_nil _ _ _ _ _,bl⟩
 ·replace c5:=Bool.eq_false_iff.mpr c5
  subst c5
  replace H:=(if_neg Bool.false_ne_true).symm.trans H
  simp only[Option.some.injEq,Prod.mk.injEq] at H
  obtain⟨rfl,rfl⟩:=H
  go_enter Try.func5,Try.ntmps5
  go_wp2_with (first|((with_reducible refine gate_callee (f:=18) rfl ?_);refine goesL_ (some 9) rfl rfl Try.func18 (by kernel_rfl) rfl #[.slice A0 l0.length c0] rfl tl ?_;(with_reducible refine(impl_IsComb.calls k _ _ l0 false _ ?side1 ?side2 A4.out).mono ?_);(case side1=>repeat(first|exact HR0.out|(with_reducible refine Kd.C_alloc ?_ _)|(with_reducible refine Kd.C_drewN ?_ _)|(with_reducible refine Kd.C_drew ?_)));(case side2=>exact HC0.out);rintro e w18 ⟨rfl,hb⟩;refine⟨_,rfl,?_⟩;replace HB:=am (below_step bl hb);(try clear hb)))
  go_ret2
  exact⟨_,fin1,by first|exact Kd.R_nil _ _ _ _ _|exact Kd.N_nil _ _ _ _ _|exact Kd.V_nil _ _ _ _ _|exact Kd.Q_nil _ _ _ _ _|exact Kd.S_nil _ _ _ _ _,bl⟩

def spec_l1In.f (a0:Int) (a1:Int) (a2:Int):Option (Bool):=if a0≥a1 then(some (decide (a0≤a2))) else(some false)
set_option maxHeartbeats 8000000 in
set_option maxRecDepth 100000 in
theorem spec_l1In.calls (a0:Int) (a1:Int) (a2:Int) (r:Bool) (w:World) (h:spec_l1In.f a0 a1 a2=some r) :
  Calls Try.prog 29 #[.int .i64 a0,.int .i64 a1,.int .i64 a2] w fun e w'=>e = .returned (.bool r)∧Drawn0 w w':=by
 have H:(if a0≥a1 then(some (decide (a0≤a2))) else(some false))=some r:=h
 clear h
 rcases itc H with⟨c4,H⟩|⟨c4,H⟩
 ·have c4b0:decide (a1≤a0)=true:=decide_eq_true c4
  clear c4
  obtain rfl:=Option.some.inj H
  go_enter Try.func29,Try.ntmps29
  go_wp2
  go_ret
  exact⟨by first|rfl|(simp;done)|(simp [*];done),by repeat(first|exact Drawn0.refl _|apply Drawn0.step)⟩
 ·have c4b0:decide (a1≤a0)=false:=decide_eq_false c4
  clear c4
  obtain rfl:=Option.some.inj H
  go_enter Try.func29,Try.ntmps29
  go_wp2
  go_ret
  exact⟨by first|rfl|(simp;done)|(simp [*];done),by repeat(first|exact Drawn0.refl _|apply Drawn0.step)⟩

def spec_ntPitch.f (a0:Int):Option (Bool):=(spec_l1In.f a0 24 96).bind fun t312=>(some t312)
set_option maxHeartbeats 8000000 in
set_option maxRecDepth 100000 in
theorem spec_ntPitch.calls (a0:Int) (r:Bool) (w:World) (h:spec_ntPitch.f a0=some r) :
  Calls Try.prog 38 #[.int .i64 a0] w fun e w'=>e = .returned (.bool r)∧Drawn0 w w':=by
 have H:((spec_l1In.f a0 24 96).bind fun t312=>(some t312))=some r:=h
 clear h
 obtain⟨t312,A2,H⟩:=bnd H
 obtain rfl:=Option.some.inj H
 go_enter Try.func38,Try.ntmps38
 go_wp2_with (first|((with_reducible refine gate_callee (f:=29) rfl ?_);refine goesL_ (some 4) rfl rfl Try.func29 (by kernel_rfl) rfl #[.int .i64 a0,.int .i64 24,.int .i64 96] rfl tl ?_;(with_reducible refine(spec_l1In.calls a0 24 96 t312 _ A2.out).mono ?_);rintro e w' ⟨rfl,⟨nd,rfl⟩⟩;refine⟨_,rfl,?_⟩))
 go_ret
 exact⟨by first|rfl|(simp;done)|(simp [*];done),by repeat(first|exact Drawn0.refl _|apply Drawn0.step)⟩

def spec_coStrikes.l0:Nat→List (S45)→List (S45)→Int→Int→Option (Bool)
 | 0,_,_,_,_=>none
 | k+1,x0,x5,x6,x7=>if x7<x6 then(if 0≤x7 then(if x7<(x5.length:Int) then((spec_ntPitch.f ((rd_T45 x5 x7).f0)).bind fun t315=>(if t315=true then((spec_l1In.f ((rd_T45 x5 x7).f1) 0 2000).bind fun t316=>(if t316=true then(if x7>0 then(if 0≤(wrap64 (x7 - 1)) then(if(wrap64 (x7 - 1))<(x0.length:Int) then(if((rd_T45 x0 (wrap64 (x7 - 1))).f1)>((rd_T45 x5 x7).f1) then(some false) else(spec_coStrikes.l0 k x0 x5 x6 (wrap64 (x7+1)))) else(none)) else(none)) else(spec_coStrikes.l0 k x0 x5 x6 (wrap64 (x7+1)))) else(some false))) else(some false))) else(none)) else(none)) else(some (decide ((x0.length:Int)≤40)))
def spec_coStrikes.f (k:Nat) (l0:List (S45)):Option (Bool):=spec_coStrikes.l0 k l0 l0 (l0.length:Int) 0
set_option maxHeartbeats 8000000 in
set_option maxRecDepth 100000 in
theorem spec_coStrikes.calls (k:Nat) (A0:Option Addr) (c0:Nat) (l0:List (S45)) (r:Bool) (w:World) (hr0:Kd.C k45 w A0 l0.length l0) (hc0:l0.length≤c0) (h:spec_coStrikes.f k l0=some r) :
  Calls Try.prog 28 #[.slice A0 l0.length c0] w fun e w'=>e = .returned (.bool r)∧Below w.heap.size w w':=by
 have hu45:=Try.underlying45
 have HR0:=am hr0
 have HC0:=am hc0
 clear hr0 hc0
 have HB:=am (Below.refl w.heap.size w)
 have H:(spec_coStrikes.l0 k l0 l0 (l0.length:Int) 0)=some r:=h
 clear h
 have H':=am H
 clear H
 go_enter Try.func28,Try.ntmps28
 go_wp2
 repeat(go_quiet (fail);try go_wp2)
 go_loopg [7] k (fun kq v7 w'=>∃(x7_1:Int),v7 = .int .i64 x7_1∧Aside0 (spec_coStrikes.l0 kq l0 l0 (l0.length:Int) x7_1=some r)∧Aside0 (kq≤k)∧Aside0 (Below w.heap.size w w'))
 case atStart=>exact⟨(0),fin2,H',⟨Nat.le_refl _⟩,⟨bl⟩⟩
 case round =>
  clear H'
  obtain⟨x7_1,rfl,HA,HK1,HB⟩:=hrel
  cases gk with
  | zero=>exact absurd HA.out (by simp [spec_coStrikes.l0])
  | succ k1 =>
   have H:=HA.out
   clear HA
   simp only[spec_coStrikes.l0] at H
   rcases itc H with⟨c2,H⟩|⟨c2,H⟩
   ·have c2b0:=decide_eq_true c2
    clear c2
    obtain⟨c3b0,H⟩:=ifb H
    obtain⟨c4b0,H⟩:=ifb H
    obtain⟨t315,A5,H⟩:=bnd H
    by_cases c6:t315=true
    ·subst c6
     replace H:=(if_pos rfl).symm.trans H
     obtain⟨t316,A7,H⟩:=bnd H
     by_cases c8:t316=true
     ·subst c8
      replace H:=(if_pos rfl).symm.trans H
      rcases itc H with⟨c9,H⟩|⟨c9,H⟩
      ·have c9b0:decide (0<x7_1)=true:=decide_eq_true c9
       clear c9
       obtain⟨ji10,hji10⟩:∃ j_:Int,(wrap64 (x7_1 - 1))=j_:=⟨_,rfl⟩
       replace H:(if 0≤(ji10) then(if(ji10)<(l0.length:Int) then(if((rd_T45 l0 (ji10)).f1)>((rd_T45 l0 x7_1).f1) then(some false) else(spec_coStrikes.l0 k1 l0 l0 (l0.length:Int) (wrap64 (x7_1+1)))) else(none)) else(none))=some r:=by first|(rw[hji10] at H;exact H)|(simp only[hji10] at H ⊢;exact H)
       (try rw[hji10] at A5)
       (try rw[hji10] at A7)
       have hji10w:(IntKind.i64.wrap (x7_1 - 1))=ji10:=(i64_w _).trans hji10
       obtain⟨c11b0,H⟩:=ifb H
       obtain⟨c12b0,H⟩:=ifb H
       rcases itc H with⟨c13,H⟩|⟨c13,H⟩
       ·have c13b0:decide (((rd_T45 l0 x7_1).f1)<((rd_T45 l0 (ji10)).f1))=true:=decide_eq_true c13
        clear c13
        obtain rfl:=Option.some.inj H
        have p313:0≤(x7_1:Int):=od
        have q313:x7_1<(l0.length:Int):=od
        obtain⟨ad313,e313,hx313_0,hx313_1⟩:=at_T45 HR0.out x7_1 p313 q313
        cases e313
        replace hx313_0:=(HB.out.cell (World.block_lt_of_cell? w _ hx313_0)).trans hx313_0
        replace hx313_1:=(HB.out.cell (World.block_lt_of_cell? w _ hx313_1)).trans hx313_1
        replace p313:=eq_true p313
        replace q313:=eq_true q313
        go_wp2_with (first|((with_reducible refine gate_dst (N:=4) rfl ?_);refine box_event ?hg (N:=4) ?hd (cs := #[.int .i64 0,.int .i64 0]) (t:=45) ?hr ?_;(case hd=>rfl);(case hg=>rfl);(case hr=>first|(go_simp;done)|(go_simp;rfl));intro gb314 hg w14 hbox hb;have BK314:=am (hbox);have GW314:=am (ge_ bl hg);have GE314:=am (ge_ bl hg);replace HB:=am (below_step bl hb);clear hb hbox hg;have hcz15_0:=bc BK314.out 0;have hcz15_1:=bc BK314.out 1;have hfz15_0:=blk_frozen BK314.out 0;have hfz15_1:=blk_frozen BK314.out 1)|(go_at_call 38;(with_reducible refine(spec_ntPitch.calls ((rd_T45 l0 x7_1).f0) true _ A5.out).mono ?_);rintro e w' ⟨rfl,⟨nd,rfl⟩⟩;(try first|exact⟨rfl,_,World.drewN_drewN _ _ _⟩|exact⟨rfl,_,Eq.trans (World.drewN_drewN _ _ _) (congrArg (World.drewN _) (Nat.add_assoc _ _ _))⟩))|(go_at_call 29;(with_reducible refine(spec_l1In.calls ((rd_T45 l0 x7_1).f1) 0 2000 true _ A7.out).mono ?_);rintro e w' ⟨rfl,⟨nd,rfl⟩⟩;(try first|exact⟨rfl,_,World.drewN_drewN _ _ _⟩|exact⟨rfl,_,Eq.trans (World.drewN_drewN _ _ _) (congrArg (World.drewN _) (Nat.add_assoc _ _ _))⟩);have p317:0≤((ji10):Int):=od;have q317:(ji10)<(l0.length:Int):=od;obtain⟨ad317,e317,hx317_0,hx317_1⟩:=at_T45 HR0.out (ji10) p317 q317;obtain rfl:ad313=ad317:=(by injection e317);have hn317_0:ad313.block≠gb314:=Nat.ne_of_lt (Nat.lt_of_lt_of_le (by have:=World.block_lt_of_cell? _ _ hx317_0;first|rwa [add_block] at this|exact this) GW314.out);have hn317_1:ad313.block≠gb314:=Nat.ne_of_lt (Nat.lt_of_lt_of_le (by have:=World.block_lt_of_cell? _ _ hx317_0;first|rwa [add_block] at this|exact this) GW314.out);replace hx317_0:=(HB.out.cell (World.block_lt_of_cell? w _ hx317_0)).trans hx317_0;replace hx317_1:=(HB.out.cell (World.block_lt_of_cell? w _ hx317_1)).trans hx317_1;replace hx317_0:=(cell_far (p:=⟨gb314,0,none⟩) (by first|(rw[add_block];exact hn317_0)|(show(Addr.add _ _).block≠_;rw[add_block];exact hn317_0)|exact hn317_0) (.int .i64 ((rd_T45 l0 x7_1).f0))).trans hx317_0;replace hx317_1:=(cell_far (p:=⟨gb314,0,none⟩) (by first|(rw[add_block];exact hn317_0)|(show(Addr.add _ _).block≠_;rw[add_block];exact hn317_0)|exact hn317_0) (.int .i64 ((rd_T45 l0 x7_1).f0))).trans hx317_1;replace hx317_0:=(cell_far (p:=⟨gb314,1,none⟩) (by first|(rw[add_block];exact hn317_1)|(show(Addr.add _ _).block≠_;rw[add_block];exact hn317_1)|exact hn317_1) (.int .i64 ((rd_T45 l0 x7_1).f1))).trans hx317_0;replace hx317_1:=(cell_far (p:=⟨gb314,1,none⟩) (by first|(rw[add_block];exact hn317_1)|(show(Addr.add _ _).block≠_;rw[add_block];exact hn317_1)|exact hn317_1) (.int .i64 ((rd_T45 l0 x7_1).f1))).trans hx317_1;(try have hy317_0:=fun(n_:Nat)=>(show((((w14.drewN n_).setCell ⟨gb314,0,none⟩ (.int .i64 ((rd_T45 l0 x7_1).f0))).setCell ⟨gb314,1,none⟩ (.int .i64 ((rd_T45 l0 x7_1).f1)))).cell? _=some _ from hx317_0));(try have hy317_1:=fun(n_:Nat)=>(show((((w14.drewN n_).setCell ⟨gb314,0,none⟩ (.int .i64 ((rd_T45 l0 x7_1).f0))).setCell ⟨gb314,1,none⟩ (.int .i64 ((rd_T45 l0 x7_1).f1)))).cell? _=some _ from hx317_1));clear hn317_0 hn317_1;replace p317:=eq_true p317;replace q317:=eq_true q317))
        repeat(go_quiet (first|((with_reducible refine gate_dst (N:=4) rfl ?_);refine box_event ?hg (N:=4) ?hd (cs := #[.int .i64 0,.int .i64 0]) (t:=45) ?hr ?_;(case hd=>rfl);(case hg=>rfl);(case hr=>first|(go_simp;done)|(go_simp;rfl));intro gb314 hg w14 hbox hb;have BK314:=am (hbox);have GW314:=am (ge_ bl hg);have GE314:=am (ge_ bl hg);replace HB:=am (below_step bl hb);clear hb hbox hg;have hcz15_0:=bc BK314.out 0;have hcz15_1:=bc BK314.out 1;have hfz15_0:=blk_frozen BK314.out 0;have hfz15_1:=blk_frozen BK314.out 1)|(go_at_call 38;(with_reducible refine(spec_ntPitch.calls ((rd_T45 l0 x7_1).f0) true _ A5.out).mono ?_);rintro e w' ⟨rfl,⟨nd,rfl⟩⟩;(try first|exact⟨rfl,_,World.drewN_drewN _ _ _⟩|exact⟨rfl,_,Eq.trans (World.drewN_drewN _ _ _) (congrArg (World.drewN _) (Nat.add_assoc _ _ _))⟩))|(go_at_call 29;(with_reducible refine(spec_l1In.calls ((rd_T45 l0 x7_1).f1) 0 2000 true _ A7.out).mono ?_);rintro e w' ⟨rfl,⟨nd,rfl⟩⟩;(try first|exact⟨rfl,_,World.drewN_drewN _ _ _⟩|exact⟨rfl,_,Eq.trans (World.drewN_drewN _ _ _) (congrArg (World.drewN _) (Nat.add_assoc _ _ _))⟩);have p317:0≤((ji10):Int):=od;have q317:(ji10)<(l0.length:Int):=od;obtain⟨ad317,e317,hx317_0,hx317_1⟩:=at_T45 HR0.out (ji10) p317 q317;obtain rfl:ad313=ad317:=(by injection e317);have hn317_0:ad313.block≠gb314:=Nat.ne_of_lt (Nat.lt_of_lt_of_le (by have:=World.block_lt_of_cell? _ _ hx317_0;first|rwa [add_block] at this|exact this) GW314.out);have hn317_1:ad313.block≠gb314:=Nat.ne_of_lt (Nat.lt_of_lt_of_le (by have:=World.block_lt_of_cell? _ _ hx317_0;first|rwa [add_block] at this|exact this) GW314.out);replace hx317_0:=(HB.out.cell (World.block_lt_of_cell? w _ hx317_0)).trans hx317_0;replace hx317_1:=(HB.out.cell (World.block_lt_of_cell? w _ hx317_1)).trans hx317_1;replace hx317_0:=(cell_far (p:=⟨gb314,0,none⟩) (by first|(rw[add_block];exact hn317_0)|(show(Addr.add _ _).block≠_;rw[add_block];exact hn317_0)|exact hn317_0) (.int .i64 ((rd_T45 l0 x7_1).f0))).trans hx317_0;replace hx317_1:=(cell_far (p:=⟨gb314,0,none⟩) (by first|(rw[add_block];exact hn317_0)|(show(Addr.add _ _).block≠_;rw[add_block];exact hn317_0)|exact hn317_0) (.int .i64 ((rd_T45 l0 x7_1).f0))).trans hx317_1;replace hx317_0:=(cell_far (p:=⟨gb314,1,none⟩) (by first|(rw[add_block];exact hn317_1)|(show(Addr.add _ _).block≠_;rw[add_block];exact hn317_1)|exact hn317_1) (.int .i64 ((rd_T45 l0 x7_1).f1))).trans hx317_0;replace hx317_1:=(cell_far (p:=⟨gb314,1,none⟩) (by first|(rw[add_block];exact hn317_1)|(show(Addr.add _ _).block≠_;rw[add_block];exact hn317_1)|exact hn317_1) (.int .i64 ((rd_T45 l0 x7_1).f1))).trans hx317_1;(try have hy317_0:=fun(n_:Nat)=>(show((((w14.drewN n_).setCell ⟨gb314,0,none⟩ (.int .i64 ((rd_T45 l0 x7_1).f0))).setCell ⟨gb314,1,none⟩ (.int .i64 ((rd_T45 l0 x7_1).f1)))).cell? _=some _ from hx317_0));(try have hy317_1:=fun(n_:Nat)=>(show((((w14.drewN n_).setCell ⟨gb314,0,none⟩ (.int .i64 ((rd_T45 l0 x7_1).f0))).setCell ⟨gb314,1,none⟩ (.int .i64 ((rd_T45 l0 x7_1).f1)))).cell? _=some _ from hx317_1));clear hn317_0 hn317_1;replace p317:=eq_true p317;replace q317:=eq_true q317));try go_wp2_with (first|((with_reducible refine gate_dst (N:=4) rfl ?_);refine box_event ?hg (N:=4) ?hd (cs := #[.int .i64 0,.int .i64 0]) (t:=45) ?hr ?_;(case hd=>rfl);(case hg=>rfl);(case hr=>first|(go_simp;done)|(go_simp;rfl));intro gb314 hg w14 hbox hb;have BK314:=am (hbox);have GW314:=am (ge_ bl hg);have GE314:=am (ge_ bl hg);replace HB:=am (below_step bl hb);clear hb hbox hg;have hcz15_0:=bc BK314.out 0;have hcz15_1:=bc BK314.out 1;have hfz15_0:=blk_frozen BK314.out 0;have hfz15_1:=blk_frozen BK314.out 1)|(go_at_call 38;(with_reducible refine(spec_ntPitch.calls ((rd_T45 l0 x7_1).f0) true _ A5.out).mono ?_);rintro e w' ⟨rfl,⟨nd,rfl⟩⟩;(try first|exact⟨rfl,_,World.drewN_drewN _ _ _⟩|exact⟨rfl,_,Eq.trans (World.drewN_drewN _ _ _) (congrArg (World.drewN _) (Nat.add_assoc _ _ _))⟩))|(go_at_call 29;(with_reducible refine(spec_l1In.calls ((rd_T45 l0 x7_1).f1) 0 2000 true _ A7.out).mono ?_);rintro e w' ⟨rfl,⟨nd,rfl⟩⟩;(try first|exact⟨rfl,_,World.drewN_drewN _ _ _⟩|exact⟨rfl,_,Eq.trans (World.drewN_drewN _ _ _) (congrArg (World.drewN _) (Nat.add_assoc _ _ _))⟩);have p317:0≤((ji10):Int):=od;have q317:(ji10)<(l0.length:Int):=od;obtain⟨ad317,e317,hx317_0,hx317_1⟩:=at_T45 HR0.out (ji10) p317 q317;obtain rfl:ad313=ad317:=(by injection e317);have hn317_0:ad313.block≠gb314:=Nat.ne_of_lt (Nat.lt_of_lt_of_le (by have:=World.block_lt_of_cell? _ _ hx317_0;first|rwa [add_block] at this|exact this) GW314.out);have hn317_1:ad313.block≠gb314:=Nat.ne_of_lt (Nat.lt_of_lt_of_le (by have:=World.block_lt_of_cell? _ _ hx317_0;first|rwa [add_block] at this|exact this) GW314.out);replace hx317_0:=(HB.out.cell (World.block_lt_of_cell? w _ hx317_0)).trans hx317_0;replace hx317_1:=(HB.out.cell (World.block_lt_of_cell? w _ hx317_1)).trans hx317_1;replace hx317_0:=(cell_far (p:=⟨gb314,0,none⟩) (by first|(rw[add_block];exact hn317_0)|(show(Addr.add _ _).block≠_;rw[add_block];exact hn317_0)|exact hn317_0) (.int .i64 ((rd_T45 l0 x7_1).f0))).trans hx317_0;replace hx317_1:=(cell_far (p:=⟨gb314,0,none⟩) (by first|(rw[add_block];exact hn317_0)|(show(Addr.add _ _).block≠_;rw[add_block];exact hn317_0)|exact hn317_0) (.int .i64 ((rd_T45 l0 x7_1).f0))).trans hx317_1;replace hx317_0:=(cell_far (p:=⟨gb314,1,none⟩) (by first|(rw[add_block];exact hn317_1)|(show(Addr.add _ _).block≠_;rw[add_block];exact hn317_1)|exact hn317_1) (.int .i64 ((rd_T45 l0 x7_1).f1))).trans hx317_0;replace hx317_1:=(cell_far (p:=⟨gb314,1,none⟩) (by first|(rw[add_block];exact hn317_1)|(show(Addr.add _ _).block≠_;rw[add_block];exact hn317_1)|exact hn317_1) (.int .i64 ((rd_T45 l0 x7_1).f1))).trans hx317_1;(try have hy317_0:=fun(n_:Nat)=>(show((((w14.drewN n_).setCell ⟨gb314,0,none⟩ (.int .i64 ((rd_T45 l0 x7_1).f0))).setCell ⟨gb314,1,none⟩ (.int .i64 ((rd_T45 l0 x7_1).f1)))).cell? _=some _ from hx317_0));(try have hy317_1:=fun(n_:Nat)=>(show((((w14.drewN n_).setCell ⟨gb314,0,none⟩ (.int .i64 ((rd_T45 l0 x7_1).f0))).setCell ⟨gb314,1,none⟩ (.int .i64 ((rd_T45 l0 x7_1).f1)))).cell? _=some _ from hx317_1));clear hn317_0 hn317_1;replace p317:=eq_true p317;replace q317:=eq_true q317)))
        go_ret
        exact⟨by first|rfl|(simp [errW_none,errW_some]<;>rfl)|(simp only[← hji10];first|rfl|(simp [errW_none,errW_some]<;>rfl))|(simp [*,errW_none,errW_some]<;>rfl),bl⟩
       ·have c13b0:decide (((rd_T45 l0 x7_1).f1)<((rd_T45 l0 (ji10)).f1))=false:=decide_eq_false c13
        clear c13
        have H':=am H
        clear H
        have p313:0≤(x7_1:Int):=od
        have q313:x7_1<(l0.length:Int):=od
        obtain⟨ad313,e313,hx313_0,hx313_1⟩:=at_T45 HR0.out x7_1 p313 q313
        cases e313
        replace hx313_0:=(HB.out.cell (World.block_lt_of_cell? w _ hx313_0)).trans hx313_0
        replace hx313_1:=(HB.out.cell (World.block_lt_of_cell? w _ hx313_1)).trans hx313_1
        replace p313:=eq_true p313
        replace q313:=eq_true q313
        go_wp2_with (first|((with_reducible refine gate_dst (N:=4) rfl ?_);refine box_event ?hg (N:=4) ?hd (cs := #[.int .i64 0,.int .i64 0]) (t:=45) ?hr ?_;(case hd=>rfl);(case hg=>rfl);(case hr=>first|(go_simp;done)|(go_simp;rfl));intro gb314 hg w16 hbox hb;have BK314:=am (hbox);have GW314:=am (ge_ bl hg);have GE314:=am (ge_ bl hg);replace HB:=am (below_step bl hb);clear hb hbox hg;have hcz17_0:=bc BK314.out 0;have hcz17_1:=bc BK314.out 1;have hfz17_0:=blk_frozen BK314.out 0;have hfz17_1:=blk_frozen BK314.out 1)|(go_at_call 38;(with_reducible refine(spec_ntPitch.calls ((rd_T45 l0 x7_1).f0) true _ A5.out).mono ?_);rintro e w' ⟨rfl,⟨nd,rfl⟩⟩;(try first|exact⟨rfl,_,World.drewN_drewN _ _ _⟩|exact⟨rfl,_,Eq.trans (World.drewN_drewN _ _ _) (congrArg (World.drewN _) (Nat.add_assoc _ _ _))⟩))|(go_at_call 29;(with_reducible refine(spec_l1In.calls ((rd_T45 l0 x7_1).f1) 0 2000 true _ A7.out).mono ?_);rintro e w' ⟨rfl,⟨nd,rfl⟩⟩;(try first|exact⟨rfl,_,World.drewN_drewN _ _ _⟩|exact⟨rfl,_,Eq.trans (World.drewN_drewN _ _ _) (congrArg (World.drewN _) (Nat.add_assoc _ _ _))⟩);have p317:0≤((ji10):Int):=od;have q317:(ji10)<(l0.length:Int):=od;obtain⟨ad317,e317,hx317_0,hx317_1⟩:=at_T45 HR0.out (ji10) p317 q317;obtain rfl:ad313=ad317:=(by injection e317);have hn317_0:ad313.block≠gb314:=Nat.ne_of_lt (Nat.lt_of_lt_of_le (by have:=World.block_lt_of_cell? _ _ hx317_0;first|rwa [add_block] at this|exact this) GW314.out);have hn317_1:ad313.block≠gb314:=Nat.ne_of_lt (Nat.lt_of_lt_of_le (by have:=World.block_lt_of_cell? _ _ hx317_0;first|rwa [add_block] at this|exact this) GW314.out);replace hx317_0:=(HB.out.cell (World.block_lt_of_cell? w _ hx317_0)).trans hx317_0;replace hx317_1:=(HB.out.cell (World.block_lt_of_cell? w _ hx317_1)).trans hx317_1;replace hx317_0:=(cell_far (p:=⟨gb314,0,none⟩) (by first|(rw[add_block];exact hn317_0)|(show(Addr.add _ _).block≠_;rw[add_block];exact hn317_0)|exact hn317_0) (.int .i64 ((rd_T45 l0 x7_1).f0))).trans hx317_0;replace hx317_1:=(cell_far (p:=⟨gb314,0,none⟩) (by first|(rw[add_block];exact hn317_0)|(show(Addr.add _ _).block≠_;rw[add_block];exact hn317_0)|exact hn317_0) (.int .i64 ((rd_T45 l0 x7_1).f0))).trans hx317_1;replace hx317_0:=(cell_far (p:=⟨gb314,1,none⟩) (by first|(rw[add_block];exact hn317_1)|(show(Addr.add _ _).block≠_;rw[add_block];exact hn317_1)|exact hn317_1) (.int .i64 ((rd_T45 l0 x7_1).f1))).trans hx317_0;replace hx317_1:=(cell_far (p:=⟨gb314,1,none⟩) (by first|(rw[add_block];exact hn317_1)|(show(Addr.add _ _).block≠_;rw[add_block];exact hn317_1)|exact hn317_1) (.int .i64 ((rd_T45 l0 x7_1).f1))).trans hx317_1;(try have hy317_0:=fun(n_:Nat)=>(show((((w16.drewN n_).setCell ⟨gb314,0,none⟩ (.int .i64 ((rd_T45 l0 x7_1).f0))).setCell ⟨gb314,1,none⟩ (.int .i64 ((rd_T45 l0 x7_1).f1)))).cell? _=some _ from hx317_0));(try have hy317_1:=fun(n_:Nat)=>(show((((w16.drewN n_).setCell ⟨gb314,0,none⟩ (.int .i64 ((rd_T45 l0 x7_1).f0))).setCell ⟨gb314,1,none⟩ (.int .i64 ((rd_T45 l0 x7_1).f1)))).cell? _=some _ from hx317_1));clear hn317_0 hn317_1;replace p317:=eq_true p317;replace q317:=eq_true q317))
        repeat(go_quiet (first|((with_reducible refine gate_dst (N:=4) rfl ?_);refine box_event ?hg (N:=4) ?hd (cs := #[.int .i64 0,.int .i64 0]) (t:=45) ?hr ?_;(case hd=>rfl);(case hg=>rfl);(case hr=>first|(go_simp;done)|(go_simp;rfl));intro gb314 hg w16 hbox hb;have BK314:=am (hbox);have GW314:=am (ge_ bl hg);have GE314:=am (ge_ bl hg);replace HB:=am (below_step bl hb);clear hb hbox hg;have hcz17_0:=bc BK314.out 0;have hcz17_1:=bc BK314.out 1;have hfz17_0:=blk_frozen BK314.out 0;have hfz17_1:=blk_frozen BK314.out 1)|(go_at_call 38;(with_reducible refine(spec_ntPitch.calls ((rd_T45 l0 x7_1).f0) true _ A5.out).mono ?_);rintro e w' ⟨rfl,⟨nd,rfl⟩⟩;(try first|exact⟨rfl,_,World.drewN_drewN _ _ _⟩|exact⟨rfl,_,Eq.trans (World.drewN_drewN _ _ _) (congrArg (World.drewN _) (Nat.add_assoc _ _ _))⟩))|(go_at_call 29;(with_reducible refine(spec_l1In.calls ((rd_T45 l0 x7_1).f1) 0 2000 true _ A7.out).mono ?_);rintro e w' ⟨rfl,⟨nd,rfl⟩⟩;(try first|exact⟨rfl,_,World.drewN_drewN _ _ _⟩|exact⟨rfl,_,Eq.trans (World.drewN_drewN _ _ _) (congrArg (World.drewN _) (Nat.add_assoc _ _ _))⟩);have p317:0≤((ji10):Int):=od;have q317:(ji10)<(l0.length:Int):=od;obtain⟨ad317,e317,hx317_0,hx317_1⟩:=at_T45 HR0.out (ji10) p317 q317;obtain rfl:ad313=ad317:=(by injection e317);have hn317_0:ad313.block≠gb314:=Nat.ne_of_lt (Nat.lt_of_lt_of_le (by have:=World.block_lt_of_cell? _ _ hx317_0;first|rwa [add_block] at this|exact this) GW314.out);have hn317_1:ad313.block≠gb314:=Nat.ne_of_lt (Nat.lt_of_lt_of_le (by have:=World.block_lt_of_cell? _ _ hx317_0;first|rwa [add_block] at this|exact this) GW314.out);replace hx317_0:=(HB.out.cell (World.block_lt_of_cell? w _ hx317_0)).trans hx317_0;replace hx317_1:=(HB.out.cell (World.block_lt_of_cell? w _ hx317_1)).trans hx317_1;replace hx317_0:=(cell_far (p:=⟨gb314,0,none⟩) (by first|(rw[add_block];exact hn317_0)|(show(Addr.add _ _).block≠_;rw[add_block];exact hn317_0)|exact hn317_0) (.int .i64 ((rd_T45 l0 x7_1).f0))).trans hx317_0;replace hx317_1:=(cell_far (p:=⟨gb314,0,none⟩) (by first|(rw[add_block];exact hn317_0)|(show(Addr.add _ _).block≠_;rw[add_block];exact hn317_0)|exact hn317_0) (.int .i64 ((rd_T45 l0 x7_1).f0))).trans hx317_1;replace hx317_0:=(cell_far (p:=⟨gb314,1,none⟩) (by first|(rw[add_block];exact hn317_1)|(show(Addr.add _ _).block≠_;rw[add_block];exact hn317_1)|exact hn317_1) (.int .i64 ((rd_T45 l0 x7_1).f1))).trans hx317_0;replace hx317_1:=(cell_far (p:=⟨gb314,1,none⟩) (by first|(rw[add_block];exact hn317_1)|(show(Addr.add _ _).block≠_;rw[add_block];exact hn317_1)|exact hn317_1) (.int .i64 ((rd_T45 l0 x7_1).f1))).trans hx317_1;(try have hy317_0:=fun(n_:Nat)=>(show((((w16.drewN n_).setCell ⟨gb314,0,none⟩ (.int .i64 ((rd_T45 l0 x7_1).f0))).setCell ⟨gb314,1,none⟩ (.int .i64 ((rd_T45 l0 x7_1).f1)))).cell? _=some _ from hx317_0));(try have hy317_1:=fun(n_:Nat)=>(show((((w16.drewN n_).setCell ⟨gb314,0,none⟩ (.int .i64 ((rd_T45 l0 x7_1).f0))).setCell ⟨gb314,1,none⟩ (.int .i64 ((rd_T45 l0 x7_1).f1)))).cell? _=some _ from hx317_1));clear hn317_0 hn317_1;replace p317:=eq_true p317;replace q317:=eq_true q317));try go_wp2_with (first|((with_reducible refine gate_dst (N:=4) rfl ?_);refine box_event ?hg (N:=4) ?hd (cs := #[.int .i64 0,.int .i64 0]) (t:=45) ?hr ?_;(case hd=>rfl);(case hg=>rfl);(case hr=>first|(go_simp;done)|(go_simp;rfl));intro gb314 hg w16 hbox hb;have BK314:=am (hbox);have GW314:=am (ge_ bl hg);have GE314:=am (ge_ bl hg);replace HB:=am (below_step bl hb);clear hb hbox hg;have hcz17_0:=bc BK314.out 0;have hcz17_1:=bc BK314.out 1;have hfz17_0:=blk_frozen BK314.out 0;have hfz17_1:=blk_frozen BK314.out 1)|(go_at_call 38;(with_reducible refine(spec_ntPitch.calls ((rd_T45 l0 x7_1).f0) true _ A5.out).mono ?_);rintro e w' ⟨rfl,⟨nd,rfl⟩⟩;(try first|exact⟨rfl,_,World.drewN_drewN _ _ _⟩|exact⟨rfl,_,Eq.trans (World.drewN_drewN _ _ _) (congrArg (World.drewN _) (Nat.add_assoc _ _ _))⟩))|(go_at_call 29;(with_reducible refine(spec_l1In.calls ((rd_T45 l0 x7_1).f1) 0 2000 true _ A7.out).mono ?_);rintro e w' ⟨rfl,⟨nd,rfl⟩⟩;(try first|exact⟨rfl,_,World.drewN_drewN _ _ _⟩|exact⟨rfl,_,Eq.trans (World.drewN_drewN _ _ _) (congrArg (World.drewN _) (Nat.add_assoc _ _ _))⟩);have p317:0≤((ji10):Int):=od;have q317:(ji10)<(l0.length:Int):=od;obtain⟨ad317,e317,hx317_0,hx317_1⟩:=at_T45 HR0.out (ji10) p317 q317;obtain rfl:ad313=ad317:=(by injection e317);have hn317_0:ad313.block≠gb314:=Nat.ne_of_lt (Nat.lt_of_lt_of_le (by have:=World.block_lt_of_cell? _ _ hx317_0;first|rwa [add_block] at this|exact this) GW314.out);have hn317_1:ad313.block≠gb314:=Nat.ne_of_lt (Nat.lt_of_lt_of_le (by have:=World.block_lt_of_cell? _ _ hx317_0;first|rwa [add_block] at this|exact this) GW314.out);replace hx317_0:=(HB.out.cell (World.block_lt_of_cell? w _ hx317_0)).trans hx317_0;replace hx317_1:=(HB.out.cell (World.block_lt_of_cell? w _ hx317_1)).trans hx317_1;replace hx317_0:=(cell_far (p:=⟨gb314,0,none⟩) (by first|(rw[add_block];exact hn317_0)|(show(Addr.add _ _).block≠_;rw[add_block];exact hn317_0)|exact hn317_0) (.int .i64 ((rd_T45 l0 x7_1).f0))).trans hx317_0;replace hx317_1:=(cell_far (p:=⟨gb314,0,none⟩) (by first|(rw[add_block];exact hn317_0)|(show(Addr.add _ _).block≠_;rw[add_block];exact hn317_0)|exact hn317_0) (.int .i64 ((rd_T45 l0 x7_1).f0))).trans hx317_1;replace hx317_0:=(cell_far (p:=⟨gb314,1,none⟩) (by first|(rw[add_block];exact hn317_1)|(show(Addr.add _ _).block≠_;rw[add_block];exact hn317_1)|exact hn317_1) (.int .i64 ((rd_T45 l0 x7_1).f1))).trans hx317_0;replace hx317_1:=(cell_far (p:=⟨gb314,1,none⟩) (by first|(rw[add_block];exact hn317_1)|(show(Addr.add _ _).block≠_;rw[add_block];exact hn317_1)|exact hn317_1) (.int .i64 ((rd_T45 l0 x7_1).f1))).trans hx317_1;(try have hy317_0:=fun(n_:Nat)=>(show((((w16.drewN n_).setCell ⟨gb314,0,none⟩ (.int .i64 ((rd_T45 l0 x7_1).f0))).setCell ⟨gb314,1,none⟩ (.int .i64 ((rd_T45 l0 x7_1).f1)))).cell? _=some _ from hx317_0));(try have hy317_1:=fun(n_:Nat)=>(show((((w16.drewN n_).setCell ⟨gb314,0,none⟩ (.int .i64 ((rd_T45 l0 x7_1).f0))).setCell ⟨gb314,1,none⟩ (.int .i64 ((rd_T45 l0 x7_1).f1)))).cell? _=some _ from hx317_1));clear hn317_0 hn317_1;replace p317:=eq_true p317;replace q317:=eq_true q317)))
        go_roundg k1
        case measure=>have:=HK1.out;omega
        case rel=>exact⟨(wrap64 (x7_1+1)),fin2,H',⟨by have:=HK1.out;omega⟩,⟨bl⟩⟩
      ·have c9b0:decide (0<x7_1)=false:=decide_eq_false c9
       clear c9
       have H':=am H
       clear H
       have p313:0≤(x7_1:Int):=od
       have q313:x7_1<(l0.length:Int):=od
       obtain⟨ad313,e313,hx313_0,hx313_1⟩:=at_T45 HR0.out x7_1 p313 q313
       cases e313
       replace hx313_0:=(HB.out.cell (World.block_lt_of_cell? w _ hx313_0)).trans hx313_0
       replace hx313_1:=(HB.out.cell (World.block_lt_of_cell? w _ hx313_1)).trans hx313_1
       replace p313:=eq_true p313
       replace q313:=eq_true q313
       go_wp2_with (first|((with_reducible refine gate_dst (N:=4) rfl ?_);refine box_event ?hg (N:=4) ?hd (cs := #[.int .i64 0,.int .i64 0]) (t:=45) ?hr ?_;(case hd=>rfl);(case hg=>rfl);(case hr=>first|(go_simp;done)|(go_simp;rfl));intro gb314 hg w18 hbox hb;have BK314:=am (hbox);have GW314:=am (ge_ bl hg);have GE314:=am (ge_ bl hg);replace HB:=am (below_step bl hb);clear hb hbox hg;have hcz19_0:=bc BK314.out 0;have hcz19_1:=bc BK314.out 1;have hfz19_0:=blk_frozen BK314.out 0;have hfz19_1:=blk_frozen BK314.out 1)|(go_at_call 38;(with_reducible refine(spec_ntPitch.calls ((rd_T45 l0 x7_1).f0) true _ A5.out).mono ?_);rintro e w' ⟨rfl,⟨nd,rfl⟩⟩;(try first|exact⟨rfl,_,World.drewN_drewN _ _ _⟩|exact⟨rfl,_,Eq.trans (World.drewN_drewN _ _ _) (congrArg (World.drewN _) (Nat.add_assoc _ _ _))⟩))|(go_at_call 29;(with_reducible refine(spec_l1In.calls ((rd_T45 l0 x7_1).f1) 0 2000 true _ A7.out).mono ?_);rintro e w' ⟨rfl,⟨nd,rfl⟩⟩;(try first|exact⟨rfl,_,World.drewN_drewN _ _ _⟩|exact⟨rfl,_,Eq.trans (World.drewN_drewN _ _ _) (congrArg (World.drewN _) (Nat.add_assoc _ _ _))⟩)))
       repeat(go_quiet (first|((with_reducible refine gate_dst (N:=4) rfl ?_);refine box_event ?hg (N:=4) ?hd (cs := #[.int .i64 0,.int .i64 0]) (t:=45) ?hr ?_;(case hd=>rfl);(case hg=>rfl);(case hr=>first|(go_simp;done)|(go_simp;rfl));intro gb314 hg w18 hbox hb;have BK314:=am (hbox);have GW314:=am (ge_ bl hg);have GE314:=am (ge_ bl hg);replace HB:=am (below_step bl hb);clear hb hbox hg;have hcz19_0:=bc BK314.out 0;have hcz19_1:=bc BK314.out 1;have hfz19_0:=blk_frozen BK314.out 0;have hfz19_1:=blk_frozen BK314.out 1)|(go_at_call 38;(with_reducible refine(spec_ntPitch.calls ((rd_T45 l0 x7_1).f0) true _ A5.out).mono ?_);rintro e w' ⟨rfl,⟨nd,rfl⟩⟩;(try first|exact⟨rfl,_,World.drewN_drewN _ _ _⟩|exact⟨rfl,_,Eq.trans (World.drewN_drewN _ _ _) (congrArg (World.drewN _) (Nat.add_assoc _ _ _))⟩))|(go_at_call 29;(with_reducible refine(spec_l1In.calls ((rd_T45 l0 x7_1).f1) 0 2000 true _ A7.out).mono ?_);rintro e w' ⟨rfl,⟨nd,rfl⟩⟩;(try first|exact⟨rfl,_,World.drewN_drewN _ _ _⟩|exact⟨rfl,_,Eq.trans (World.drewN_drewN _ _ _) (congrArg (World.drewN _) (Nat.add_assoc _ _ _))⟩)));try go_wp2_with (first|((with_reducible refine gate_dst (N:=4) rfl ?_);refine box_event ?hg (N:=4) ?hd (cs := #[.int .i64 0,.int .i64 0]) (t:=45) ?hr ?_;(case hd=>rfl);(case hg=>rfl);(case hr=>first|(go_simp;done)|(go_simp;rfl));intro gb314 hg w18 hbox hb;have BK314:=am (hbox);have GW314:=am (ge_ bl hg);have GE314:=am (ge_ bl hg);replace HB:=am (below_step bl hb);clear hb hbox hg;have hcz19_0:=bc BK314.out 0;have hcz19_1:=bc BK314.out 1;have hfz19_0:=blk_frozen BK314.out 0;have hfz19_1:=blk_frozen BK314.out 1)|(go_at_call 38;(with_reducible refine(spec_ntPitch.calls ((rd_T45 l0 x7_1).f0) true _ A5.out).mono ?_);rintro e w' ⟨rfl,⟨nd,rfl⟩⟩;(try first|exact⟨rfl,_,World.drewN_drewN _ _ _⟩|exact⟨rfl,_,Eq.trans (World.drewN_drewN _ _ _) (congrArg (World.drewN _) (Nat.add_assoc _ _ _))⟩))|(go_at_call 29;(with_reducible refine(spec_l1In.calls ((rd_T45 l0 x7_1).f1) 0 2000 true _ A7.out).mono ?_);rintro e w' ⟨rfl,⟨nd,rfl⟩⟩;(try first|exact⟨rfl,_,World.drewN_drewN _ _ _⟩|exact⟨rfl,_,Eq.trans (World.drewN_drewN _ _ _) (congrArg (World.drewN _) (Nat.add_assoc _ _ _))⟩))))
       go_roundg k1
       case measure=>have:=HK1.out;omega
       case rel=>exact⟨(wrap64 (x7_1+1)),fin2,H',⟨by have:=HK1.out;omega⟩,⟨bl⟩⟩
     ·replace c8:=Bool.eq_false_iff.mpr c8
      subst c8
      replace H:=(if_neg Bool.false_ne_true).symm.trans H
      obtain rfl:=Option.some.inj H
      have p313:0≤(x7_1:Int):=od
      have q313:x7_1<(l0.length:Int):=od
      obtain⟨ad313,e313,hx313_0,hx313_1⟩:=at_T45 HR0.out x7_1 p313 q313
      cases e313
      replace hx313_0:=(HB.out.cell (World.block_lt_of_cell? w _ hx313_0)).trans hx313_0
      replace hx313_1:=(HB.out.cell (World.block_lt_of_cell? w _ hx313_1)).trans hx313_1
      replace p313:=eq_true p313
      replace q313:=eq_true q313
      go_wp2_with (first|((with_reducible refine gate_dst (N:=4) rfl ?_);refine box_event ?hg (N:=4) ?hd (cs := #[.int .i64 0,.int .i64 0]) (t:=45) ?hr ?_;(case hd=>rfl);(case hg=>rfl);(case hr=>first|(go_simp;done)|(go_simp;rfl));intro gb314 hg w20 hbox hb;have BK314:=am (hbox);have GW314:=am (ge_ bl hg);have GE314:=am (ge_ bl hg);replace HB:=am (below_step bl hb);clear hb hbox hg;have hcz21_0:=bc BK314.out 0;have hcz21_1:=bc BK314.out 1;have hfz21_0:=blk_frozen BK314.out 0;have hfz21_1:=blk_frozen BK314.out 1)|(go_at_call 38;(with_reducible refine(spec_ntPitch.calls ((rd_T45 l0 x7_1).f0) true _ A5.out).mono ?_);rintro e w' ⟨rfl,⟨nd,rfl⟩⟩;(try first|exact⟨rfl,_,World.drewN_drewN _ _ _⟩|exact⟨rfl,_,Eq.trans (World.drewN_drewN _ _ _) (congrArg (World.drewN _) (Nat.add_assoc _ _ _))⟩))|(go_at_call 29;(with_reducible refine(spec_l1In.calls ((rd_T45 l0 x7_1).f1) 0 2000 false _ A7.out).mono ?_);rintro e w' ⟨rfl,⟨nd,rfl⟩⟩;(try first|exact⟨rfl,_,World.drewN_drewN _ _ _⟩|exact⟨rfl,_,Eq.trans (World.drewN_drewN _ _ _) (congrArg (World.drewN _) (Nat.add_assoc _ _ _))⟩)))
      repeat(go_quiet (first|((with_reducible refine gate_dst (N:=4) rfl ?_);refine box_event ?hg (N:=4) ?hd (cs := #[.int .i64 0,.int .i64 0]) (t:=45) ?hr ?_;(case hd=>rfl);(case hg=>rfl);(case hr=>first|(go_simp;done)|(go_simp;rfl));intro gb314 hg w20 hbox hb;have BK314:=am (hbox);have GW314:=am (ge_ bl hg);have GE314:=am (ge_ bl hg);replace HB:=am (below_step bl hb);clear hb hbox hg;have hcz21_0:=bc BK314.out 0;have hcz21_1:=bc BK314.out 1;have hfz21_0:=blk_frozen BK314.out 0;have hfz21_1:=blk_frozen BK314.out 1)|(go_at_call 38;(with_reducible refine(spec_ntPitch.calls ((rd_T45 l0 x7_1).f0) true _ A5.out).mono ?_);rintro e w' ⟨rfl,⟨nd,rfl⟩⟩;(try first|exact⟨rfl,_,World.drewN_drewN _ _ _⟩|exact⟨rfl,_,Eq.trans (World.drewN_drewN _ _ _) (congrArg (World.drewN _) (Nat.add_assoc _ _ _))⟩))|(go_at_call 29;(with_reducible refine(spec_l1In.calls ((rd_T45 l0 x7_1).f1) 0 2000 false _ A7.out).mono ?_);rintro e w' ⟨rfl,⟨nd,rfl⟩⟩;(try first|exact⟨rfl,_,World.drewN_drewN _ _ _⟩|exact⟨rfl,_,Eq.trans (World.drewN_drewN _ _ _) (congrArg (World.drewN _) (Nat.add_assoc _ _ _))⟩)));try go_wp2_with (first|((with_reducible refine gate_dst (N:=4) rfl ?_);refine box_event ?hg (N:=4) ?hd (cs := #[.int .i64 0,.int .i64 0]) (t:=45) ?hr ?_;(case hd=>rfl);(case hg=>rfl);(case hr=>first|(go_simp;done)|(go_simp;rfl));intro gb314 hg w20 hbox hb;have BK314:=am (hbox);have GW314:=am (ge_ bl hg);have GE314:=am (ge_ bl hg);replace HB:=am (below_step bl hb);clear hb hbox hg;have hcz21_0:=bc BK314.out 0;have hcz21_1:=bc BK314.out 1;have hfz21_0:=blk_frozen BK314.out 0;have hfz21_1:=blk_frozen BK314.out 1)|(go_at_call 38;(with_reducible refine(spec_ntPitch.calls ((rd_T45 l0 x7_1).f0) true _ A5.out).mono ?_);rintro e w' ⟨rfl,⟨nd,rfl⟩⟩;(try first|exact⟨rfl,_,World.drewN_drewN _ _ _⟩|exact⟨rfl,_,Eq.trans (World.drewN_drewN _ _ _) (congrArg (World.drewN _) (Nat.add_assoc _ _ _))⟩))|(go_at_call 29;(with_reducible refine(spec_l1In.calls ((rd_T45 l0 x7_1).f1) 0 2000 false _ A7.out).mono ?_);rintro e w' ⟨rfl,⟨nd,rfl⟩⟩;(try first|exact⟨rfl,_,World.drewN_drewN _ _ _⟩|exact⟨rfl,_,Eq.trans (World.drewN_drewN _ _ _) (congrArg (World.drewN _) (Nat.add_assoc _ _ _))⟩))))
      go_ret
      exact⟨fin1,bl⟩
    ·replace c6:=Bool.eq_false_iff.mpr c6
     subst c6
     replace H:=(if_neg Bool.false_ne_true).symm.trans H
     obtain rfl:=Option.some.inj H
     have p313:0≤(x7_1:Int):=od
     have q313:x7_1<(l0.length:Int):=od
     obtain⟨ad313,e313,hx313_0,hx313_1⟩:=at_T45 HR0.out x7_1 p313 q313
     cases e313
     replace hx313_0:=(HB.out.cell (World.block_lt_of_cell? w _ hx313_0)).trans hx313_0
     replace hx313_1:=(HB.out.cell (World.block_lt_of_cell? w _ hx313_1)).trans hx313_1
     replace p313:=eq_true p313
     replace q313:=eq_true q313
     go_wp2_with (first|((with_reducible refine gate_dst (N:=4) rfl ?_);refine box_event ?hg (N:=4) ?hd (cs := #[.int .i64 0,.int .i64 0]) (t:=45) ?hr ?_;(case hd=>rfl);(case hg=>rfl);(case hr=>first|(go_simp;done)|(go_simp;rfl));intro gb314 hg w22 hbox hb;have BK314:=am (hbox);have GW314:=am (ge_ bl hg);have GE314:=am (ge_ bl hg);replace HB:=am (below_step bl hb);clear hb hbox hg;have hcz23_0:=bc BK314.out 0;have hcz23_1:=bc BK314.out 1;have hfz23_0:=blk_frozen BK314.out 0;have hfz23_1:=blk_frozen BK314.out 1)|(go_at_call 38;(with_reducible refine(spec_ntPitch.calls ((rd_T45 l0 x7_1).f0) false _ A5.out).mono ?_);rintro e w' ⟨rfl,⟨nd,rfl⟩⟩;(try first|exact⟨rfl,_,World.drewN_drewN _ _ _⟩|exact⟨rfl,_,Eq.trans (World.drewN_drewN _ _ _) (congrArg (World.drewN _) (Nat.add_assoc _ _ _))⟩)))
     repeat(go_quiet (first|((with_reducible refine gate_dst (N:=4) rfl ?_);refine box_event ?hg (N:=4) ?hd (cs := #[.int .i64 0,.int .i64 0]) (t:=45) ?hr ?_;(case hd=>rfl);(case hg=>rfl);(case hr=>first|(go_simp;done)|(go_simp;rfl));intro gb314 hg w22 hbox hb;have BK314:=am (hbox);have GW314:=am (ge_ bl hg);have GE314:=am (ge_ bl hg);replace HB:=am (below_step bl hb);clear hb hbox hg;have hcz23_0:=bc BK314.out 0;have hcz23_1:=bc BK314.out 1;have hfz23_0:=blk_frozen BK314.out 0;have hfz23_1:=blk_frozen BK314.out 1)|(go_at_call 38;(with_reducible refine(spec_ntPitch.calls ((rd_T45 l0 x7_1).f0) false _ A5.out).mono ?_);rintro e w' ⟨rfl,⟨nd,rfl⟩⟩;(try first|exact⟨rfl,_,World.drewN_drewN _ _ _⟩|exact⟨rfl,_,Eq.trans (World.drewN_drewN _ _ _) (congrArg (World.drewN _) (Nat.add_assoc _ _ _))⟩)));try go_wp2_with (first|((with_reducible refine gate_dst (N:=4) rfl ?_);refine box_event ?hg (N:=4) ?hd (cs := #[.int .i64 0,.int .i64 0]) (t:=45) ?hr ?_;(case hd=>rfl);(case hg=>rfl);(case hr=>first|(go_simp;done)|(go_simp;rfl));intro gb314 hg w22 hbox hb;have BK314:=am (hbox);have GW314:=am (ge_ bl hg);have GE314:=am (ge_ bl hg);replace HB:=am (below_step bl hb);clear hb hbox hg;have hcz23_0:=bc BK314.out 0;have hcz23_1:=bc BK314.out 1;have hfz23_0:=blk_frozen BK314.out 0;have hfz23_1:=blk_frozen BK314.out 1)|(go_at_call 38;(with_reducible refine(spec_ntPitch.calls ((rd_T45 l0 x7_1).f0) false _ A5.out).mono ?_);rintro e w' ⟨rfl,⟨nd,rfl⟩⟩;(try first|exact⟨rfl,_,World.drewN_drewN _ _ _⟩|exact⟨rfl,_,Eq.trans (World.drewN_drewN _ _ _) (congrArg (World.drewN _) (Nat.add_assoc _ _ _))⟩))))
     go_ret
     exact⟨fin1,bl⟩
   ·have c2b0:=decide_eq_false c2
    clear c2
    obtain rfl:=Option.some.inj H
    go_wp2
    repeat(go_quiet (fail);try go_wp2)
    go_ret
    exact⟨fin1,bl⟩

end Go.Proofs.Ytiekokdlcgpcdaa.PFnStrikes
