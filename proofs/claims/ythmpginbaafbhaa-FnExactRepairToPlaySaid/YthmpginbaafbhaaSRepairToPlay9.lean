/- The walks of functions that FnExactRepairToPlay reaches: what they return is what the plain functions of the same names say. Laid by a program of this session after the kit's print. No conditions beyond the arguments' being read. -/
import Derived.Test.YthmpginbaafbhaaSRepairToPlay0
import Derived.Test.YthmpginbaafbhaaSRepairToPlay7
import Derived.Test.YthmpginbaafbhaaSRepairToPlay8
namespace Go.Proofs.Ythmpginbaafbhaa.PFnExactRepairToPlay
open Go.RowKit Go.Proofs.YthmpginbaafbhaaW.PrintWords Go.Proofs.YthmpginbaafbhaaW.PrintLast Go.Proofs.YthmpginbaafbhaaW.PrintMore
attribute [local go_sem] max2_int min2_int max_two min_two max_three min_three max_four min_four   -- for this text's walks alone
set_option linter.unusedVariables false
set_option linter.unusedSimpArgs false

namespace grid
def allB (G:Int→Int→Bool) (op:Bool) (t a b:Int):Bool:=(List.range (b - a).toNat).all fun j=>G t (a+(j:Nat)) == op
theorem allB_stop {G:Int→Int→Bool} {op:Bool} {t a b:Int} (h:¬ a<b):allB G op t a b=true:=by
 unfold allB
 rw[show(b - a).toNat=0 by omega]
 rfl
theorem allB_step {G:Int→Int→Bool} {op:Bool} {t a b:Int} (h:a<b):allB G op t a b=((G t a == op)&&allB G op t (a+1) b):=by
 unfold allB
 rw[show(b - a).toNat=(b - (a+1)).toNat+1 by omega,List.range_succ_eq_map,List.all_cons,List.all_map]
 congr 1
 ·simp
 ·congr 1
  funext j
  show(G t (a+((j+1:Nat):Int)) == op)=(G t (a+1+(j:Int)) == op)
  rw[show a+((j+1:Nat):Int)=a+1+(j:Int) by omega]
def jrY (o:List (List Int)):List Int:=o.getD (o.length - 1) []
def jrJoins (G:Int→Int→Bool) (op:Bool) (fixed each:Int) (y r:List Int):Prop :=
 rd y 0=rd r 0∧wrap64 (wrap64 (rd r 1 - rd y 2)*each)<fixed∧allB G op (rd r 0) (rd y 2) (rd r 1)=true
instance (G:Int→Int→Bool) (op:Bool) (fixed each:Int) (y r:List Int):Decidable (jrJoins G op fixed each y r):=by unfold jrJoins;infer_instance
def jrStep (G:Int→Int→Bool) (op:Bool) (fixed each:Int) (o:List (List Int)) (r:List Int):List (List Int) :=
 if 0<o.length∧jrJoins G op fixed each (jrY o) r then o.set (o.length - 1) ((jrY o).set 2 (rd r 2)) else o ++ [r]
def jr (G:Int→Int→Bool) (op:Bool) (fixed each:Int) (xs:List (List Int)):List (List Int):=xs.foldl (jrStep G op fixed each) []
def jrOne (fixed each:Int) (c:Int) (r:List Int):Int:=wrap64 (c+wrap64 (fixed+wrap64 (each*wrap64 (rd r 2 - rd r 1))))
def jrCost (fixed each:Int) (o:List (List Int)):Int:=o.foldl (jrOne fixed each) 0
def okR (r:List Int):Prop:=r.length=3∧0≤rd r 0∧rd r 0<20∧0≤rd r 1∧rd r 1≤2000∧0≤rd r 2∧rd r 2≤2000
theorem jrStep_ok {G:Int→Int→Bool} {op:Bool} {fixed each:Int} {o:List (List Int)} {r:List Int} (ho:∀ y∈o,okR y) (hr:okR r):∀ y∈jrStep G op fixed each o r,okR y:=by
 intro y hy
 unfold jrStep at hy
 split at hy
 ·rename_i h
  rcases List.mem_or_eq_of_mem_set hy with h1|rfl
  ·exact ho y h1
  ·have hm:okR (jrY o):=by
    refine ho _ ?_
    unfold jrY
    rw[List.getD_eq_getElem?_getD,List.getElem?_eq_getElem (by omega)]
    exact List.getElem_mem _
   obtain⟨h1,h2,h3,h4,h5,_,_⟩:=hm
   have hl:(jrY o).length=3:=h1
   match hq:jrY o,hl with
   | [a,b,c],_ =>
    rw[hq] at h1 h2 h3 h4 h5
    exact⟨rfl,h2,h3,h4,h5,hr.2.2.2.2.2.1,hr.2.2.2.2.2.2⟩
 ·rcases List.mem_append.1 hy with h1|h1
  ·exact ho y h1
  ·rw[List.mem_singleton.1 h1];exact hr
theorem jrStep_len {G:Int→Int→Bool} {op:Bool} {fixed each:Int} {o:List (List Int)} {r:List Int}:(jrStep G op fixed each o r).length≤o.length+1:=by
 unfold jrStep
 split
 ·rw[List.length_set];omega
 ·rw[List.length_append,List.length_singleton];exact Nat.le_refl _
theorem jr_snoc {G:Int→Int→Bool} {op:Bool} {fixed each:Int} (xs:List (List Int)) (r:List Int):jr G op fixed each (xs ++ [r])=jrStep G op fixed each (jr G op fixed each xs) r:=by
 unfold jr
 rw[List.foldl_append]
 rfl
theorem jr_ok {G:Int→Int→Bool} {op:Bool} {fixed each:Int} (xs:List (List Int)) (h:∀ x∈xs,okR x):(∀ y∈jr G op fixed each xs,okR y)∧(jr G op fixed each xs).length≤xs.length:=by
 unfold jr
 have key:∀(xs o:List (List Int)),(∀ x∈xs,okR x)→(∀ y∈o,okR y)→(∀ y∈xs.foldl (jrStep G op fixed each) o,okR y)∧(xs.foldl (jrStep G op fixed each) o).length≤o.length+xs.length:=by
  intro xs
  induction xs with
  | nil=>intro o _ ho;exact⟨ho,Nat.le_refl _⟩
  | cons x xs ih =>
   intro o hx ho
   have:=ih (jrStep G op fixed each o x) (fun z hz=>hx z (List.mem_cons_of_mem _ hz)) (jrStep_ok ho (hx x List.mem_cons_self))
   refine⟨this.1,Nat.le_trans this.2 ?_⟩
   have:=jrStep_len (G:=G) (op:=op) (fixed:=fixed) (each:=each) (o:=o) (r:=x)
   rw[List.length_cons]
   omega
 have:=key xs [] h (fun y hy=>absurd hy List.not_mem_nil)
 exact⟨this.1,by simpa using this.2⟩
end grid
namespace grid
def rjStep (k:Nat) (t:List (List Bool)) (is:Bool) (fixed each:Int) (o:List (List Int)) (x:List Int):Option (List (List Int)) :=
 if x.length=3 then
  if 0<o.length∧rd (jrY o) 0=rd x 0∧wrap64 (wrap64 (rd x 1 - rd (jrY o) 2)*each)<fixed then
   (spec_rpAll.f k t (rd x 0) (rd (jrY o) 2) (rd x 1) is).bind fun q=>some (if q=true then o.set (o.length - 1) ((jrY o).set 2 (rd x 2)) else o ++ [x])
  else some (o ++ [x])
 else none
def rjFold (k:Nat) (t:List (List Bool)) (is:Bool) (fixed each:Int):List (List Int)→List (List Int)→Option (List (List Int))
 | [],o=>some o
 | x :: xs,o=>(rjStep k t is fixed each o x).bind fun o=>rjFold k t is fixed each xs o
theorem rjStep_inv {k:Nat} {t:List (List Bool)} {is:Bool} {fixed each:Int} {o o':List (List Int)} {x:List Int} (h:rjStep k t is fixed each o x=some o') (ho:∀ y∈o,y.length=3):(∀ y∈o',y.length=3)∧o'.length≤o.length+1:=by
 have app:x.length=3→(∀ y∈o ++ [x],y.length=3)∧(o ++ [x]).length≤o.length+1:=fun hx=>⟨fun y hy=>by
  rcases List.mem_append.1 hy with h|h
  ·exact ho y h
  ·rw[List.mem_singleton.1 h];exact hx,by rw[List.length_append,List.length_singleton];exact Nat.le_refl _⟩
 unfold rjStep at h
 by_cases hx:x.length=3
 ·rw[if_pos hx] at h
  split at h
  ·rename_i hj
   obtain⟨q,_,h⟩:=Option.bind_eq_some_iff.1 h
   cases h
   split
   ·refine⟨fun y hy=>?_,by rw[List.length_set];omega⟩
    rcases List.mem_or_eq_of_mem_set hy with h1|rfl
    ·exact ho y h1
    ·rw[List.length_set]
     refine ho _ ?_
     unfold jrY
     rw[List.getD_eq_getElem?_getD,List.getElem?_eq_getElem (by omega)]
     exact List.getElem_mem _
   ·exact app hx
  ·cases h;exact app hx
 ·rw[if_neg hx] at h;cases h
theorem atRow {w:World} {A:Option Addr} {n:Nat} {xs:List (List Int)} (h:Kd.C (Kd.slice 3 (Kd.int .i64)) w A n xs) (i:Int) (h0:0≤i) (h1:i<n):∃ ad A0 c0,A=some ad∧w.cell? (ad.add i.toNat)=some (.slice A0 (xs.getD i.toNat []).length c0)∧(xs.getD i.toNat []).length≤c0∧(Kd.int .i64).C w A0 (xs.getD i.toNat []).length (xs.getD i.toNat []):=by
 obtain⟨ad,c,e,_,hK,hc0⟩:=Kd.C_get h ([]:List Int) i h0 h1
 have hc:∀ j u,c[j]?=some u→w.cell? (ad.add (i.toNat*1+j))=some u:=hc0
 obtain⟨A0,c0,rfl,l0,g0⟩:=hK
 exact⟨ad,A0,c0,e,by have hq:=hc 0 _ rfl;rwa [Nat.mul_one,Nat.add_zero] at hq,l0,g0⟩
end grid
def spec_rpJoin.f (k:Nat) (l0:List (List Int)) (l1:List (S51)) (a2:Bool) (a3:Int) (a4:Int):Option (List (List Int)×Int) :=
 if l0.length≤100000 then(spec_rpOpen.f k l1).bind fun t=>(grid.rjFold k t a2 a3 a4 l0 []).bind fun o=>some (o,grid.jrCost a3 a4 o) else none
namespace grid
end grid
open grid in
set_option maxHeartbeats 16000000 in
set_option maxRecDepth 100000 in
theorem spec_rpJoin.calls (k:Nat) (A0:Option Addr) (c0:Nat) (l0:List (List Int)) (A1:Option Addr) (c1:Nat) (l1:List (S51)) (a2:Bool) (a3:Int) (a4:Int) (r1:List (List Int)) (r2:Int) (w:World) (hr0:Kd.C (Kd.slice 3 (Kd.int .i64)) w A0 l0.length l0) (hc0:l0.length≤c0) (hr1:Kd.C k51 w A1 l1.length l1) (hc1:l1.length≤c1) (h:spec_rpJoin.f k l0 l1 a2 a3 a4=some (r1,r2)) :
  Calls Try.prog 41 #[.slice A0 l0.length c0,.slice A1 l1.length c1,.bool a2,.int .i64 a3,.int .i64 a4] w fun e w'=>∃ v0_:Value,e = .returned (.tuple #[v0_,.int .i64 r2])∧Kd.S (Kd.slice 3 (Kd.int .i64)) 22 w' w.heap.size (fun _=>True) v0_ r1∧Below w.heap.size w w':=by
 unfold spec_rpJoin.f at h
 by_cases hl:l0.length≤100000
 ·rw[if_pos hl] at h
  obtain⟨t,ht,h⟩:=Option.bind_eq_some_iff.1 h
  obtain⟨res,hres,h⟩:=Option.bind_eq_some_iff.1 h
  obtain⟨rfl,rfl⟩:res=r1∧grid.jrCost a3 a4 res=r2:=by cases h;exact⟨rfl,rfl⟩
  clear h
  have HR0:=am hr0
  have HR1:=am hr1
  have HC1:=am hc1
  have HL:=am hl
  have HT:=am ht
  have HF:=am hres
  clear hr0 hr1 hc0 hc1 hl ht hres
  go_enter Try.func41,Try.ntmps41
  go_wp2_with (first|((with_reducible refine gate_callee (f:=61) rfl ?_);refine goesL_ (some 22) rfl rfl Try.func61 (by kernel_rfl) rfl #[.slice A1 l1.length c1] rfl (by(try simp only[List.map_toArray,List.map_cons,List.map_nil]);first|done|rfl) ?_;(with_reducible refine(spec_rpOpen.calls k _ _ l1 t _ ?side1 ?side2 HT.out).mono ?_);(case side1=>exact HR1.out);(case side2=>exact HC1.out);rintro e w1 ⟨vt,rfl,ho0,hb⟩;refine⟨_,rfl,?_⟩;have HTS:=am ho0;have HBW:=am hb;clear ho0 hb))
  obtain⟨At,ct,et,htl,htc⟩:=Kd.S_reads HTS.out
  subst et
  have HTC:=am htc
  have HTL:=am htl
  have HX:=am (Kd.C_below HR0.out HBW.out)
  have HB:=am (Below.refl w1.heap.size w1)
  clear htc htl HR0 HR1 HC1 HTS
  have HO:=am (show Kd.S (Kd.slice 3 (Kd.int .i64)) 22 w1 w1.heap.size (fun _=>True) (.slice none 0 0) ([]:List (List Int)) from Kd.S_nil _ _ _ _ _)
  go_loopw [13,25] (fun v13 v25 wr=>∃(i:Int) (o:List (List Int)),Aside0 (0≤i∧i≤l0.length)∧v25 = .int .i64 i∧Aside0 (rjFold k t a2 a3 a4 (l0.drop i.toNat) o=some res)∧Aside0 (∀ y∈o,y.length=3)∧Aside0 (o.length≤i.toNat)∧Aside0 (Kd.S (Kd.slice 3 (Kd.int .i64)) 22 wr w1.heap.size (fun _=>True) v13 o)∧Aside0 (Below w1.heap.size w1 wr)) (fun _ v25 _=>((l0.length:Int) - intOf v25).toNat)
  case atStart=>exact⟨0,[],⟨by omega⟩,rfl,⟨by simpa using HF.out⟩,⟨by simp⟩,⟨Nat.zero_le _⟩,HO,HB⟩
  case round =>
   clear HO HB HF
   obtain⟨i,o,HI,rfl,HF,HO3,HOI,HO,HB⟩:=hrel
   obtain⟨Ao,co,eo⟩:=Kd.S_slice HO.out
   subst eo
   by_cases q:i<(l0.length:Int)
   ·have p:0≤i:=HI.out.1
    have hlt:i.toNat<l0.length:=by omega
    have HIL:=am (show 0≤i∧i<l0.length from⟨p,q⟩)
    have HOL:=am (show o.length≤100000 from by have:=HOI.out;have:=HL.out;omega)
    obtain⟨ad,Ax,cx,eA,hxc,hxl,hxr⟩:=atRow (Kd.C_below HX.out HB.out) i p q
    subst eA
    have hf:=HF.out
    rw[List.drop_eq_getElem_cons hlt] at hf
    have ex:l0[i.toNat]=l0.getD i.toNat []:=by rw[List.getD_eq_getElem?_getD,List.getElem?_eq_getElem hlt];rfl
    rw[ex] at hf
    obtain⟨x,hx⟩:∃ x,x=l0.getD i.toNat []:=⟨_,rfl⟩
    rw[← hx] at hf hxc hxl hxr
    clear ex hx
    obtain⟨o',hst,hf⟩:=Option.bind_eq_some_iff.1 (show(rjStep k t a2 a3 a4 o x).bind (fun o=>rjFold k t a2 a3 a4 (l0.drop (i.toNat+1)) o)=some res from hf)
    have HF':=am (show rjFold k t a2 a3 a4 (l0.drop (i+1).toNat) o'=some res from by rw[show(i+1).toNat=i.toNat+1 by omega];exact hf)
    have hinv:=rjStep_inv hst HO3.out
    have HO3':=am hinv.1
    have HOI':=am (show o'.length≤(i+1).toNat from by have:=hinv.2;have:=HOI.out;omega)
    have hx3:x.length=3:=by
     by_cases h3:x.length=3
     ·exact h3
     ·unfold rjStep at hst;rw[if_neg h3] at hst;cases hst
    have hst:(if 0<o.length∧rd (jrY o) 0=rd x 0∧wrap64 (wrap64 (rd x 1 - rd (jrY o) 2)*a4)<a3 then(spec_rpAll.f k t (rd x 0) (rd (jrY o) 2) (rd x 1) a2).bind (fun q=>some (if q=true then o.set (o.length - 1) ((jrY o).set 2 (rd x 2)) else o ++ [x])) else some (o ++ [x]))=some o':=by unfold rjStep at hst;rw[if_pos hx3] at hst;exact hst
    have HOWN:=am (show spec_l1Own.f x=some x from by unfold spec_l1Own.f;simp [hx3])
    rw[hx3] at hxc hxl hxr
    obtain⟨xd,exd,hxr0⟩:=Kd.at_int hxr 0 (by omega) (by omega)
    obtain⟨xd1,exd1,hxr1⟩:=Kd.at_int hxr 1 (by omega) (by omega)
    obtain⟨xd2,exd2,hxr2⟩:=Kd.at_int hxr 2 (by omega) (by omega)
    cases exd
    cases exd1
    cases exd2
    have HOC:=am (show ∀ W:World,Kd.C (Kd.int .i64) W (some xd) 3 x→Calls Try.prog 63 #[.slice (some xd) 3 cx] W fun e w'=>∃ v0_:Value,e = .returned (v0_)∧Kd.R (Kd.int .i64) 3 w' W.heap.size (fun _=>True) v0_ x∧Below W.heap.size W w' from fun W hW=>by
     have h1:=spec_l1Own.calls (some xd) cx x x W (by rw[hx3];exact hW) (by rw[hx3];exact hxl) HOWN.out
     rw[hx3] at h1
     exact h1)
    rw[show((0:Int)).toNat=0 from rfl,Addr.add_zero'] at hxr0
    simp only[show(1:Int).toNat=1 from rfl,Nat.reduceMul,Nat.reduceEqDiff,Go.Addr.add,↓reduceIte] at hxr1
    simp only[show(2:Int).toNat=2 from rfl,Nat.reduceMul,Nat.reduceEqDiff,Go.Addr.add,↓reduceIte] at hxr2
    have HXR:=am hxr
    have HTW:=am (Kd.C_below HTC.out HB.out)
    clear hinv hf hlt hxr hxl hx3
    have qb:decide (i<(l0.length:Int))=true:=decide_eq_true q
    replace p:=eq_true p
    replace q:=eq_true q
    by_cases ho0:o.length=0
    ·have hg1:decide (0<o.length)=false:=decide_eq_false (by omega)
     rw[if_neg (fun h=>by omega)] at hst
     cases hst
     clear ho0
     iterate 2 ((try go_quiet (fail));(try go_wp2_with (first|((with_reducible refine gate_callee (f:=63) rfl ?_);refine goesL_ (some 79) rfl rfl Try.func63 (by kernel_rfl) rfl #[.slice (some xd) 3 cx] rfl (by(try simp only[List.map_toArray,List.map_cons,List.map_nil]);first|done|rfl) ?_;(with_reducible refine(HOC.out _ ?side1).mono ?_);(case side1=>repeat(first|exact HXR.out|(with_reducible refine Kd.C_alloc ?_ _)|(with_reducible refine Kd.C_drewN ?_ _)|(with_reducible refine Kd.C_drew ?_)));rintro e w6 ⟨v6,rfl,hr6,hb6⟩;obtain⟨A6,c6,e6⟩:=Kd.R_slice hr6;subst e6;refine⟨_,rfl,?_⟩;have HR6:=am (show Kd.R (Kd.int .i64) 3 w6 wr.heap.size (fun _=>True) (.slice A6 x.length c6) x from hr6);have HO6:=am (show Kd.S (Kd.slice 3 (Kd.int .i64)) 22 w6 w1.heap.size (fun k=>True∧¬ (wr.heap.size≤k)) (.slice Ao o.length co) o from Kd.S_below (Kd.S_mono (Kd.S_bound HO.out) (fun k hk=>⟨trivial,fun h=>by have:=hk.2.2.1;omega⟩)) (show Below wr.heap.size wr w6 from below_step (by repeat(first|exact Below.refl _ _|apply below_alloc|apply pw_below_drewN|apply below_drew1)) hb6));have HB6:=am (show Below w1.heap.size w1 w6 from below_step (by repeat(first|exact HB.out|apply below_alloc|apply pw_below_drewN|apply below_drew1)) hb6);clear hr6 hb6)|((with_reducible refine gate_builtin (b := .append) (xs := #[.tmp 77,.tmp 80]) rfl ?_);at_builtin;refine Kd.S_append (Kd.slice 3 (Kd.int .i64)) (w0:=w1) w1.heap.size rfl (.tmp 77) (.tmp 80) 71 22 (.slice none 0 0) 24 rfl Try.underlying71 info22 rfl (by decide) (by omega) (.slice Ao o.length co) o x [.slice A6 x.length c6] (fun _=>True) (fun k=>wr.heap.size≤k) rfl rfl ?aP ?aK ?aF ?aO ?aB ?aS ?aL ?_;(case aF=>exact fun _ _=>trivial);(case aO=>exact HO6.out);(case aB=>exact HB6.out);(case aS=>exact below_size HB6.out);(case aP=>exact Kd.M_row (Kd.R_lower (Kd.R_mono (Kd.R_bound HR6.out) (fun k hk=>hk.2.1)) (below_size HB.out)));(case aK=>exact fun k hk=>⟨trivial,fun e=>((Kd.S_R HO6.out).1 k e.symm).2 hk⟩);(case aL=>have:=HOL.out;omega);intro v7 w7 ho hb hg_ hat;have HO7:=am ho;have HB7:=am hb;clear ho hb hg_ hat))))
     go_roundw
     case rel=>exact⟨i+1,o ++ [x],⟨by have:=HIL.out;omega⟩,(by first|rfl|(congr 1;have:=HIL.out;have:=HL.out;unfold wrap64;omega)),HF',HO3',HOI',HO7,HB7⟩
     case measure=>have h1:=HIL.out;have h2:=HL.out;have hw:wrap64 (i+1)=i+1:=(by unfold wrap64;omega);simp [intOf,hw];omega
    ·have hL:wrap64 ((o.length:Int) - 1)=(o.length:Int) - 1:=by have:=HOL.out;unfold wrap64;omega
     obtain⟨go,co',eo,_⟩:=Kd.S_form HO.out (by omega)
     cases eo
     have p1:0≤wrap64 ((o.length:Int) - 1):=by omega
     have q1:wrap64 ((o.length:Int) - 1)<(o.length:Int):=by omega
     obtain⟨oki,c,hcl,hM,hcc,hoki,hback⟩:=Kd.S_borrow HO.out [] (wrap64 ((o.length:Int) - 1)) p1 q1
     have hy:o.getD (wrap64 ((o.length:Int) - 1)).toNat []=jrY o:=by unfold jrY;congr 1;omega
     rw[hy] at hM
     have hyl:(jrY o).length=3:=HO3.out _ (by
      unfold jrY
      rw[List.getD_eq_getElem?_getD,List.getElem?_eq_getElem (by omega)]
      exact List.getElem_mem _)
     obtain⟨hv',ec,hrowy⟩:=hM
     have hcy:=hcc 0 hv' (by rw[ec];rfl)
     rw[add_plain,show(wrap64 ((o.length:Int) - 1)).toNat*(Kd.slice 3 (Kd.int .i64)).sz+0=(wrap64 ((o.length:Int) - 1)).toNat from by rw[show(Kd.slice 3 (Kd.int .i64)).sz=1 from rfl];omega] at hcy
     obtain⟨gy,cy,ey,gyb,gyl,cyl⟩:=Kd.R_form hrowy (by omega)
     subst ey
     rw[hyl] at hrowy hcy ec
     have hy0:wr.cell? ⟨gy,0,none⟩=some (.int .i64 (rd (jrY o) 0)):=(Kd.R_celln 0 hrowy 0 (by omega) (by omega)).1
     have hy1:wr.cell? ⟨gy,1,none⟩=some (.int .i64 (rd (jrY o) 1)):=(Kd.R_celln 0 hrowy 1 (by omega) (by omega)).1
     have hy2:wr.cell? ⟨gy,2,none⟩=some (.int .i64 (rd (jrY o) 2)):=(Kd.R_celln 0 hrowy 2 (by omega) (by omega)).1
     have hyf:wr.frozen? ⟨gy,2,none⟩=false:=(Kd.R_celln 0 hrowy 2 (by omega) (by omega)).2
     have HYY:=am hrowy
     have HGY:=am gyb
     have HBK:=am @hback
     have HLL:=am (show(wrap64 ((o.length:Int) - 1)).toNat=o.length - 1 from by omega)
     have HGI:=am (show oki gy from hrowy.1 gy (by simp [Value.ownBlock]))
     have HEC:=am ec
     have hop:0<o.length:=by omega
     have hg1:decide (0<o.length)=true:=decide_eq_true hop
     replace p1:=eq_true p1
     replace q1:=eq_true q1
     clear ho0 hL hcl hcc hoki hback hy hyl hrowy gyb gyl cyl ec
     by_cases hc1:rd (jrY o) 0=rd x 0
     ·have hd1:decide (rd (jrY o) 0=rd x 0)=true:=decide_eq_true hc1
      have hd1':(rd (jrY o) 0 == rd x 0)=true:=beq_iff_eq.2 hc1
      by_cases hc2:wrap64 (wrap64 (rd x 1 - rd (jrY o) 2)*a4)<a3
      ·have hd2:decide (wrap64 (wrap64 (rd x 1 - rd (jrY o) 2)*a4)<a3)=true:=decide_eq_true hc2
       rw[if_pos ⟨hop,hc1,hc2⟩] at hst
       obtain⟨qv,hal,hst⟩:=Option.bind_eq_some_iff.1 hst
       have HAL:=am hal
       clear hc1 hc2 hal hop
       cases qv with
       | false =>
        cases hst
        iterate 2 ((try go_quiet (first|(go_at_call 62;(with_reducible refine(spec_rpAll.calls k _ _ t (rd x 0) (rd (jrY o) 2) (rd x 1) a2 false _ ?s1 ?s2 HAL.out).mono ?_);(case s1=>repeat(first|exact HTW.out|(with_reducible refine Kd.C_alloc ?_ _)|(with_reducible refine Kd.C_drewN ?_ _)|(with_reducible refine Kd.C_drew ?_)));(case s2=>exact HTL.out);rintro e w' ⟨rfl,⟨nd,rfl⟩⟩;exact⟨rfl,_,World.drewN_drewN _ _ _⟩)));(try go_wp2_with (first|((with_reducible refine gate_callee (f:=63) rfl ?_);refine goesL_ (some 79) rfl rfl Try.func63 (by kernel_rfl) rfl #[.slice (some xd) 3 cx] rfl (by(try simp only[List.map_toArray,List.map_cons,List.map_nil]);first|done|rfl) ?_;(with_reducible refine(HOC.out _ ?side1).mono ?_);(case side1=>repeat(first|exact HXR.out|(with_reducible refine Kd.C_alloc ?_ _)|(with_reducible refine Kd.C_drewN ?_ _)|(with_reducible refine Kd.C_drew ?_)));rintro e w6 ⟨v6,rfl,hr6,hb6⟩;obtain⟨A6,c6,e6⟩:=Kd.R_slice hr6;subst e6;refine⟨_,rfl,?_⟩;have HR6:=am (show Kd.R (Kd.int .i64) 3 w6 wr.heap.size (fun _=>True) (.slice A6 x.length c6) x from hr6);have HO6:=am (show Kd.S (Kd.slice 3 (Kd.int .i64)) 22 w6 w1.heap.size (fun k=>True∧¬ (wr.heap.size≤k)) (.slice (some ⟨go,0,none⟩) o.length co) o from Kd.S_below (Kd.S_mono (Kd.S_bound HO.out) (fun k hk=>⟨trivial,fun h=>by have:=hk.2.2.1;omega⟩)) (show Below wr.heap.size wr w6 from below_step (by repeat(first|exact Below.refl _ _|apply below_alloc|apply pw_below_drewN|apply below_drew1)) hb6));have HB6:=am (show Below w1.heap.size w1 w6 from below_step (by repeat(first|exact HB.out|apply below_alloc|apply pw_below_drewN|apply below_drew1)) hb6);clear hr6 hb6)|((with_reducible refine gate_builtin (b := .append) (xs := #[.tmp 77,.tmp 80]) rfl ?_);at_builtin;refine Kd.S_append (Kd.slice 3 (Kd.int .i64)) (w0:=w1) w1.heap.size rfl (.tmp 77) (.tmp 80) 71 22 (.slice none 0 0) 24 rfl Try.underlying71 info22 rfl (by decide) (by omega) (.slice (some ⟨go,0,none⟩) o.length co) o x [.slice A6 x.length c6] (fun _=>True) (fun k=>wr.heap.size≤k) rfl rfl ?aP ?aK ?aF ?aO ?aB ?aS ?aL ?_;(case aF=>exact fun _ _=>trivial);(case aO=>exact HO6.out);(case aB=>exact HB6.out);(case aS=>exact below_size HB6.out);(case aP=>exact Kd.M_row (Kd.R_lower (Kd.R_mono (Kd.R_bound HR6.out) (fun k hk=>hk.2.1)) (below_size HB.out)));(case aK=>exact fun k hk=>⟨trivial,fun e=>((Kd.S_R HO6.out).1 k e.symm).2 hk⟩);(case aL=>have:=HOL.out;omega);intro v7 w7 ho hb hg_ hat;have HO7:=am ho;have HB7:=am hb;clear ho hb hg_ hat))))
        go_roundw
        case rel=>exact⟨i+1,o ++ [x],⟨by have:=HIL.out;omega⟩,(by first|rfl|(congr 1;have:=HIL.out;have:=HL.out;unfold wrap64;omega)),HF',HO3',HOI',HO7,HB7⟩
        case measure=>have h1:=HIL.out;have h2:=HL.out;have hw:wrap64 (i+1)=i+1:=(by unfold wrap64;omega);simp [intOf,hw];omega
       | true =>
        cases hst
        go_wp2
        go_quiet (first|(go_at_call 62;(with_reducible refine(spec_rpAll.calls k _ _ t (rd x 0) (rd (jrY o) 2) (rd x 1) a2 true _ ?s1 ?s2 HAL.out).mono ?_);(case s1=>repeat(first|exact HTW.out|(with_reducible refine Kd.C_alloc ?_ _)|(with_reducible refine Kd.C_drewN ?_ _)|(with_reducible refine Kd.C_drew ?_)));(case s2=>exact HTL.out);rintro e w' ⟨rfl,⟨nd,rfl⟩⟩;exact⟨rfl,_,World.drewN_drewN _ _ _⟩))
        go_wp2
        have HPU:=am (Kd.R_putg (Kd.R_drewN HYY.out (nq)) 2 (rd x 2))
        have HGW:=am (show wr.grownBy ((wr.drewN (nq)).setCell ⟨gy,2,none⟩ (.int .i64 (rd x 2))) (some gy) from⟨HPU.out.2.os,HPU.out.2.tape,HPU.out.2.output,HPU.out.2.size,HPU.out.2.block⟩)
        have HO2:=am (HBK.out (w1:=((wr.drewN (nq)).setCell ⟨gy,2,none⟩ (.int .i64 (rd x 2)))) HGW.out (fun k hk=>by cases hk;exact HGI.out) (x':=(jrY o).set 2 (rd x 2)) ⟨_,HEC.out,HPU.out.1⟩)
        have HB2:=am (show Below w1.heap.size w1 ((wr.drewN (nq)).setCell ⟨gy,2,none⟩ (.int .i64 (rd x 2))) from below_set (pw_below_drewN HB.out (nq)) HGY.out)
        rw[HLL.out] at HO2
        clear HPU HGW
        go_roundw
        case rel=>exact⟨i+1,o.set (o.length - 1) ((jrY o).set 2 (rd x 2)),⟨by have:=HIL.out;omega⟩,(by first|rfl|(congr 1;have:=HIL.out;have:=HL.out;unfold wrap64;omega)),HF',HO3',HOI',HO2,HB2⟩
        case measure=>have h1:=HIL.out;have h2:=HL.out;have hw:wrap64 (i+1)=i+1:=(by unfold wrap64;omega);simp [intOf,hw];omega
      ·have hd2:decide (wrap64 (wrap64 (rd x 1 - rd (jrY o) 2)*a4)<a3)=false:=decide_eq_false hc2
       rw[if_neg (fun h=>hc2 h.2.2)] at hst
       cases hst
       clear hc1 hc2 hop
       iterate 2 ((try go_quiet (fail));(try go_wp2_with (first|((with_reducible refine gate_callee (f:=63) rfl ?_);refine goesL_ (some 79) rfl rfl Try.func63 (by kernel_rfl) rfl #[.slice (some xd) 3 cx] rfl (by(try simp only[List.map_toArray,List.map_cons,List.map_nil]);first|done|rfl) ?_;(with_reducible refine(HOC.out _ ?side1).mono ?_);(case side1=>repeat(first|exact HXR.out|(with_reducible refine Kd.C_alloc ?_ _)|(with_reducible refine Kd.C_drewN ?_ _)|(with_reducible refine Kd.C_drew ?_)));rintro e w6 ⟨v6,rfl,hr6,hb6⟩;obtain⟨A6,c6,e6⟩:=Kd.R_slice hr6;subst e6;refine⟨_,rfl,?_⟩;have HR6:=am (show Kd.R (Kd.int .i64) 3 w6 wr.heap.size (fun _=>True) (.slice A6 x.length c6) x from hr6);have HO6:=am (show Kd.S (Kd.slice 3 (Kd.int .i64)) 22 w6 w1.heap.size (fun k=>True∧¬ (wr.heap.size≤k)) (.slice (some ⟨go,0,none⟩) o.length co) o from Kd.S_below (Kd.S_mono (Kd.S_bound HO.out) (fun k hk=>⟨trivial,fun h=>by have:=hk.2.2.1;omega⟩)) (show Below wr.heap.size wr w6 from below_step (by repeat(first|exact Below.refl _ _|apply below_alloc|apply pw_below_drewN|apply below_drew1)) hb6));have HB6:=am (show Below w1.heap.size w1 w6 from below_step (by repeat(first|exact HB.out|apply below_alloc|apply pw_below_drewN|apply below_drew1)) hb6);clear hr6 hb6)|((with_reducible refine gate_builtin (b := .append) (xs := #[.tmp 77,.tmp 80]) rfl ?_);at_builtin;refine Kd.S_append (Kd.slice 3 (Kd.int .i64)) (w0:=w1) w1.heap.size rfl (.tmp 77) (.tmp 80) 71 22 (.slice none 0 0) 24 rfl Try.underlying71 info22 rfl (by decide) (by omega) (.slice (some ⟨go,0,none⟩) o.length co) o x [.slice A6 x.length c6] (fun _=>True) (fun k=>wr.heap.size≤k) rfl rfl ?aP ?aK ?aF ?aO ?aB ?aS ?aL ?_;(case aF=>exact fun _ _=>trivial);(case aO=>exact HO6.out);(case aB=>exact HB6.out);(case aS=>exact below_size HB6.out);(case aP=>exact Kd.M_row (Kd.R_lower (Kd.R_mono (Kd.R_bound HR6.out) (fun k hk=>hk.2.1)) (below_size HB.out)));(case aK=>exact fun k hk=>⟨trivial,fun e=>((Kd.S_R HO6.out).1 k e.symm).2 hk⟩);(case aL=>have:=HOL.out;omega);intro v7 w7 ho hb hg_ hat;have HO7:=am ho;have HB7:=am hb;clear ho hb hg_ hat))))
       go_roundw
       case rel=>exact⟨i+1,o ++ [x],⟨by have:=HIL.out;omega⟩,(by first|rfl|(congr 1;have:=HIL.out;have:=HL.out;unfold wrap64;omega)),HF',HO3',HOI',HO7,HB7⟩
       case measure=>have h1:=HIL.out;have h2:=HL.out;have hw:wrap64 (i+1)=i+1:=(by unfold wrap64;omega);simp [intOf,hw];omega
     ·have hd1:decide (rd (jrY o) 0=rd x 0)=false:=decide_eq_false hc1
      have hd1':(rd (jrY o) 0 == rd x 0)=false:=beq_eq_false_iff_ne.2 hc1
      rw[if_neg (fun h=>hc1 h.2.1)] at hst
      cases hst
      clear hc1 hop
      iterate 2 ((try go_quiet (fail));(try go_wp2_with (first|((with_reducible refine gate_callee (f:=63) rfl ?_);refine goesL_ (some 79) rfl rfl Try.func63 (by kernel_rfl) rfl #[.slice (some xd) 3 cx] rfl (by(try simp only[List.map_toArray,List.map_cons,List.map_nil]);first|done|rfl) ?_;(with_reducible refine(HOC.out _ ?side1).mono ?_);(case side1=>repeat(first|exact HXR.out|(with_reducible refine Kd.C_alloc ?_ _)|(with_reducible refine Kd.C_drewN ?_ _)|(with_reducible refine Kd.C_drew ?_)));rintro e w6 ⟨v6,rfl,hr6,hb6⟩;obtain⟨A6,c6,e6⟩:=Kd.R_slice hr6;subst e6;refine⟨_,rfl,?_⟩;have HR6:=am (show Kd.R (Kd.int .i64) 3 w6 wr.heap.size (fun _=>True) (.slice A6 x.length c6) x from hr6);have HO6:=am (show Kd.S (Kd.slice 3 (Kd.int .i64)) 22 w6 w1.heap.size (fun k=>True∧¬ (wr.heap.size≤k)) (.slice (some ⟨go,0,none⟩) o.length co) o from Kd.S_below (Kd.S_mono (Kd.S_bound HO.out) (fun k hk=>⟨trivial,fun h=>by have:=hk.2.2.1;omega⟩)) (show Below wr.heap.size wr w6 from below_step (by repeat(first|exact Below.refl _ _|apply below_alloc|apply pw_below_drewN|apply below_drew1)) hb6));have HB6:=am (show Below w1.heap.size w1 w6 from below_step (by repeat(first|exact HB.out|apply below_alloc|apply pw_below_drewN|apply below_drew1)) hb6);clear hr6 hb6)|((with_reducible refine gate_builtin (b := .append) (xs := #[.tmp 77,.tmp 80]) rfl ?_);at_builtin;refine Kd.S_append (Kd.slice 3 (Kd.int .i64)) (w0:=w1) w1.heap.size rfl (.tmp 77) (.tmp 80) 71 22 (.slice none 0 0) 24 rfl Try.underlying71 info22 rfl (by decide) (by omega) (.slice (some ⟨go,0,none⟩) o.length co) o x [.slice A6 x.length c6] (fun _=>True) (fun k=>wr.heap.size≤k) rfl rfl ?aP ?aK ?aF ?aO ?aB ?aS ?aL ?_;(case aF=>exact fun _ _=>trivial);(case aO=>exact HO6.out);(case aB=>exact HB6.out);(case aS=>exact below_size HB6.out);(case aP=>exact Kd.M_row (Kd.R_lower (Kd.R_mono (Kd.R_bound HR6.out) (fun k hk=>hk.2.1)) (below_size HB.out)));(case aK=>exact fun k hk=>⟨trivial,fun e=>((Kd.S_R HO6.out).1 k e.symm).2 hk⟩);(case aL=>have:=HOL.out;omega);intro v7 w7 ho hb hg_ hat;have HO7:=am ho;have HB7:=am hb;clear ho hb hg_ hat))))
      go_roundw
      case rel=>exact⟨i+1,o ++ [x],⟨by have:=HIL.out;omega⟩,(by first|rfl|(congr 1;have:=HIL.out;have:=HL.out;unfold wrap64;omega)),HF',HO3',HOI',HO7,HB7⟩
      case measure=>have h1:=HIL.out;have h2:=HL.out;have hw:wrap64 (i+1)=i+1:=(by unfold wrap64;omega);simp [intOf,hw];omega
   ·have qb:decide (i<(l0.length:Int))=false:=decide_eq_false q
    have hJ:o=res:=by
     have h1:=HI.out
     have h2:=HF.out
     rw[List.drop_eq_nil_of_le (by omega)] at h2
     exact Option.some.inj h2
    have HOL:=am (show o.length≤100000 from by have:=HOI.out;have:=HL.out;have:=HI.out;omega)
    subst hJ
    clear q HF HX HI HOI
    go_wp2
    go_loopw [18,85] (fun v18 v85 wq=>∃ m c:Int,Aside0 (0≤m∧m≤o.length)∧v18 = .int .i64 c∧v85 = .int .i64 m∧Aside0 (c=jrCost a3 a4 (o.take m.toNat))∧Aside0 (Kd.S (Kd.slice 3 (Kd.int .i64)) 22 wq w1.heap.size (fun _=>True) (.slice Ao o.length co) o)∧Aside0 (Below w1.heap.size w1 wq)) (fun _ v85 _=>((o.length:Int) - intOf v85).toNat)
    case atStart=>exact⟨0,0,⟨by omega⟩,rfl,rfl,⟨rfl⟩,HO,HB⟩
    case round =>
     clear HO HB
     obtain⟨m,c,HM,rfl,rfl,HC,HO,HB⟩:=hrel
     by_cases q:m<(o.length:Int)
     ·have p:0≤m:=HM.out.1
      have HML:=am (show 0≤m∧m<o.length from⟨p,q⟩)
      have hlt:m.toNat<o.length:=by omega
      obtain⟨go,co',eo,_⟩:=Kd.S_form HO.out (by omega)
      cases eo
      obtain⟨oki,c1,hcl,hM,hcc,hoki,hback⟩:=Kd.S_borrow HO.out [] m p q
      have hy:o[m.toNat]?=some (o.getD m.toNat []):=by rw[List.getD_eq_getElem?_getD,List.getElem?_eq_getElem hlt];rfl
      obtain⟨y,ey⟩:∃ y,y=o.getD m.toNat []:=⟨_,rfl⟩
      rw[← ey] at hM hy
      have HY:=am hy
      have hyl:=HO3.out y (List.mem_of_getElem? hy)
      obtain⟨hv',ec,hrowy⟩:=hM
      have hcy:=hcc 0 hv' (by rw[ec];rfl)
      rw[add_plain,show m.toNat*(Kd.slice 3 (Kd.int .i64)).sz+0=m.toNat from by rw[show(Kd.slice 3 (Kd.int .i64)).sz=1 from rfl];omega] at hcy
      obtain⟨gy,cy,ey',gyb,gyl,cyl⟩:=Kd.R_form hrowy (by omega)
      subst ey'
      rw[hyl] at hrowy hcy
      have hy1:wr.cell? ⟨gy,1,none⟩=some (.int .i64 (rd y 1)):=(Kd.R_celln 0 hrowy 1 (by omega) (by omega)).1
      have hy2:wr.cell? ⟨gy,2,none⟩=some (.int .i64 (rd y 2)):=(Kd.R_celln 0 hrowy 2 (by omega) (by omega)).1
      have qb:decide (m<(o.length:Int))=true:=decide_eq_true q
      replace p:=eq_true p
      replace q:=eq_true q
      clear hcl hcc hoki hback hy hyl hrowy gyb gyl cyl ec hlt ey
      go_wp2
      go_quiet (fail)
      go_wp2
      go_roundw
      case rel=>exact⟨m+1,jrOne a3 a4 c y,⟨by have:=HML.out;omega⟩,rfl,(by first|rfl|(congr 1;have:=HML.out;have:=HOL.out;unfold wrap64;omega)),⟨by have h0:=HML.out.1;rw[show(m+1).toNat=m.toNat+1 by omega,List.take_add_one,HY.out];show _=jrCost a3 a4 (o.take m.toNat ++ [y]);unfold jrCost;rw[List.foldl_append];show _=jrOne a3 a4 (jrCost a3 a4 (o.take m.toNat)) y;rw[← HC.out]⟩,⟨by first|exact HO.out|exact Kd.S_drewN HO.out _⟩,⟨by first|exact HB.out|exact pw_below_drewN HB.out _⟩⟩
      case measure=>have h1:=HML.out;have h2:=HOL.out;have hw:wrap64 (m+1)=m+1:=(by unfold wrap64;omega);simp [intOf,hw];omega
     ·have qb:decide (m<(o.length:Int))=false:=decide_eq_false q
      have HE:=am (show jrCost a3 a4 o=c from by
       have h1:=HM.out
       rw[HC.out,show m.toNat=o.length by omega,List.take_length])
      clear q
      go_wp2
      go_ret2
      rw[HE.out]
      exact⟨_,rfl,Kd.S_lower HO.out (below_size HBW.out),below_step HBW.out HB.out⟩
 ·rw[if_neg hl] at h;cases h

end Go.Proofs.Ythmpginbaafbhaa.PFnExactRepairToPlay
