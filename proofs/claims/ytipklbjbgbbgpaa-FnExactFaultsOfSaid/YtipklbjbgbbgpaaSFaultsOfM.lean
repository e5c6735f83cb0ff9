/- The walk of laws.markIntSS. No conditions beyond its arguments' being read. -/
import Derived.Test.YtipklbjbgbbgpaaSFaultsOf19
namespace Go.Proofs.Ytipklbjbgbbgpaa.PFnExactFaultsOf
open Go Go.RowKit Go.Proofs.YtipklbjbgbbgpaaW.PrintWords Go.Proofs.YtipklbjbgbbgpaaW.PrintLast Go.Proofs.YtipklbjbgbbgpaaW.PrintMore
set_option linter.unusedVariables false
set_option linter.unusedSimpArgs false
def laws_markIntSS.l0:Nat→List (List Int)→Int→Int→Option (Int×List (List Int))
 | 0,_,_,_=>none
 | k+1,x0,x1,x5=>if x5<(x0.length:Int) then(if 0≤x5 then((laws_markIntS.f k (x0.getD x5.toNat []) x1).bind fun bt=>(laws_markIntSS.l0 k (x0.set x5.toNat bt.2) bt.1 (wrap64 (x5+1)))) else(none)) else(some (x1,x0))
def laws_markIntSS.f (k:Nat) (l0:List (List Int)) (a1:Int):Option (Int×List (List Int)):=laws_markIntSS.l0 k l0 a1 0
set_option maxHeartbeats 8000000 in
set_option maxRecDepth 100000 in
theorem laws_markIntSS.calls (k:Nat) (P0_:Nat→Prop) (u9000_:Value) (l0:List (List Int)) (a1:Int) (r1:Int) (r2:List (List Int)) (w0 w:World) (hB:Below w0.heap.size w0 w) (ho0:Kd.S (Kd.slice 3 (Kd.int .i64)) 22 w w0.heap.size P0_ u9000_ l0) (h:laws_markIntSS.f k l0 a1=some (r1,r2)) :
  Calls Try.prog 26 #[u9000_,.int .i64 a1] w fun e w'=>e = .returned (.int .i64 r1)∧Kd.S (Kd.slice 3 (Kd.int .i64)) 22 w' w0.heap.size P0_ u9000_ r2∧Below w0.heap.size w0 w'∧Kept w w' P0_:=by
 have HO0:=am ho0
 have HK:=am (Kept.refl w P0_)
 have HB:=am hB
 clear hB ho0
 have H':=am (show(laws_markIntSS.l0 k l0 a1 0)=some (r1,r2) from h)
 clear h
 go_enter Try.func26,Try.ntmps26
 go_wp2
 go_loopg [1,5] k (fun kq v1 v5 w'=>∃(x0:List (List Int)) (x1:Int) (x5:Int),v1 = .int .i64 x1∧v5 = .int .i64 x5∧Aside0 (laws_markIntSS.l0 kq x0 x1 x5=some (r1,r2))∧Aside0 (kq≤k)∧Aside0 (Kd.S (Kd.slice 3 (Kd.int .i64)) 22 w' w0.heap.size P0_ u9000_ x0)∧Aside0 (Kept w w' P0_)∧Aside0 (Below w0.heap.size w0 w'))
 case atStart=>exact⟨l0,a1,0,rfl,rfl,H',⟨Nat.le_refl _⟩,HO0,HK,HB⟩
 case round =>
  clear H' HO0 HK HB
  obtain⟨x0,x1,x5,rfl,rfl,HA,HK1,HO,HK,HB⟩:=hrel
  cases gk with
  | zero=>exact absurd HA.out (by simp [laws_markIntSS.l0])
  | succ k1 =>
   have H:=HA.out
   clear HA
   simp only[laws_markIntSS.l0] at H
   rcases itc H with⟨c3,H⟩|⟨c3,H⟩
   ·have c3b0:=decide_eq_true c3
    obtain⟨c4,H⟩:=ifp H
    have c4b0:=decide_eq_true c4
    replace H:=Option.bind_eq_some_iff.mp H
    obtain⟨⟨m1,y⟩,A0,H⟩:=H
    have A:=am A0
    have H':=am (show laws_markIntSS.l0 k1 (x0.set x5.toNat y) m1 (wrap64 (x5+1))=some (r1,r2) from H)
    clear A0 H
    obtain⟨go,co,eo,gb,gl,cl⟩:=Kd.S_form HO.out (by omega)
    subst eo
    obtain⟨oki,c,hcl,hM,hcc,hoki,hH⟩:=Kd.S_lend HO.out [] x5 c4 c3
    obtain⟨u,rfl,hu⟩:=hM
    have hx:wr.cell? ⟨go,x5.toNat,none⟩=some u:=by
     have:=hcc 0 u rfl
     simpa only [show(Kd.slice 3 (Kd.int .i64)).sz=1 from rfl,Nat.mul_one,Nat.add_zero] using this
    have HU:=am hu
    have HH:=am hH
    have HI:=am hoki
    clear hcc hu hH hoki hcl cl gb gl
    replace c3:=eq_true c3
    replace c4:=eq_true c4
    go_wp2_with (first|((with_reducible refine gate_callee (f:=41) rfl ?_);refine goesL_ (some 17) rfl rfl Try.func41 (by kernel_rfl) rfl #[u,.int .i64 x1] rfl (by(try simp only[List.map_toArray,List.map_cons,List.map_nil]);first|done|rfl) ?_;(with_reducible refine(laws_markIntS.calls k1 oki u (x0.getD x5.toNat []) x1 m1 y w0 _ ?side1 ?side2 A.out).mono ?_);(case side1=>exact HB.out);(case side2=>exact HU.out);rintro e w8 ⟨rfl,hy,hb,hkp⟩;refine⟨_,rfl,?_⟩;have n0_:=am (Kd.H_back (Kd.H_kept HH.out hkp (fun _ _ hn=>hn)) (x':=y) (okp:=fun k_=>some k_=u.ownBlock) ⟨u,rfl,Kd.R_tight rfl hy⟩ (fun k_ hk_=>HU.out.1 k_ hk_.symm));have n1_:=am hb;have n2_:=am (Kept.then_ (S:=P0_) HK.out hkp (fun k_ hk_ => .inl (HI.out k_ hk_).1));clear HB HK HO HU HH HI hb hkp hy hx;have HO:=n0_;have HB:=n1_;have HK:=n2_;clear n0_ n1_ n2_))
    go_roundg k1
    case measure=>have:=HK1.out;omega
    case rel=>exact⟨x0.set x5.toNat y,m1,(wrap64 (x5+1)),fin2,fin2,H',⟨by have:=HK1.out;omega⟩,HO,HK,HB⟩
   ·have c3b0:=decide_eq_false c3
    clear c3
    simp only[Option.some.injEq,Prod.mk.injEq] at H
    obtain⟨rfl,rfl⟩:=H
    obtain⟨Ao,co,eo⟩:=Kd.S_slice HO.out
    subst eo
    go_wp2
    go_ret
    exact⟨rfl,HO.out,HB.out,HK.out⟩
end Go.Proofs.Ytipklbjbgbbgpaa.PFnExactFaultsOf
