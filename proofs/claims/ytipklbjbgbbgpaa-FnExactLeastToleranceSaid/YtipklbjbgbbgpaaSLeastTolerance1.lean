/- The walks of functions that FnExactLeastTolerance reaches: what they return is what the plain functions of the same names say. Laid by a program of this session after the kit's print. No conditions beyond the arguments' being read. -/
import Derived.Test.YtipklbjbgbbgpaaSLeastTolerance0
namespace Go.Proofs.Ytipklbjbgbbgpaa.PFnExactLeastTolerance
open Go.RowKit Go.Proofs.YtipklbjbgbbgpaaW.PrintWords Go.Proofs.YtipklbjbgbbgpaaW.PrintLast Go.Proofs.YtipklbjbgbbgpaaW.PrintMore
attribute [local go_sem] max2_int min2_int max_two min_two max_three min_three max_four min_four   -- for this text's walks alone
set_option linter.unusedVariables false
set_option linter.unusedSimpArgs false

def laws_szIntS.f (l0:List Int) (a1:Int):Option (Int):=if(wrap64 (a1 - (l0.length:Int)))<0 then(some (-1)) else(some (wrap64 (a1 - (l0.length:Int))))
set_option maxHeartbeats 8000000 in
set_option maxRecDepth 100000 in
theorem laws_szIntS.calls (A0:Option Addr) (c0:Nat) (l0:List Int) (a1:Int) (r:Int) (w:World) (hr0:Kd.C (Kd.int .i64) w A0 l0.length l0) (hc0:l0.length≤c0) (h:laws_szIntS.f l0 a1=some r) :
  Calls Try.prog 28 #[.slice A0 l0.length c0,.int .i64 a1] w fun e w'=>e = .returned (.int .i64 r)∧Drawn0 w w':=by
 have HR0:=am hr0
 have HC0:=am hc0
 clear hr0 hc0
 have H:(if(wrap64 (a1 - (l0.length:Int)))<0 then(some (-1)) else(some (wrap64 (a1 - (l0.length:Int)))))=some r:=h
 clear h
 rcases itc H with⟨c3,H⟩|⟨c3,H⟩
 ·have c3b0:=decide_eq_true c3
  clear c3
  obtain rfl:=Option.some.inj H
  go_enter Try.func28,Try.ntmps28
  go_wp2
  go_ret
  exact⟨by first|rfl|(simp;done)|(simp [*];done),by repeat(first|exact Drawn0.refl _|apply Drawn0.step)⟩
 ·have c3b0:=decide_eq_false c3
  clear c3
  obtain rfl:=Option.some.inj H
  go_enter Try.func28,Try.ntmps28
  go_wp2
  go_ret
  exact⟨by first|rfl|(simp;done)|(simp [*];done),by repeat(first|exact Drawn0.refl _|apply Drawn0.step)⟩

def laws_szInstrument.f (l0_0:List Int) (a0_1:Int) (a1:Int):Option (Int):=(laws_szIntS.f l0_0 a1).bind fun t102=>(if t102<0 then(some (-1)) else(some t102))
set_option maxHeartbeats 8000000 in
set_option maxRecDepth 100000 in
theorem laws_szInstrument.calls (A0_0:Option Addr) (c0_0:Nat) (l0_0:List Int) (a0_1:Int) (a1:Int) (r:Int) (w:World) (hr0_0:Kd.C (Kd.int .i64) w A0_0 l0_0.length l0_0) (hc0_0:l0_0.length≤c0_0) (h:laws_szInstrument.f l0_0 a0_1 a1=some r) :
  Calls Try.prog 6 #[.agg #[.slice A0_0 l0_0.length c0_0,.int .i64 a0_1],.int .i64 a1] w fun e w'=>e = .returned (.int .i64 r)∧Below w.heap.size w w':=by
 have hu24:=Try.underlying24
 have HR0_0:=am hr0_0
 have HC0_0:=am hc0_0
 clear hr0_0 hc0_0
 have HB:=am (Below.refl w.heap.size w)
 have H:((laws_szIntS.f l0_0 a1).bind fun t102=>(if t102<0 then(some (-1)) else(some t102)))=some r:=h
 clear h
 obtain⟨t102,A3,H⟩:=bnd H
 rcases itc H with⟨c4,H⟩|⟨c4,H⟩
 ·have c4b0:=decide_eq_true c4
  clear c4
  obtain rfl:=Option.some.inj H
  go_enter Try.func6,Try.ntmps6
  go_wp2_with (first|((with_reducible refine gate_dst (N:=2) rfl ?_);refine box_event ?hg (N:=2) ?hd (cs := #[.slice A0_0 l0_0.length c0_0,.int .i64 a0_1]) (t:=24) ?hr ?_;(case hd=>rfl);(case hg=>rfl);(case hr=>first|(go_simp;done)|(go_simp;rfl));intro gb101 hg w5 hbox hb;have BK101:=am (hbox);have GW101:=am (ge_ bl hg);have GE101:=am (ge_ bl hg);replace HB:=am (below_step bl hb);clear hb hbox hg;have hcz6_0:=bc BK101.out 0;have hcz6_1:=bc BK101.out 1;have hfz6_0:=blk_frozen BK101.out 0;have hfz6_1:=blk_frozen BK101.out 1)|((with_reducible refine gate_callee (f:=28) rfl ?_);refine goesL_ (some 8) rfl rfl Try.func28 (by kernel_rfl) rfl #[.slice A0_0 l0_0.length c0_0,.int .i64 a1] rfl tl ?_;(with_reducible refine(laws_szIntS.calls _ _ l0_0 a1 t102 _ ?side1 ?side2 A3.out).mono ?_);(case side1=>exact cup (Kd.C_below HR0_0.out HB.out));(case side2=>exact HC0_0.out);rintro e w' ⟨rfl,⟨nd,rfl⟩⟩;refine⟨_,rfl,?_⟩))
  go_ret
  exact⟨fin1,bl⟩
 ·have c4b0:=decide_eq_false c4
  clear c4
  obtain rfl:=Option.some.inj H
  go_enter Try.func6,Try.ntmps6
  go_wp2_with (first|((with_reducible refine gate_dst (N:=2) rfl ?_);refine box_event ?hg (N:=2) ?hd (cs := #[.slice A0_0 l0_0.length c0_0,.int .i64 a0_1]) (t:=24) ?hr ?_;(case hd=>rfl);(case hg=>rfl);(case hr=>first|(go_simp;done)|(go_simp;rfl));intro gb101 hg w7 hbox hb;have BK101:=am (hbox);have GW101:=am (ge_ bl hg);have GE101:=am (ge_ bl hg);replace HB:=am (below_step bl hb);clear hb hbox hg;have hcz8_0:=bc BK101.out 0;have hcz8_1:=bc BK101.out 1;have hfz8_0:=blk_frozen BK101.out 0;have hfz8_1:=blk_frozen BK101.out 1)|((with_reducible refine gate_callee (f:=28) rfl ?_);refine goesL_ (some 8) rfl rfl Try.func28 (by kernel_rfl) rfl #[.slice A0_0 l0_0.length c0_0,.int .i64 a1] rfl tl ?_;(with_reducible refine(laws_szIntS.calls _ _ l0_0 a1 t102 _ ?side1 ?side2 A3.out).mono ?_);(case side1=>exact cup (Kd.C_below HR0_0.out HB.out));(case side2=>exact HC0_0.out);rintro e w' ⟨rfl,⟨nd,rfl⟩⟩;refine⟨_,rfl,?_⟩))
  go_ret
  exact⟨fin1,bl⟩

def laws_szNoteS.f (l0:List (S64)) (a1:Int):Option (Int):=if(wrap64 (a1 - (l0.length:Int)))<0 then(some (-1)) else(some (wrap64 (a1 - (l0.length:Int))))
set_option maxHeartbeats 8000000 in
set_option maxRecDepth 100000 in
theorem laws_szNoteS.calls (A0:Option Addr) (c0:Nat) (l0:List (S64)) (a1:Int) (r:Int) (w:World) (hr0:Kd.C k64 w A0 l0.length l0) (hc0:l0.length≤c0) (h:laws_szNoteS.f l0 a1=some r) :
  Calls Try.prog 7 #[.slice A0 l0.length c0,.int .i64 a1] w fun e w'=>e = .returned (.int .i64 r)∧Drawn0 w w':=by
 have HR0:=am hr0
 have HC0:=am hc0
 clear hr0 hc0
 have H:(if(wrap64 (a1 - (l0.length:Int)))<0 then(some (-1)) else(some (wrap64 (a1 - (l0.length:Int)))))=some r:=h
 clear h
 rcases itc H with⟨c3,H⟩|⟨c3,H⟩
 ·have c3b0:=decide_eq_true c3
  clear c3
  obtain rfl:=Option.some.inj H
  go_enter Try.func7,Try.ntmps7
  go_wp2
  go_ret
  exact⟨by first|rfl|(simp;done)|(simp [*];done),by repeat(first|exact Drawn0.refl _|apply Drawn0.step)⟩
 ·have c3b0:=decide_eq_false c3
  clear c3
  obtain rfl:=Option.some.inj H
  go_enter Try.func7,Try.ntmps7
  go_wp2
  go_ret
  exact⟨by first|rfl|(simp;done)|(simp [*];done),by repeat(first|exact Drawn0.refl _|apply Drawn0.step)⟩

def laws_szHoleS.f (l0:List (S68)) (a1:Int):Option (Int):=if(wrap64 (a1 - (l0.length:Int)))<0 then(some (-1)) else(some (wrap64 (a1 - (l0.length:Int))))
set_option maxHeartbeats 8000000 in
set_option maxRecDepth 100000 in
theorem laws_szHoleS.calls (A0:Option Addr) (c0:Nat) (l0:List (S68)) (a1:Int) (r:Int) (w:World) (hr0:Kd.C k68 w A0 l0.length l0) (hc0:l0.length≤c0) (h:laws_szHoleS.f l0 a1=some r) :
  Calls Try.prog 8 #[.slice A0 l0.length c0,.int .i64 a1] w fun e w'=>e = .returned (.int .i64 r)∧Drawn0 w w':=by
 have HR0:=am hr0
 have HC0:=am hc0
 clear hr0 hc0
 have H:(if(wrap64 (a1 - (l0.length:Int)))<0 then(some (-1)) else(some (wrap64 (a1 - (l0.length:Int)))))=some r:=h
 clear h
 rcases itc H with⟨c3,H⟩|⟨c3,H⟩
 ·have c3b0:=decide_eq_true c3
  clear c3
  obtain rfl:=Option.some.inj H
  go_enter Try.func8,Try.ntmps8
  go_wp2
  go_ret
  exact⟨by first|rfl|(simp;done)|(simp [*];done),by repeat(first|exact Drawn0.refl _|apply Drawn0.step)⟩
 ·have c3b0:=decide_eq_false c3
  clear c3
  obtain rfl:=Option.some.inj H
  go_enter Try.func8,Try.ntmps8
  go_wp2
  go_ret
  exact⟨by first|rfl|(simp;done)|(simp [*];done),by repeat(first|exact Drawn0.refl _|apply Drawn0.step)⟩

def laws_toIntS.l0:Nat→List Int→List Int→Int→Option (List Int)
 | 0,_,_,_=>none
 | k+1,x0,x3,x4=>if x4<(x0.length:Int) then(if 0≤x4 then(if x4<(x3.length:Int) then(laws_toIntS.l0 k x0 (x3.set (x4:Int).toNat (rd x0 x4)) (wrap64 (x4+1))) else(none)) else(none)) else(some x3)
def laws_toIntS.f (k:Nat) (l0:List Int):Option (List Int):=if 0≤(l0.length:Int) then(if((l0.length:Int):Int).toNat≤35184372088832 then(laws_toIntS.l0 k l0 (List.replicate ((l0.length:Int):Int).toNat 0) 0) else(none)) else(none)
set_option maxHeartbeats 8000000 in
set_option maxRecDepth 100000 in
theorem laws_toIntS.calls (k:Nat) (A0:Option Addr) (c0:Nat) (l0:List Int) (r:List Int) (w:World) (hr0:Kd.C (Kd.int .i64) w A0 l0.length l0) (hc0:l0.length≤c0) (h:laws_toIntS.f k l0=some r) :
  Calls Try.prog 31 #[.slice A0 l0.length c0] w fun e w'=>∃ v0_:Value,e = .returned (v0_)∧Kd.R (Kd.int .i64) 3 w' w.heap.size (fun _=>True) v0_ r∧Below w.heap.size w w':=by
 have HR0:=am hr0
 have HC0:=am hc0
 clear hr0 hc0
 have HB:=am (Below.refl w.heap.size w)
 have H:(if 0≤(l0.length:Int) then(if((l0.length:Int):Int).toNat≤35184372088832 then(laws_toIntS.l0 k l0 (List.replicate ((l0.length:Int):Int).toNat 0) 0) else(none)) else(none))=some r:=h
 clear h
 obtain⟨c2,H⟩:=ifp H
 have c2b0:=eq_true c2
 have c2b1:decide (0≤(l0.length:Int))=true:=decide_eq_true c2
 clear c2
 obtain⟨c3,H⟩:=ifp H
 have c3b0:=eq_true c3
 have c3b1:decide (((l0.length:Int):Int).toNat≤35184372088832)=true:=decide_eq_true c3
 clear c3
 obtain⟨y103,hy103⟩:∃ y_:List Int,y_=(List.replicate ((l0.length:Int):Int).toNat 0):=⟨_,rfl⟩
 replace H:(laws_toIntS.l0 k l0 y103 0)=some r:=by subst hy103;exact H
 have Ny103:=am hy103
 clear hy103
 have H':=am H
 clear H
 go_enter Try.func31,Try.ntmps31
 go_wp2_with (first|((with_reducible refine gate_dst (N:=7) rfl ?_);refine Kd.R_make (Kd.int .i64) _ 3 rfl (N:=7) rfl 22 _ _ rfl (l0.length:Int) rfl rfl Try.underlying22 (.int .i64 0) 8 info3 rfl (by decide) (by omega) 0 (ok:=fun _=>True) (okp:=fun _=>True) rfl (fun _ hk=>hk) trivial (od) (Nat.le_trans (Nat.mul_le_mul_right _ (od:(l0.length:Int).toNat≤35184372088832)) (by omega)) (Below.refl _ _) (Nat.le_refl _) ?_;intro v104 w4 ho5 hb hg_ hnew_;clear hg_ hnew_;(first|rw[← Ny103.out] at ho5|(simp only[Int.reduceToNat] at ho5;rw[← Ny103.out] at ho5));have HO105:=am (Kd.R_lower ho5 (below_size bl));replace HB:=am (below_step bl hb);clear hb ho5))
 go_loopg [4] k (fun kq v4 w'=>∃(x3_1:List Int) (x4_1:Int),v4 = .int .i64 x4_1∧Aside0 (laws_toIntS.l0 kq l0 x3_1 x4_1=some r)∧Aside0 (kq≤k)∧Aside0 (Kd.R (Kd.int .i64) 3 w' w.heap.size (fun _=>True) v104 x3_1)∧Aside0 (Below w.heap.size w w'))
 case atStart=>exact⟨(y103),(0),fin2,H',⟨Nat.le_refl _⟩,⟨rup HO105.out⟩,⟨bl⟩⟩
 case round =>
  clear H'
  try clear c2
  try clear c2b0
  try clear c2b1
  try clear p2
  try clear c3
  try clear c3b0
  try clear c3b1
  obtain⟨x3_1,x4_1,rfl,HA,HK1,HO_3,HB⟩:=hrel
  cases gk with
  | zero=>exact absurd HA.out (by simp [laws_toIntS.l0])
  | succ k1 =>
   have H:=HA.out
   clear HA
   simp only[laws_toIntS.l0] at H
   rcases itc H with⟨c6,H⟩|⟨c6,H⟩
   ·have c6b0:=decide_eq_true c6
    clear c6
    obtain⟨c7b0,H⟩:=ifb H
    obtain⟨c8b0,H⟩:=ifb H
    obtain⟨y107,hy107⟩:∃ y_:List Int,y_=(x3_1.set (x4_1:Int).toNat (rd l0 x4_1)):=⟨_,rfl⟩
    replace H:(laws_toIntS.l0 k1 l0 y107 (wrap64 (x4_1+1)))=some r:=by subst hy107;exact H
    have Ny107:=am hy107
    clear hy107
    have H':=am H
    clear H
    have p106:0≤(x4_1:Int):=od
    have q106:x4_1<(l0.length:Int):=od
    obtain⟨ad106,e106,hx106_0⟩:=Kd.at_int HR0.out x4_1 p106 q106
    cases e106
    replace hx106_0:=(HB.out.cell (World.block_lt_of_cell? w _ hx106_0)).trans hx106_0
    replace p106:=eq_true p106
    replace q106:=eq_true q106
    have p9:0≤(x4_1:Int):=od
    have q9:(x4_1:Int)<((x3_1.length:Int):Int):=od
    obtain⟨go9,co9,eo9,gb9,gl9,cl9,HG9⟩:=Kd.R_form HO_3.out (by omega)
    (first|cases eo9|(injection eo9 with ea_ en_ ec_;(first|subst ea_|(injection ea_ with ea_;subst ea_));subst ec_;clear en_))
    have GB9:=am gb9
    have GG9:=am HG9
    clear gb9 gl9 HG9
    obtain⟨hx9_0,hf9_0⟩:=Kd.R_celln 0 HO_3.out (x4_1:Int) p9 q9
    replace p9:=eq_true p9
    replace q9:=eq_true q9
    have HP10:=Kd.R_putg HO_3.out (x4_1:Int) (rd l0 x4_1)
    go_wp2_with (first|((with_reducible refine gate_store (t:=3) (p:=20) rfl ?_);refine store_event (t:=3) (p:=20) (v:=?vo_w11) (w1:=(wr.setCell ⟨go9,(x4_1:Int).toNat,none⟩ (.int .i64 (rd l0 x4_1)))) ?hg ?ho ?hn ?hr ?_;(case ho=>rfl);(case hg=>rfl);(case hn=>rfl);(case hr=>first|(go_simp;done)|(go_simp;rfl));intro w11 hw;have hg:wr.grownBy w11 (some go9):=(by rw[hw];exact HP10.2);have hp_:Kd.R (Kd.int .i64) 3 w11 w.heap.size (fun _=>True) (.slice (some ⟨go9,0,none⟩) x3_1.length co9) y107:=(by rw[hw,Ny107.out];exact HP10.1);clear HP10;replace HO_3:=am (hp_);replace HB:=am ((by rw[hw];exact below_set (HB.out) GB9.out:Below w.heap.size w w11));clear hg hw hp_))
    go_roundg k1
    case measure=>have:=HK1.out;omega
    case rel=>exact⟨(y107),(wrap64 (x4_1+1)),fin2,H',⟨by have:=HK1.out;omega⟩,⟨rup HO_3.out⟩,⟨bl⟩⟩
   ·have c6b0:=decide_eq_false c6
    clear c6
    obtain rfl:=Option.some.inj H
    go_wp2
    go_ret
    exact⟨_,fin1,by(with_reducible repeat(first|apply Kd.R_alloc|apply Kd.R_drewN|apply Kd.R_drew));exact HO_3.out,bl⟩

def laws_toInstrument.f (k:Nat) (l0_0:List Int) (a0_1:Int):Option (List Int×Int):=(laws_toIntS.f k l0_0).bind fun t111=>(some (t111,a0_1))
set_option maxHeartbeats 8000000 in
set_option maxRecDepth 100000 in
theorem laws_toInstrument.calls (k:Nat) (A0_0:Option Addr) (c0_0:Nat) (l0_0:List Int) (a0_1:Int) (r1:List Int) (r2:Int) (w:World) (hr0_0:Kd.C (Kd.int .i64) w A0_0 l0_0.length l0_0) (hc0_0:l0_0.length≤c0_0) (h:laws_toInstrument.f k l0_0 a0_1=some (r1,r2)) :
  Calls Try.prog 10 #[.agg #[.slice A0_0 l0_0.length c0_0,.int .i64 a0_1]] w fun e w'=>∃ v0_:Value,e = .returned (.agg #[v0_,.int .i64 r2])∧Kd.R (Kd.int .i64) 3 w' w.heap.size (fun _=>True) v0_ r1∧Below w.heap.size w w':=by
 have hu24:=Try.underlying24
 have hu34:=Try.underlying34
 have HR0_0:=am hr0_0
 have HC0_0:=am hc0_0
 clear hr0_0 hc0_0
 have HB:=am (Below.refl w.heap.size w)
 have H:((laws_toIntS.f k l0_0).bind fun t111=>(some (t111,a0_1)))=some (r1,r2):=h
 clear h
 replace H:=Option.bind_eq_some_iff.mp H
 obtain⟨t111,A20,H⟩:=H
 replace H:(some (t111,a0_1))=some (r1,r2):=H
 have A2:=am A20
 clear A20
 simp only[Option.some.injEq,Prod.mk.injEq] at H
 obtain⟨rfl,rfl⟩:=H
 go_enter Try.func10,Try.ntmps10
 go_wp2_with (first|((with_reducible refine gate_dst (N:=1) rfl ?_);refine box_event ?hg (N:=1) ?hd (cs := #[.slice A0_0 l0_0.length c0_0,.int .i64 a0_1]) (t:=24) ?hr ?_;(case hd=>rfl);(case hg=>rfl);(case hr=>first|(go_simp;done)|(go_simp;rfl));intro gb108 hg w3 hbox hb;have BK108:=am (hbox);have GW108:=am (ge_ bl hg);have GE108:=am (ge_ bl hg);replace HB:=am (below_step bl hb);clear hb hbox hg)|((with_reducible refine gate_dst (N:=2) rfl ?_);refine box_event ?hg (N:=2) ?hd (cs := #[.slice none 0 0,.int .i64 0]) (t:=34) ?hr ?_;(case hd=>rfl);(case hg=>rfl);(case hr=>first|(go_simp;done)|(go_simp;rfl));intro gb109 hg w4 hbox hb;have BK109:=am (hbox);have GW109:=am (ge_ bl hg);have GE109:=am (ge_ bl hg);replace HB:=am (below_step bl hb);have NB108_109:=am (nl (bup BK108.out) hg);have NB109_108:=am (ng (bup BK108.out) hg);replace BK108:=am (blk_below (bup BK108.out) hb);clear hb hbox hg)|((with_reducible refine gate_dst (N:=3) rfl ?_);refine box_event ?hg (N:=3) ?hd (cs := #[.slice none 0 0,.int .i64 0]) (t:=34) ?hr ?_;(case hd=>rfl);(case hg=>rfl);(case hr=>first|(go_simp;done)|(go_simp;rfl));intro gb110 hg w5 hbox hb;have BK110:=am (hbox);have GW110:=am (ge_ bl hg);have GE110:=am (ge_ bl hg);replace HB:=am (below_step bl hb);have NB108_110:=am (nl (bup BK108.out) hg);have NB110_108:=am (ng (bup BK108.out) hg);replace BK108:=am (blk_below (bup BK108.out) hb);have NB109_110:=am (nl (bup BK109.out) hg);have NB110_109:=am (ng (bup BK109.out) hg);replace BK109:=am (blk_below (bup BK109.out) hb);clear hb hbox hg;have hnb6:=NB108_109.out;have hnc6:=NB109_108.out;have hnb7:=NB108_110.out;have hnc7:=NB110_108.out;have hcz8_0:=bc BK108.out 0;have hcz8_1:=bc BK108.out 1;have hfz8_0:=blk_frozen BK108.out 0;have hfz8_1:=blk_frozen BK108.out 1)|((with_reducible refine gate_callee (f:=31) rfl ?_);refine goesL_ (some 6) rfl rfl Try.func31 (by kernel_rfl) rfl #[.slice A0_0 l0_0.length c0_0] rfl tl ?_;(with_reducible refine(laws_toIntS.calls k _ _ l0_0 t111 _ ?side1 ?side2 A2.out).mono ?_);(case side1=>exact cup (Kd.C_below HR0_0.out HB.out));(case side2=>exact HC0_0.out);rintro e w9 ⟨v112,rfl,ho0,hb⟩;refine⟨_,rfl,?_⟩;have HO113:=am (Kd.R_lower ho0 (below_size bl));replace BK108:=am (blk_below (bup BK108.out) hb);replace BK109:=am (blk_below (bup BK109.out) hb);replace BK110:=am (blk_below (bup BK110.out) hb);replace HB:=am (below_step bl hb);(try clear hb);(try clear ho0);obtain⟨Ao10,co10,eo10⟩:=Kd.R_slice HO113.out;subst eo10;have hnb11:=NB110_109.out;have hnc11:=NB109_110.out;have hcz12_0:=bc BK110.out 0;have hcz12_1:=bc BK110.out 1;have hfz12_0:=blk_frozen BK110.out 0;have hfz12_1:=blk_frozen BK110.out 1;have hcz13_0:=bc BK108.out 0;have hcz13_1:=bc BK108.out 1;have hfz13_0:=blk_frozen BK108.out 0;have hfz13_1:=blk_frozen BK108.out 1;have hcz14_0:=bc BK109.out 0;have hcz14_1:=bc BK109.out 1;have hfz14_0:=blk_frozen BK109.out 0;have hfz14_1:=blk_frozen BK109.out 1))
 refine bodyPost_ret (results_cell_row rfl _ _ gb109 34 #[.slice Ao10 t111.length co10,.int .i64 a0_1] (0,0) _ rfl (by(with_reducible repeat(first|refine bN_ ?_ _|refine bD_ ?_|refine bA_ ?_ _));refine blk_put (cs := #[.slice Ao10 t111.length co10,.int .i64 0]) ?_ 1 _ rfl;(with_reducible repeat(first|refine bN_ ?_ _|refine bD_ ?_|refine bA_ ?_ _));refine blk_put (cs := #[.slice none 0 0,.int .i64 0]) ?_ 0 _ rfl;(with_reducible repeat(first|refine bN_ ?_ _|refine bD_ ?_|refine bA_ ?_ _));refine blk_far ?_ NB109_110.out _;(with_reducible repeat(first|refine bN_ ?_ _|refine bD_ ?_|refine bA_ ?_ _));refine blk_far ?_ NB109_110.out _;exact bup BK109.out) Try.underlying34 rfl (by kernel_rfl)) rfl ?_
 exact⟨_,fin1,rup (Kd.R_mono (Kd.R_far (p:=⟨gb109,1,none⟩) (Kd.R_far (p:=⟨gb109,0,none⟩) (Kd.R_far (p:=⟨gb110,1,none⟩) (Kd.R_far (p:=⟨gb110,0,none⟩) (Kd.R_types (Kd.R_types HO113.out BK110.out (by decide)) BK109.out (by decide)) (fun _ hk=>hk.1.2) (.slice Ao10 t111.length co10)) (fun _ hk=>hk.1.2) (.int .i64 a0_1)) (fun _ hk=>hk.2) (.slice Ao10 t111.length co10)) (fun _ hk=>hk.2) (.int .i64 a0_1)) (fun _ hk=>trivial)),bl⟩

def laws_toNote.f (a0_0:Int) (a0_1:Int) (a0_2:Int):Option (Int×Int×Int):=some (a0_0,a0_1,a0_2)
set_option maxHeartbeats 8000000 in
set_option maxRecDepth 100000 in
theorem laws_toNote.calls (a0_0:Int) (a0_1:Int) (a0_2:Int) (r1:Int) (r2:Int) (r3:Int) (w:World) (h:laws_toNote.f a0_0 a0_1 a0_2=some (r1,r2,r3)) :
  Calls Try.prog 32 #[.agg #[.int .i64 a0_0,.int .i64 a0_1,.int .i64 a0_2]] w fun e w'=>e = .returned (.agg #[.int .i64 r1,.int .i64 r2,.int .i64 r3])∧Below w.heap.size w w':=by
 have hu64:=Try.underlying64
 have hu62:=Try.underlying62
 have HB:=am (Below.refl w.heap.size w)
 have H:(some (a0_0,a0_1,a0_2))=some (r1,r2,r3):=h
 clear h
 simp only[Option.some.injEq,Prod.mk.injEq] at H
 obtain⟨rfl,rfl,rfl⟩:=H
 go_enter Try.func32,Try.ntmps32
 go_wp2_with (first|((with_reducible refine gate_dst (N:=1) rfl ?_);refine box_event ?hg (N:=1) ?hd (cs := #[.int .i64 a0_0,.int .i64 a0_1,.int .i64 a0_2]) (t:=64) ?hr ?_;(case hd=>rfl);(case hg=>rfl);(case hr=>first|(go_simp;done)|(go_simp;rfl));intro gb114 hg w2 hbox hb;have BK114:=am (hbox);have GW114:=am (ge_ bl hg);have GE114:=am (ge_ bl hg);replace HB:=am (below_step bl hb);clear hb hbox hg)|((with_reducible refine gate_dst (N:=2) rfl ?_);refine box_event ?hg (N:=2) ?hd (cs := #[.int .i64 0,.int .i64 0,.int .i64 0]) (t:=62) ?hr ?_;(case hd=>rfl);(case hg=>rfl);(case hr=>first|(go_simp;done)|(go_simp;rfl));intro gb115 hg w3 hbox hb;have BK115:=am (hbox);have GW115:=am (ge_ bl hg);have GE115:=am (ge_ bl hg);replace HB:=am (below_step bl hb);have NB114_115:=am (nl (bup BK114.out) hg);have NB115_114:=am (ng (bup BK114.out) hg);replace BK114:=am (blk_below (bup BK114.out) hb);clear hb hbox hg)|((with_reducible refine gate_dst (N:=3) rfl ?_);refine box_event ?hg (N:=3) ?hd (cs := #[.int .i64 0,.int .i64 0,.int .i64 0]) (t:=62) ?hr ?_;(case hd=>rfl);(case hg=>rfl);(case hr=>first|(go_simp;done)|(go_simp;rfl));intro gb116 hg w4 hbox hb;have BK116:=am (hbox);have GW116:=am (ge_ bl hg);have GE116:=am (ge_ bl hg);replace HB:=am (below_step bl hb);have NB114_116:=am (nl (bup BK114.out) hg);have NB116_114:=am (ng (bup BK114.out) hg);replace BK114:=am (blk_below (bup BK114.out) hb);have NB115_116:=am (nl (bup BK115.out) hg);have NB116_115:=am (ng (bup BK115.out) hg);replace BK115:=am (blk_below (bup BK115.out) hb);clear hb hbox hg;have hnb5:=NB114_115.out;have hnc5:=NB115_114.out;have hnb6:=NB114_116.out;have hnc6:=NB116_114.out;have hcz7_0:=bc BK114.out 0;have hcz7_1:=bc BK114.out 1;have hcz7_2:=bc BK114.out 2;have hfz7_0:=blk_frozen BK114.out 0;have hfz7_1:=blk_frozen BK114.out 1;have hfz7_2:=blk_frozen BK114.out 2;have hnb8:=NB116_115.out;have hnc8:=NB115_116.out;have hcz9_0:=bc BK116.out 0;have hcz9_1:=bc BK116.out 1;have hcz9_2:=bc BK116.out 2;have hfz9_0:=blk_frozen BK116.out 0;have hfz9_1:=blk_frozen BK116.out 1;have hfz9_2:=blk_frozen BK116.out 2;have hcz10_0:=bc BK115.out 0;have hcz10_1:=bc BK115.out 1;have hcz10_2:=bc BK115.out 2;have hfz10_0:=blk_frozen BK115.out 0;have hfz10_1:=blk_frozen BK115.out 1;have hfz10_2:=blk_frozen BK115.out 2))
 refine bodyPost_ret (results_cell_row rfl _ _ gb115 62 #[.int .i64 a0_0,.int .i64 a0_1,.int .i64 a0_2] (0,0) _ rfl (by(with_reducible repeat(first|refine bN_ ?_ _|refine bD_ ?_|refine bA_ ?_ _));refine blk_put (cs := #[.int .i64 a0_0,.int .i64 a0_1,.int .i64 0]) ?_ 2 _ rfl;(with_reducible repeat(first|refine bN_ ?_ _|refine bD_ ?_|refine bA_ ?_ _));refine blk_put (cs := #[.int .i64 a0_0,.int .i64 0,.int .i64 0]) ?_ 1 _ rfl;(with_reducible repeat(first|refine bN_ ?_ _|refine bD_ ?_|refine bA_ ?_ _));refine blk_put (cs := #[.int .i64 0,.int .i64 0,.int .i64 0]) ?_ 0 _ rfl;(with_reducible repeat(first|refine bN_ ?_ _|refine bD_ ?_|refine bA_ ?_ _));refine blk_far ?_ NB115_116.out _;(with_reducible repeat(first|refine bN_ ?_ _|refine bD_ ?_|refine bA_ ?_ _));refine blk_far ?_ NB115_116.out _;(with_reducible repeat(first|refine bN_ ?_ _|refine bD_ ?_|refine bA_ ?_ _));refine blk_far ?_ NB115_116.out _;exact bup BK115.out) Try.underlying62 rfl (by kernel_rfl)) rfl ?_
 exact⟨fin1,bl⟩

def laws_toNoteS.l0:Nat→List (S64)→List (S62)→Int→Option ((List (S62)))
 | 0,_,_,_=>none
 | k+1,x0,x3,x4=>if x4<(x0.length:Int) then(if 0≤x4 then((laws_toNote.f ((rd_T64 x0 x4).f0) ((rd_T64 x0 x4).f1) ((rd_T64 x0 x4).f2)).bind fun bt121=>(if x4<(x3.length:Int) then(laws_toNoteS.l0 k x0 (x3.set (x4:Int).toNat (⟨bt121.1,bt121.2.1,bt121.2.2⟩:S62)) (wrap64 (x4+1))) else(none))) else(none)) else(some x3)
def laws_toNoteS.f (k:Nat) (l0:List (S64)):Option ((List (S62))):=if 0≤(l0.length:Int) then(if((l0.length:Int):Int).toNat≤11728124029610 then(laws_toNoteS.l0 k l0 (List.replicate ((l0.length:Int):Int).toNat z62) 0) else(none)) else(none)
set_option maxHeartbeats 8000000 in
set_option maxRecDepth 100000 in
theorem laws_toNoteS.calls (k:Nat) (A0:Option Addr) (c0:Nat) (l0:List (S64)) (r:List (S62)) (w:World) (hr0:Kd.C k64 w A0 l0.length l0) (hc0:l0.length≤c0) (h:laws_toNoteS.f k l0=some r) :
  Calls Try.prog 11 #[.slice A0 l0.length c0] w fun e w'=>∃ v0_:Value,e = .returned (v0_)∧Kd.R k62 62 w' w.heap.size (fun _=>True) v0_ r∧Below w.heap.size w w':=by
 have hu64:=Try.underlying64
 have hu62:=Try.underlying62
 have HR0:=am hr0
 have HC0:=am hc0
 clear hr0 hc0
 have HB:=am (Below.refl w.heap.size w)
 have H:(if 0≤(l0.length:Int) then(if((l0.length:Int):Int).toNat≤11728124029610 then(laws_toNoteS.l0 k l0 (List.replicate ((l0.length:Int):Int).toNat z62) 0) else(none)) else(none))=some r:=h
 clear h
 obtain⟨c2,H⟩:=ifp H
 have c2b0:=eq_true c2
 have c2b1:decide (0≤(l0.length:Int))=true:=decide_eq_true c2
 clear c2
 obtain⟨c3,H⟩:=ifp H
 have c3b0:=eq_true c3
 have c3b1:decide (((l0.length:Int):Int).toNat≤11728124029610)=true:=decide_eq_true c3
 clear c3
 obtain⟨y117,hy117⟩:∃ y_:List (S62),y_=(List.replicate ((l0.length:Int):Int).toNat z62):=⟨_,rfl⟩
 replace H:(laws_toNoteS.l0 k l0 y117 0)=some r:=by subst hy117;exact H
 have Ny117:=am hy117
 clear hy117
 have H':=am H
 clear H
 go_enter Try.func11,Try.ntmps11
 go_wp2_with (first|((with_reducible refine gate_dst (N:=7) rfl ?_);refine Kd.R_make k62 _ 62 rfl (N:=7) rfl 36 _ _ rfl (l0.length:Int) rfl rfl Try.underlying36 (.agg #[(.int .i64 0),(.int .i64 0),(.int .i64 0)]) 24 info62 rfl (by decide) (by omega) z62 (ok:=fun _=>True) (okp:=fun _=>True) (k62_mkM _ _ _ z62 ) (fun _ hk=>hk) trivial (od) (Nat.le_trans (Nat.mul_le_mul_right _ (od:(l0.length:Int).toNat≤11728124029610)) (by omega)) (Below.refl _ _) (Nat.le_refl _) ?_;intro v118 w4 ho5 hb hg_ hnew_;clear hg_ hnew_;(first|rw[← Ny117.out] at ho5|(simp only[Int.reduceToNat] at ho5;rw[← Ny117.out] at ho5));have HO119:=am (Kd.R_lower ho5 (below_size bl));replace HB:=am (below_step bl hb);clear hb ho5))
 go_loopg [4] k (fun kq v4 w'=>∃(x3_1:List (S62)) (x4_1:Int),v4 = .int .i64 x4_1∧Aside0 (laws_toNoteS.l0 kq l0 x3_1 x4_1=some r)∧Aside0 (kq≤k)∧Aside0 (Kd.R k62 62 w' w.heap.size (fun _=>True) v118 x3_1)∧Aside0 (Below w.heap.size w w'))
 case atStart=>exact⟨(y117),(0),fin2,H',⟨Nat.le_refl _⟩,⟨rup HO119.out⟩,⟨bl⟩⟩
 case round =>
  clear H'
  try clear c1
  try clear c2
  try clear c2b0
  try clear c2b1
  try clear p2
  try clear c3
  try clear c3b0
  try clear c3b1
  obtain⟨x3_1,x4_1,rfl,HA,HK1,HO_3,HB⟩:=hrel
  cases gk with
  | zero=>exact absurd HA.out (by simp [laws_toNoteS.l0])
  | succ k1 =>
   have H:=HA.out
   clear HA
   simp only[laws_toNoteS.l0] at H
   rcases itc H with⟨c6,H⟩|⟨c6,H⟩
   ·have c6b0:=decide_eq_true c6
    clear c6
    obtain⟨c7b0,H⟩:=ifb H
    obtain⟨⟨t121,t122,t123⟩,A8,H⟩:=bnd H;dsimp only at H
    obtain⟨c9b0,H⟩:=ifb H
    obtain⟨y124,hy124⟩:∃ y_:List (S62),y_=(x3_1.set (x4_1:Int).toNat (⟨t121,t122,t123⟩:S62)):=⟨_,rfl⟩
    replace H:(laws_toNoteS.l0 k1 l0 y124 (wrap64 (x4_1+1)))=some r:=by subst hy124;exact H
    have Ny124:=am hy124
    clear hy124
    have H':=am H
    clear H
    have p120:0≤(x4_1:Int):=od
    have q120:x4_1<(l0.length:Int):=od
    obtain⟨ad120,e120,hx120_0,hx120_1,hx120_2⟩:=at_T64 HR0.out x4_1 p120 q120
    cases e120
    replace hx120_0:=(HB.out.cell (World.block_lt_of_cell? w _ hx120_0)).trans hx120_0
    replace hx120_1:=(HB.out.cell (World.block_lt_of_cell? w _ hx120_1)).trans hx120_1
    replace hx120_2:=(HB.out.cell (World.block_lt_of_cell? w _ hx120_2)).trans hx120_2
    replace p120:=eq_true p120
    replace q120:=eq_true q120
    go_wp2_with (first|((with_reducible refine gate_callee (f:=32) rfl ?_);refine goesL_ (some 20) rfl rfl Try.func32 (by kernel_rfl) rfl #[.agg #[.int .i64 ((rd_T64 l0 x4_1).f0),.int .i64 ((rd_T64 l0 x4_1).f1),.int .i64 ((rd_T64 l0 x4_1).f2)]] rfl tl ?_;(with_reducible refine(laws_toNote.calls ((rd_T64 l0 x4_1).f0) ((rd_T64 l0 x4_1).f1) ((rd_T64 l0 x4_1).f2) t121 t122 t123 _ A8.out).mono ?_);rintro e w11 ⟨rfl,hb⟩;refine⟨_,rfl,?_⟩;replace HO_3:=am (Kd.R_below (rup HO_3.out) hb);replace HB:=am (below_step bl hb);(try clear hb);have p10:0≤(x4_1:Int):=od;have q10:(x4_1:Int)<((x3_1.length:Int):Int):=od;obtain⟨go10,co10,eo10,gb10,gl10,cl10,HG10⟩:=Kd.R_form HO_3.out (by omega);(first|cases eo10|(injection eo10 with ea_ en_ ec_;(first|subst ea_|(injection ea_ with ea_;subst ea_));subst ec_;clear en_));have GB10:=am gb10;have GG10:=am HG10;clear gb10 gl10 HG10;obtain⟨ce10,hcl10,hM10,hcc10,hfr10⟩:=Kd.R_elem HO_3.out z62 (x4_1:Int) p10 q10;obtain rfl:=k62_openM hM10;have hx10_0:w11.cell? ⟨go10,(x4_1:Int).toNat*3,none⟩=some (.int .i64 ((rd_T62 x3_1 x4_1).f0)):=hcc10 0 _ rfl;have hx10_1:w11.cell? ⟨go10,(x4_1:Int).toNat*3+1,none⟩=some (.int .i64 ((rd_T62 x3_1 x4_1).f1)):=hcc10 1 _ rfl;have hx10_2:w11.cell? ⟨go10,(x4_1:Int).toNat*3+2,none⟩=some (.int .i64 ((rd_T62 x3_1 x4_1).f2)):=hcc10 2 _ rfl;have hf10_0:w11.frozen? ⟨go10,(x4_1:Int).toNat*3,none⟩=false:=hfr10 0;have hf10_1:w11.frozen? ⟨go10,(x4_1:Int).toNat*3+1,none⟩=false:=hfr10 1;have hf10_2:w11.frozen? ⟨go10,(x4_1:Int).toNat*3+2,none⟩=false:=hfr10 2;(try clear hcl10);(try clear hcc10);(try clear hfr10);(try clear hM10);replace p10:=eq_true p10;replace q10:=eq_true q10;have HX12:=am (show Kd.R k62 62 w11 w.heap.size (fun _=>True) (.slice (some ⟨go10,0,none⟩) x3_1.length co10) x3_1 from(rup HO_3.out));obtain⟨ce12,hcl12,hM12,hcc12,hfr12⟩:=Kd.R_elem HX12.out z62 (x4_1:Int) (od) (by have h_:(x4_1:Int)<((x3_1.length:Int):Int):=od;first|exact h_|(have e_:=(Kd.R_reads' HO_3.out).1;omega)|simpa using h_);obtain rfl:=k62_openM hM12;have HP12:=Kd.R_seg HX12.out (x4_1:Int) (od) (by have h_:(x4_1:Int)<((x3_1.length:Int):Int):=od;first|exact h_|(have e_:=(Kd.R_reads' HO_3.out).1;omega)|simpa using h_) (seg:=[.int .i64 t121,.int .i64 t122,.int .i64 t123]) (j:=0) hcl12 hcc12 (show 3≤3 from by decide) (x':=(⟨t121,t122,t123⟩:S62)) (k62_mkM _ _ _ (⟨t121,t122,t123⟩:S62) ) (fun _ hk=>hk);have hx12_0:=hcc12 0 _ rfl;(try simp only[show(k62).sz=3 from rfl,Nat.mul_one,Nat.add_zero] at hx12_0);have hf12_0:=hfr12 0;(try simp only[show(k62).sz=3 from rfl,Nat.mul_one,Nat.add_zero] at hf12_0);have hx12_1:=hcc12 1 _ rfl;(try simp only[show(k62).sz=3 from rfl,Nat.mul_one,Nat.add_zero] at hx12_1);have hf12_1:=hfr12 1;(try simp only[show(k62).sz=3 from rfl,Nat.mul_one,Nat.add_zero] at hf12_1);have hx12_2:=hcc12 2 _ rfl;(try simp only[show(k62).sz=3 from rfl,Nat.mul_one,Nat.add_zero] at hx12_2);have hf12_2:=hfr12 2;(try simp only[show(k62).sz=3 from rfl,Nat.mul_one,Nat.add_zero] at hf12_2);(try clear hcl12);(try clear hcc12);(try clear hfr12);(try clear hM12))|((with_reducible refine gate_store (t:=62) (p:=21) rfl ?_);refine store_event (t:=62) (p:=21) (v:=?vo_w13) (w1:=(((w11.setCell ⟨go10,(x4_1:Int).toNat*3,none⟩ (.int .i64 t121)).setCell ⟨go10,(x4_1:Int).toNat*3+1,none⟩ (.int .i64 t122)).setCell ⟨go10,(x4_1:Int).toNat*3+2,none⟩ (.int .i64 t123))) ?hg ?ho ?hn ?hr ?_;(case ho=>rfl);(case hg=>rfl);(case hn=>rfl);(case hr=>first|(go_simp;done)|(go_simp;rfl));intro w13 hw;have hg:w11.grownBy w13 (some go10):=(by rw[hw];exact HP12.2);have hp_:Kd.R k62 62 w13 w.heap.size (fun _=>True) (.slice (some ⟨go10,0,none⟩) x3_1.length co10) y124:=(by rw[hw,Ny124.out];exact HP12.1);clear HP12;replace HO_3:=am (hp_);replace HB:=am ((by rw[hw];exact below_set (below_set (below_set (HB.out) GB10.out) GB10.out) GB10.out:Below w.heap.size w w13));clear hg hw hp_))
    go_roundg k1
    case measure=>have:=HK1.out;omega
    case rel=>exact⟨(y124),(wrap64 (x4_1+1)),fin2,H',⟨by have:=HK1.out;omega⟩,⟨rup HO_3.out⟩,⟨bl⟩⟩
   ·have c6b0:=decide_eq_false c6
    clear c6
    obtain rfl:=Option.some.inj H
    go_wp2
    go_ret
    exact⟨_,fin1,by(with_reducible repeat(first|apply Kd.R_alloc|apply Kd.R_drewN|apply Kd.R_drew));exact HO_3.out,bl⟩

def laws_toHole.f (a0_0:Int) (a0_1:Int) (a0_2:Int):Option (Int×Int×Int):=some (a0_0,a0_1,a0_2)
set_option maxHeartbeats 8000000 in
set_option maxRecDepth 100000 in
theorem laws_toHole.calls (a0_0:Int) (a0_1:Int) (a0_2:Int) (r1:Int) (r2:Int) (r3:Int) (w:World) (h:laws_toHole.f a0_0 a0_1 a0_2=some (r1,r2,r3)) :
  Calls Try.prog 33 #[.agg #[.int .i64 a0_0,.int .i64 a0_1,.int .i64 a0_2]] w fun e w'=>e = .returned (.agg #[.int .i64 r1,.int .i64 r2,.int .i64 r3])∧Below w.heap.size w w':=by
 have hu68:=Try.underlying68
 have hu66:=Try.underlying66
 have HB:=am (Below.refl w.heap.size w)
 have H:(some (a0_0,a0_1,a0_2))=some (r1,r2,r3):=h
 clear h
 simp only[Option.some.injEq,Prod.mk.injEq] at H
 obtain⟨rfl,rfl,rfl⟩:=H
 go_enter Try.func33,Try.ntmps33
 go_wp2_with (first|((with_reducible refine gate_dst (N:=1) rfl ?_);refine box_event ?hg (N:=1) ?hd (cs := #[.int .i64 a0_0,.int .i64 a0_1,.int .i64 a0_2]) (t:=68) ?hr ?_;(case hd=>rfl);(case hg=>rfl);(case hr=>first|(go_simp;done)|(go_simp;rfl));intro gb125 hg w2 hbox hb;have BK125:=am (hbox);have GW125:=am (ge_ bl hg);have GE125:=am (ge_ bl hg);replace HB:=am (below_step bl hb);clear hb hbox hg)|((with_reducible refine gate_dst (N:=2) rfl ?_);refine box_event ?hg (N:=2) ?hd (cs := #[.int .i64 0,.int .i64 0,.int .i64 0]) (t:=66) ?hr ?_;(case hd=>rfl);(case hg=>rfl);(case hr=>first|(go_simp;done)|(go_simp;rfl));intro gb126 hg w3 hbox hb;have BK126:=am (hbox);have GW126:=am (ge_ bl hg);have GE126:=am (ge_ bl hg);replace HB:=am (below_step bl hb);have NB125_126:=am (nl (bup BK125.out) hg);have NB126_125:=am (ng (bup BK125.out) hg);replace BK125:=am (blk_below (bup BK125.out) hb);clear hb hbox hg)|((with_reducible refine gate_dst (N:=3) rfl ?_);refine box_event ?hg (N:=3) ?hd (cs := #[.int .i64 0,.int .i64 0,.int .i64 0]) (t:=66) ?hr ?_;(case hd=>rfl);(case hg=>rfl);(case hr=>first|(go_simp;done)|(go_simp;rfl));intro gb127 hg w4 hbox hb;have BK127:=am (hbox);have GW127:=am (ge_ bl hg);have GE127:=am (ge_ bl hg);replace HB:=am (below_step bl hb);have NB125_127:=am (nl (bup BK125.out) hg);have NB127_125:=am (ng (bup BK125.out) hg);replace BK125:=am (blk_below (bup BK125.out) hb);have NB126_127:=am (nl (bup BK126.out) hg);have NB127_126:=am (ng (bup BK126.out) hg);replace BK126:=am (blk_below (bup BK126.out) hb);clear hb hbox hg;have hnb5:=NB125_126.out;have hnc5:=NB126_125.out;have hnb6:=NB125_127.out;have hnc6:=NB127_125.out;have hcz7_0:=bc BK125.out 0;have hcz7_1:=bc BK125.out 1;have hcz7_2:=bc BK125.out 2;have hfz7_0:=blk_frozen BK125.out 0;have hfz7_1:=blk_frozen BK125.out 1;have hfz7_2:=blk_frozen BK125.out 2;have hnb8:=NB127_126.out;have hnc8:=NB126_127.out;have hcz9_0:=bc BK127.out 0;have hcz9_1:=bc BK127.out 1;have hcz9_2:=bc BK127.out 2;have hfz9_0:=blk_frozen BK127.out 0;have hfz9_1:=blk_frozen BK127.out 1;have hfz9_2:=blk_frozen BK127.out 2;have hcz10_0:=bc BK126.out 0;have hcz10_1:=bc BK126.out 1;have hcz10_2:=bc BK126.out 2;have hfz10_0:=blk_frozen BK126.out 0;have hfz10_1:=blk_frozen BK126.out 1;have hfz10_2:=blk_frozen BK126.out 2))
 refine bodyPost_ret (results_cell_row rfl _ _ gb126 66 #[.int .i64 a0_0,.int .i64 a0_1,.int .i64 a0_2] (0,0) _ rfl (by(with_reducible repeat(first|refine bN_ ?_ _|refine bD_ ?_|refine bA_ ?_ _));refine blk_put (cs := #[.int .i64 a0_0,.int .i64 a0_1,.int .i64 0]) ?_ 2 _ rfl;(with_reducible repeat(first|refine bN_ ?_ _|refine bD_ ?_|refine bA_ ?_ _));refine blk_put (cs := #[.int .i64 a0_0,.int .i64 0,.int .i64 0]) ?_ 1 _ rfl;(with_reducible repeat(first|refine bN_ ?_ _|refine bD_ ?_|refine bA_ ?_ _));refine blk_put (cs := #[.int .i64 0,.int .i64 0,.int .i64 0]) ?_ 0 _ rfl;(with_reducible repeat(first|refine bN_ ?_ _|refine bD_ ?_|refine bA_ ?_ _));refine blk_far ?_ NB126_127.out _;(with_reducible repeat(first|refine bN_ ?_ _|refine bD_ ?_|refine bA_ ?_ _));refine blk_far ?_ NB126_127.out _;(with_reducible repeat(first|refine bN_ ?_ _|refine bD_ ?_|refine bA_ ?_ _));refine blk_far ?_ NB126_127.out _;exact bup BK126.out) Try.underlying66 rfl (by kernel_rfl)) rfl ?_
 exact⟨fin1,bl⟩

def laws_toHoleS.l0:Nat→List (S68)→List (S66)→Int→Option ((List (S66)))
 | 0,_,_,_=>none
 | k+1,x0,x3,x4=>if x4<(x0.length:Int) then(if 0≤x4 then((laws_toHole.f ((rd_T68 x0 x4).f0) ((rd_T68 x0 x4).f1) ((rd_T68 x0 x4).f2)).bind fun bt132=>(if x4<(x3.length:Int) then(laws_toHoleS.l0 k x0 (x3.set (x4:Int).toNat (⟨bt132.1,bt132.2.1,bt132.2.2⟩:S66)) (wrap64 (x4+1))) else(none))) else(none)) else(some x3)
def laws_toHoleS.f (k:Nat) (l0:List (S68)):Option ((List (S66))):=if 0≤(l0.length:Int) then(if((l0.length:Int):Int).toNat≤11728124029610 then(laws_toHoleS.l0 k l0 (List.replicate ((l0.length:Int):Int).toNat z66) 0) else(none)) else(none)
set_option maxHeartbeats 8000000 in
set_option maxRecDepth 100000 in
theorem laws_toHoleS.calls (k:Nat) (A0:Option Addr) (c0:Nat) (l0:List (S68)) (r:List (S66)) (w:World) (hr0:Kd.C k68 w A0 l0.length l0) (hc0:l0.length≤c0) (h:laws_toHoleS.f k l0=some r) :
  Calls Try.prog 12 #[.slice A0 l0.length c0] w fun e w'=>∃ v0_:Value,e = .returned (v0_)∧Kd.R k66 66 w' w.heap.size (fun _=>True) v0_ r∧Below w.heap.size w w':=by
 have hu68:=Try.underlying68
 have hu66:=Try.underlying66
 have HR0:=am hr0
 have HC0:=am hc0
 clear hr0 hc0
 have HB:=am (Below.refl w.heap.size w)
 have H:(if 0≤(l0.length:Int) then(if((l0.length:Int):Int).toNat≤11728124029610 then(laws_toHoleS.l0 k l0 (List.replicate ((l0.length:Int):Int).toNat z66) 0) else(none)) else(none))=some r:=h
 clear h
 obtain⟨c2,H⟩:=ifp H
 have c2b0:=eq_true c2
 have c2b1:decide (0≤(l0.length:Int))=true:=decide_eq_true c2
 clear c2
 obtain⟨c3,H⟩:=ifp H
 have c3b0:=eq_true c3
 have c3b1:decide (((l0.length:Int):Int).toNat≤11728124029610)=true:=decide_eq_true c3
 clear c3
 obtain⟨y128,hy128⟩:∃ y_:List (S66),y_=(List.replicate ((l0.length:Int):Int).toNat z66):=⟨_,rfl⟩
 replace H:(laws_toHoleS.l0 k l0 y128 0)=some r:=by subst hy128;exact H
 have Ny128:=am hy128
 clear hy128
 have H':=am H
 clear H
 go_enter Try.func12,Try.ntmps12
 go_wp2_with (first|((with_reducible refine gate_dst (N:=7) rfl ?_);refine Kd.R_make k66 _ 66 rfl (N:=7) rfl 38 _ _ rfl (l0.length:Int) rfl rfl Try.underlying38 (.agg #[(.int .i64 0),(.int .i64 0),(.int .i64 0)]) 24 info66 rfl (by decide) (by omega) z66 (ok:=fun _=>True) (okp:=fun _=>True) (k66_mkM _ _ _ z66 ) (fun _ hk=>hk) trivial (od) (Nat.le_trans (Nat.mul_le_mul_right _ (od:(l0.length:Int).toNat≤11728124029610)) (by omega)) (Below.refl _ _) (Nat.le_refl _) ?_;intro v129 w4 ho5 hb hg_ hnew_;clear hg_ hnew_;(first|rw[← Ny128.out] at ho5|(simp only[Int.reduceToNat] at ho5;rw[← Ny128.out] at ho5));have HO130:=am (Kd.R_lower ho5 (below_size bl));replace HB:=am (below_step bl hb);clear hb ho5))
 go_loopg [4] k (fun kq v4 w'=>∃(x3_1:List (S66)) (x4_1:Int),v4 = .int .i64 x4_1∧Aside0 (laws_toHoleS.l0 kq l0 x3_1 x4_1=some r)∧Aside0 (kq≤k)∧Aside0 (Kd.R k66 66 w' w.heap.size (fun _=>True) v129 x3_1)∧Aside0 (Below w.heap.size w w'))
 case atStart=>exact⟨(y128),(0),fin2,H',⟨Nat.le_refl _⟩,⟨rup HO130.out⟩,⟨bl⟩⟩
 case round =>
  clear H'
  try clear c1
  try clear c2
  try clear c2b0
  try clear c2b1
  try clear p2
  try clear c3
  try clear c3b0
  try clear c3b1
  obtain⟨x3_1,x4_1,rfl,HA,HK1,HO_3,HB⟩:=hrel
  cases gk with
  | zero=>exact absurd HA.out (by simp [laws_toHoleS.l0])
  | succ k1 =>
   have H:=HA.out
   clear HA
   simp only[laws_toHoleS.l0] at H
   rcases itc H with⟨c6,H⟩|⟨c6,H⟩
   ·have c6b0:=decide_eq_true c6
    clear c6
    obtain⟨c7b0,H⟩:=ifb H
    obtain⟨⟨t132,t133,t134⟩,A8,H⟩:=bnd H;dsimp only at H
    obtain⟨c9b0,H⟩:=ifb H
    obtain⟨y135,hy135⟩:∃ y_:List (S66),y_=(x3_1.set (x4_1:Int).toNat (⟨t132,t133,t134⟩:S66)):=⟨_,rfl⟩
    replace H:(laws_toHoleS.l0 k1 l0 y135 (wrap64 (x4_1+1)))=some r:=by subst hy135;exact H
    have Ny135:=am hy135
    clear hy135
    have H':=am H
    clear H
    have p131:0≤(x4_1:Int):=od
    have q131:x4_1<(l0.length:Int):=od
    obtain⟨ad131,e131,hx131_0,hx131_1,hx131_2⟩:=at_T68 HR0.out x4_1 p131 q131
    cases e131
    replace hx131_0:=(HB.out.cell (World.block_lt_of_cell? w _ hx131_0)).trans hx131_0
    replace hx131_1:=(HB.out.cell (World.block_lt_of_cell? w _ hx131_1)).trans hx131_1
    replace hx131_2:=(HB.out.cell (World.block_lt_of_cell? w _ hx131_2)).trans hx131_2
    replace p131:=eq_true p131
    replace q131:=eq_true q131
    go_wp2_with (first|((with_reducible refine gate_callee (f:=33) rfl ?_);refine goesL_ (some 20) rfl rfl Try.func33 (by kernel_rfl) rfl #[.agg #[.int .i64 ((rd_T68 l0 x4_1).f0),.int .i64 ((rd_T68 l0 x4_1).f1),.int .i64 ((rd_T68 l0 x4_1).f2)]] rfl tl ?_;(with_reducible refine(laws_toHole.calls ((rd_T68 l0 x4_1).f0) ((rd_T68 l0 x4_1).f1) ((rd_T68 l0 x4_1).f2) t132 t133 t134 _ A8.out).mono ?_);rintro e w11 ⟨rfl,hb⟩;refine⟨_,rfl,?_⟩;replace HO_3:=am (Kd.R_below (rup HO_3.out) hb);replace HB:=am (below_step bl hb);(try clear hb);have p10:0≤(x4_1:Int):=od;have q10:(x4_1:Int)<((x3_1.length:Int):Int):=od;obtain⟨go10,co10,eo10,gb10,gl10,cl10,HG10⟩:=Kd.R_form HO_3.out (by omega);(first|cases eo10|(injection eo10 with ea_ en_ ec_;(first|subst ea_|(injection ea_ with ea_;subst ea_));subst ec_;clear en_));have GB10:=am gb10;have GG10:=am HG10;clear gb10 gl10 HG10;obtain⟨ce10,hcl10,hM10,hcc10,hfr10⟩:=Kd.R_elem HO_3.out z66 (x4_1:Int) p10 q10;obtain rfl:=k66_openM hM10;have hx10_0:w11.cell? ⟨go10,(x4_1:Int).toNat*3,none⟩=some (.int .i64 ((rd_T66 x3_1 x4_1).f0)):=hcc10 0 _ rfl;have hx10_1:w11.cell? ⟨go10,(x4_1:Int).toNat*3+1,none⟩=some (.int .i64 ((rd_T66 x3_1 x4_1).f1)):=hcc10 1 _ rfl;have hx10_2:w11.cell? ⟨go10,(x4_1:Int).toNat*3+2,none⟩=some (.int .i64 ((rd_T66 x3_1 x4_1).f2)):=hcc10 2 _ rfl;have hf10_0:w11.frozen? ⟨go10,(x4_1:Int).toNat*3,none⟩=false:=hfr10 0;have hf10_1:w11.frozen? ⟨go10,(x4_1:Int).toNat*3+1,none⟩=false:=hfr10 1;have hf10_2:w11.frozen? ⟨go10,(x4_1:Int).toNat*3+2,none⟩=false:=hfr10 2;(try clear hcl10);(try clear hcc10);(try clear hfr10);(try clear hM10);replace p10:=eq_true p10;replace q10:=eq_true q10;have HX12:=am (show Kd.R k66 66 w11 w.heap.size (fun _=>True) (.slice (some ⟨go10,0,none⟩) x3_1.length co10) x3_1 from(rup HO_3.out));obtain⟨ce12,hcl12,hM12,hcc12,hfr12⟩:=Kd.R_elem HX12.out z66 (x4_1:Int) (od) (by have h_:(x4_1:Int)<((x3_1.length:Int):Int):=od;first|exact h_|(have e_:=(Kd.R_reads' HO_3.out).1;omega)|simpa using h_);obtain rfl:=k66_openM hM12;have HP12:=Kd.R_seg HX12.out (x4_1:Int) (od) (by have h_:(x4_1:Int)<((x3_1.length:Int):Int):=od;first|exact h_|(have e_:=(Kd.R_reads' HO_3.out).1;omega)|simpa using h_) (seg:=[.int .i64 t132,.int .i64 t133,.int .i64 t134]) (j:=0) hcl12 hcc12 (show 3≤3 from by decide) (x':=(⟨t132,t133,t134⟩:S66)) (k66_mkM _ _ _ (⟨t132,t133,t134⟩:S66) ) (fun _ hk=>hk);have hx12_0:=hcc12 0 _ rfl;(try simp only[show(k66).sz=3 from rfl,Nat.mul_one,Nat.add_zero] at hx12_0);have hf12_0:=hfr12 0;(try simp only[show(k66).sz=3 from rfl,Nat.mul_one,Nat.add_zero] at hf12_0);have hx12_1:=hcc12 1 _ rfl;(try simp only[show(k66).sz=3 from rfl,Nat.mul_one,Nat.add_zero] at hx12_1);have hf12_1:=hfr12 1;(try simp only[show(k66).sz=3 from rfl,Nat.mul_one,Nat.add_zero] at hf12_1);have hx12_2:=hcc12 2 _ rfl;(try simp only[show(k66).sz=3 from rfl,Nat.mul_one,Nat.add_zero] at hx12_2);have hf12_2:=hfr12 2;(try simp only[show(k66).sz=3 from rfl,Nat.mul_one,Nat.add_zero] at hf12_2);(try clear hcl12);(try clear hcc12);(try clear hfr12);(try clear hM12))|((with_reducible refine gate_store (t:=66) (p:=21) rfl ?_);refine store_event (t:=66) (p:=21) (v:=?vo_w13) (w1:=(((w11.setCell ⟨go10,(x4_1:Int).toNat*3,none⟩ (.int .i64 t132)).setCell ⟨go10,(x4_1:Int).toNat*3+1,none⟩ (.int .i64 t133)).setCell ⟨go10,(x4_1:Int).toNat*3+2,none⟩ (.int .i64 t134))) ?hg ?ho ?hn ?hr ?_;(case ho=>rfl);(case hg=>rfl);(case hn=>rfl);(case hr=>first|(go_simp;done)|(go_simp;rfl));intro w13 hw;have hg:w11.grownBy w13 (some go10):=(by rw[hw];exact HP12.2);have hp_:Kd.R k66 66 w13 w.heap.size (fun _=>True) (.slice (some ⟨go10,0,none⟩) x3_1.length co10) y135:=(by rw[hw,Ny135.out];exact HP12.1);clear HP12;replace HO_3:=am (hp_);replace HB:=am ((by rw[hw];exact below_set (below_set (below_set (HB.out) GB10.out) GB10.out) GB10.out:Below w.heap.size w w13));clear hg hw hp_))
    go_roundg k1
    case measure=>have:=HK1.out;omega
    case rel=>exact⟨(y135),(wrap64 (x4_1+1)),fin2,H',⟨by have:=HK1.out;omega⟩,⟨rup HO_3.out⟩,⟨bl⟩⟩
   ·have c6b0:=decide_eq_false c6
    clear c6
    obtain rfl:=Option.some.inj H
    go_wp2
    go_ret
    exact⟨_,fin1,by(with_reducible repeat(first|apply Kd.R_alloc|apply Kd.R_drewN|apply Kd.R_drew));exact HO_3.out,bl⟩

def laws_toAction.f (a0_0:Int) (a0_1:Int) (a0_2:Int):Option (Int×Int×Int):=some (a0_0,a0_1,a0_2)
set_option maxHeartbeats 8000000 in
set_option maxRecDepth 100000 in
theorem laws_toAction.calls (a0_0:Int) (a0_1:Int) (a0_2:Int) (r1:Int) (r2:Int) (r3:Int) (w:World) (h:laws_toAction.f a0_0 a0_1 a0_2=some (r1,r2,r3)) :
  Calls Try.prog 13 #[.agg #[.int .i64 a0_0,.int .i64 a0_1,.int .i64 a0_2]] w fun e w'=>e = .returned (.agg #[.int .i64 r1,.int .i64 r2,.int .i64 r3])∧Below w.heap.size w w':=by
 have hu28:=Try.underlying28
 have hu40:=Try.underlying40
 have HB:=am (Below.refl w.heap.size w)
 have H:(some (a0_0,a0_1,a0_2))=some (r1,r2,r3):=h
 clear h
 simp only[Option.some.injEq,Prod.mk.injEq] at H
 obtain⟨rfl,rfl,rfl⟩:=H
 go_enter Try.func13,Try.ntmps13
 go_wp2_with (first|((with_reducible refine gate_dst (N:=1) rfl ?_);refine box_event ?hg (N:=1) ?hd (cs := #[.int .i64 a0_0,.int .i64 a0_1,.int .i64 a0_2]) (t:=28) ?hr ?_;(case hd=>rfl);(case hg=>rfl);(case hr=>first|(go_simp;done)|(go_simp;rfl));intro gb136 hg w2 hbox hb;have BK136:=am (hbox);have GW136:=am (ge_ bl hg);have GE136:=am (ge_ bl hg);replace HB:=am (below_step bl hb);clear hb hbox hg)|((with_reducible refine gate_dst (N:=2) rfl ?_);refine box_event ?hg (N:=2) ?hd (cs := #[.int .i64 0,.int .i64 0,.int .i64 0]) (t:=40) ?hr ?_;(case hd=>rfl);(case hg=>rfl);(case hr=>first|(go_simp;done)|(go_simp;rfl));intro gb137 hg w3 hbox hb;have BK137:=am (hbox);have GW137:=am (ge_ bl hg);have GE137:=am (ge_ bl hg);replace HB:=am (below_step bl hb);have NB136_137:=am (nl (bup BK136.out) hg);have NB137_136:=am (ng (bup BK136.out) hg);replace BK136:=am (blk_below (bup BK136.out) hb);clear hb hbox hg)|((with_reducible refine gate_dst (N:=3) rfl ?_);refine box_event ?hg (N:=3) ?hd (cs := #[.int .i64 0,.int .i64 0,.int .i64 0]) (t:=40) ?hr ?_;(case hd=>rfl);(case hg=>rfl);(case hr=>first|(go_simp;done)|(go_simp;rfl));intro gb138 hg w4 hbox hb;have BK138:=am (hbox);have GW138:=am (ge_ bl hg);have GE138:=am (ge_ bl hg);replace HB:=am (below_step bl hb);have NB136_138:=am (nl (bup BK136.out) hg);have NB138_136:=am (ng (bup BK136.out) hg);replace BK136:=am (blk_below (bup BK136.out) hb);have NB137_138:=am (nl (bup BK137.out) hg);have NB138_137:=am (ng (bup BK137.out) hg);replace BK137:=am (blk_below (bup BK137.out) hb);clear hb hbox hg;have hnb5:=NB136_137.out;have hnc5:=NB137_136.out;have hnb6:=NB136_138.out;have hnc6:=NB138_136.out;have hcz7_0:=bc BK136.out 0;have hcz7_1:=bc BK136.out 1;have hcz7_2:=bc BK136.out 2;have hfz7_0:=blk_frozen BK136.out 0;have hfz7_1:=blk_frozen BK136.out 1;have hfz7_2:=blk_frozen BK136.out 2;have hnb8:=NB138_137.out;have hnc8:=NB137_138.out;have hcz9_0:=bc BK138.out 0;have hcz9_1:=bc BK138.out 1;have hcz9_2:=bc BK138.out 2;have hfz9_0:=blk_frozen BK138.out 0;have hfz9_1:=blk_frozen BK138.out 1;have hfz9_2:=blk_frozen BK138.out 2;have hcz10_0:=bc BK137.out 0;have hcz10_1:=bc BK137.out 1;have hcz10_2:=bc BK137.out 2;have hfz10_0:=blk_frozen BK137.out 0;have hfz10_1:=blk_frozen BK137.out 1;have hfz10_2:=blk_frozen BK137.out 2))
 refine bodyPost_ret (results_cell_row rfl _ _ gb137 40 #[.int .i64 a0_0,.int .i64 a0_1,.int .i64 a0_2] (0,0) _ rfl (by(with_reducible repeat(first|refine bN_ ?_ _|refine bD_ ?_|refine bA_ ?_ _));refine blk_put (cs := #[.int .i64 a0_0,.int .i64 a0_1,.int .i64 0]) ?_ 2 _ rfl;(with_reducible repeat(first|refine bN_ ?_ _|refine bD_ ?_|refine bA_ ?_ _));refine blk_put (cs := #[.int .i64 a0_0,.int .i64 0,.int .i64 0]) ?_ 1 _ rfl;(with_reducible repeat(first|refine bN_ ?_ _|refine bD_ ?_|refine bA_ ?_ _));refine blk_put (cs := #[.int .i64 0,.int .i64 0,.int .i64 0]) ?_ 0 _ rfl;(with_reducible repeat(first|refine bN_ ?_ _|refine bD_ ?_|refine bA_ ?_ _));refine blk_far ?_ NB137_138.out _;(with_reducible repeat(first|refine bN_ ?_ _|refine bD_ ?_|refine bA_ ?_ _));refine blk_far ?_ NB137_138.out _;(with_reducible repeat(first|refine bN_ ?_ _|refine bD_ ?_|refine bA_ ?_ _));refine blk_far ?_ NB137_138.out _;exact bup BK137.out) Try.underlying40 rfl (by kernel_rfl)) rfl ?_
 exact⟨fin1,bl⟩

def laws_eqIntS.l0:Nat→List Int→List Int→Int→Option (Bool)
 | 0,_,_,_=>none
 | k+1,x0,x1,x5=>if x5<(x0.length:Int) then(if 0≤x5 then(if x5<(x1.length:Int) then(if(rd x0 x5)=(rd x1 x5) then(laws_eqIntS.l0 k x0 x1 (wrap64 (x5+1))) else(some false)) else(none)) else(none)) else(some true)
def laws_eqIntS.f (k:Nat) (l0:List Int) (l1:List Int):Option (Bool):=if(l0.length:Int)=(l1.length:Int) then(laws_eqIntS.l0 k l0 l1 0) else(some false)
set_option maxHeartbeats 8000000 in
set_option maxRecDepth 100000 in
theorem laws_eqIntS.calls (k:Nat) (A0:Option Addr) (c0:Nat) (l0:List Int) (A1:Option Addr) (c1:Nat) (l1:List Int) (r:Bool) (w:World) (hr0:Kd.C (Kd.int .i64) w A0 l0.length l0) (hc0:l0.length≤c0) (hr1:Kd.C (Kd.int .i64) w A1 l1.length l1) (hc1:l1.length≤c1) (h:laws_eqIntS.f k l0 l1=some r) :
  Calls Try.prog 34 #[.slice A0 l0.length c0,.slice A1 l1.length c1] w fun e w'=>e = .returned (.bool r)∧Drawn0 w w':=by
 have HR0:=am hr0
 have HC0:=am hc0
 clear hr0 hc0
 have HR1:=am hr1
 have HC1:=am hc1
 clear hr1 hc1
 have H:(if(l0.length:Int)=(l1.length:Int) then(laws_eqIntS.l0 k l0 l1 0) else(some false))=some r:=h
 clear h
 rcases itc H with⟨c3,H⟩|⟨c3,H⟩
 ·have c3b0:((l0.length:Int) == (l1.length:Int))=true:=beq_iff_eq.mpr c3
  have c3b1:((l0.length:Int) != (l1.length:Int))=false:=bne_eq_false_iff_eq.mpr c3
  have c3b2:(l0.length == l1.length)=true:=by first|simpa using c3|(simp at c3 ⊢;omega)
  clear c3
  have H':=am H
  clear H
  go_enter Try.func34,Try.ntmps34
  go_wp2
  repeat(go_quiet (fail);try go_wp2)
  go_loopg [5] k (fun kq v5 w'=>∃(x5_1:Int),v5 = .int .i64 x5_1∧Aside0 (laws_eqIntS.l0 kq l0 l1 x5_1=some r)∧Aside0 (kq≤k)∧Drawn0 w w')
  case atStart=>exact⟨(0),fin2,H',⟨Nat.le_refl _⟩,by repeat(first|exact Drawn0.refl _|apply Drawn0.step)⟩
  case round =>
   clear H'
   try clear c1
   try clear p2
   try clear c3
   try clear c3b0
   try clear c3b1
   try clear c3b2
   obtain⟨x5_1,rfl,HA,HK1,⟨m1,rfl⟩⟩:=hrel
   cases gk with
   | zero=>exact absurd HA.out (by simp [laws_eqIntS.l0])
   | succ k1 =>
    have H:=HA.out
    clear HA
    simp only[laws_eqIntS.l0] at H
    rcases itc H with⟨c4,H⟩|⟨c4,H⟩
    ·have c4b0:=decide_eq_true c4
     clear c4
     obtain⟨c5b0,H⟩:=ifb H
     obtain⟨c6b0,H⟩:=ifb H
     rcases itc H with⟨c7,H⟩|⟨c7,H⟩
     ·have c7b0:((rd l0 x5_1) == (rd l1 x5_1))=true:=beq_iff_eq.mpr c7
      have c7b1:((rd l0 x5_1) != (rd l1 x5_1))=false:=bne_eq_false_iff_eq.mpr c7
      clear c7
      have H':=am H
      clear H
      have p139:0≤(x5_1:Int):=od
      have q139:x5_1<(l0.length:Int):=od
      obtain⟨ad139,e139,hx139_0⟩:=Kd.at_int HR0.out x5_1 p139 q139
      cases e139
      replace p139:=eq_true p139
      replace q139:=eq_true q139
      have p140:0≤(x5_1:Int):=od
      have q140:x5_1<(l1.length:Int):=od
      obtain⟨ad140,e140,hx140_0⟩:=Kd.at_int HR1.out x5_1 p140 q140
      cases e140
      replace p140:=eq_true p140
      replace q140:=eq_true q140
      go_wp2
      repeat(go_quiet (fail);try go_wp2)
      go_roundg k1
      case measure=>have:=HK1.out;omega
      case rel=>exact⟨(wrap64 (x5_1+1)),fin2,H',⟨by have:=HK1.out;omega⟩,by repeat(first|exact Drawn0.refl _|apply Drawn0.step)⟩
     ·have c7b0:((rd l0 x5_1) == (rd l1 x5_1))=false:=beq_eq_false_iff_ne.mpr c7
      have c7b1:((rd l0 x5_1) != (rd l1 x5_1))=true:=bne_iff_ne.mpr c7
      obtain rfl:=Option.some.inj H
      have p139:0≤(x5_1:Int):=od
      have q139:x5_1<(l0.length:Int):=od
      obtain⟨ad139,e139,hx139_0⟩:=Kd.at_int HR0.out x5_1 p139 q139
      cases e139
      replace p139:=eq_true p139
      replace q139:=eq_true q139
      have p140:0≤(x5_1:Int):=od
      have q140:x5_1<(l1.length:Int):=od
      obtain⟨ad140,e140,hx140_0⟩:=Kd.at_int HR1.out x5_1 p140 q140
      cases e140
      replace p140:=eq_true p140
      replace q140:=eq_true q140
      go_wp2
      repeat(go_quiet (fail);try go_wp2)
      go_ret
      exact⟨by first|rfl|(simp;done)|(simp [*];done),by repeat(first|exact Drawn0.refl _|apply Drawn0.step)⟩
    ·have c4b0:=decide_eq_false c4
     clear c4
     obtain rfl:=Option.some.inj H
     go_wp2
     repeat(go_quiet (fail);try go_wp2)
     go_ret
     exact⟨by first|rfl|(simp;done)|(simp [*];done),by repeat(first|exact Drawn0.refl _|apply Drawn0.step)⟩
 ·have c3b0:((l0.length:Int) == (l1.length:Int))=false:=beq_eq_false_iff_ne.mpr c3
  have c3b1:((l0.length:Int) != (l1.length:Int))=true:=bne_iff_ne.mpr c3
  have c3b2:(l0.length == l1.length)=false:=by first|simpa using c3|(simp at c3 ⊢;omega)
  obtain rfl:=Option.some.inj H
  go_enter Try.func34,Try.ntmps34
  go_wp2
  repeat(go_quiet (fail);try go_wp2)
  go_ret
  exact⟨by first|rfl|(simp;done)|(simp [*];done),by repeat(first|exact Drawn0.refl _|apply Drawn0.step)⟩

def laws_eqInstrument.f (k:Nat) (l0_0:List Int) (a0_1:Int) (l1_0:List Int) (a1_1:Int):Option (Bool):=(laws_eqIntS.f k l0_0 l1_0).bind fun t143=>(if t143=true then(if a0_1=a1_1 then(some true) else(some false)) else(some false))
set_option maxHeartbeats 8000000 in
set_option maxRecDepth 100000 in
theorem laws_eqInstrument.calls (k:Nat) (A0_0:Option Addr) (c0_0:Nat) (l0_0:List Int) (a0_1:Int) (A1_0:Option Addr) (c1_0:Nat) (l1_0:List Int) (a1_1:Int) (r:Bool) (w:World) (hr0_0:Kd.C (Kd.int .i64) w A0_0 l0_0.length l0_0) (hc0_0:l0_0.length≤c0_0) (hr1_0:Kd.C (Kd.int .i64) w A1_0 l1_0.length l1_0) (hc1_0:l1_0.length≤c1_0) (h:laws_eqInstrument.f k l0_0 a0_1 l1_0 a1_1=some r) :
  Calls Try.prog 15 #[.agg #[.slice A0_0 l0_0.length c0_0,.int .i64 a0_1],.agg #[.slice A1_0 l1_0.length c1_0,.int .i64 a1_1]] w fun e w'=>e = .returned (.bool r)∧Below w.heap.size w w':=by
 have hu34:=Try.underlying34
 have HR0_0:=am hr0_0
 have HC0_0:=am hc0_0
 clear hr0_0 hc0_0
 have HR1_0:=am hr1_0
 have HC1_0:=am hc1_0
 clear hr1_0 hc1_0
 have HB:=am (Below.refl w.heap.size w)
 have H:((laws_eqIntS.f k l0_0 l1_0).bind fun t143=>(if t143=true then(if a0_1=a1_1 then(some true) else(some false)) else(some false)))=some r:=h
 clear h
 obtain⟨t143,A3,H⟩:=bnd H
 by_cases c4:t143=true
 ·subst c4
  replace H:=(if_pos rfl).symm.trans H
  rcases itc H with⟨c5,H⟩|⟨c5,H⟩
  ·have c5b0:(a0_1 == a1_1)=true:=beq_iff_eq.mpr c5
   have c5b1:(a0_1 != a1_1)=false:=bne_eq_false_iff_eq.mpr c5
   clear c5
   obtain rfl:=Option.some.inj H
   go_enter Try.func15,Try.ntmps15
   go_wp2_with (first|((with_reducible refine gate_dst (N:=2) rfl ?_);refine box_event ?hg (N:=2) ?hd (cs := #[.slice A0_0 l0_0.length c0_0,.int .i64 a0_1]) (t:=34) ?hr ?_;(case hd=>rfl);(case hg=>rfl);(case hr=>first|(go_simp;done)|(go_simp;rfl));intro gb141 hg w6 hbox hb;have BK141:=am (hbox);have GW141:=am (ge_ bl hg);have GE141:=am (ge_ bl hg);replace HB:=am (below_step bl hb);clear hb hbox hg)|((with_reducible refine gate_dst (N:=3) rfl ?_);refine box_event ?hg (N:=3) ?hd (cs := #[.slice A1_0 l1_0.length c1_0,.int .i64 a1_1]) (t:=34) ?hr ?_;(case hd=>rfl);(case hg=>rfl);(case hr=>first|(go_simp;done)|(go_simp;rfl));intro gb142 hg w7 hbox hb;have BK142:=am (hbox);have GW142:=am (ge_ bl hg);have GE142:=am (ge_ bl hg);replace HB:=am (below_step bl hb);have NB141_142:=am (nl (bup BK141.out) hg);have NB142_141:=am (ng (bup BK141.out) hg);replace BK141:=am (blk_below (bup BK141.out) hb);clear hb hbox hg;have hnb8:=NB141_142.out;have hnc8:=NB142_141.out;have hcz9_0:=bc BK141.out 0;have hcz9_1:=bc BK141.out 1;have hfz9_0:=blk_frozen BK141.out 0;have hfz9_1:=blk_frozen BK141.out 1;have hcz10_0:=bc BK142.out 0;have hcz10_1:=bc BK142.out 1;have hfz10_0:=blk_frozen BK142.out 0;have hfz10_1:=blk_frozen BK142.out 1)|((with_reducible refine gate_callee (f:=34) rfl ?_);refine goesL_ (some 9) rfl rfl Try.func34 (by kernel_rfl) rfl #[.slice A0_0 l0_0.length c0_0,.slice A1_0 l1_0.length c1_0] rfl tl ?_;(with_reducible refine(laws_eqIntS.calls k _ _ l0_0 _ _ l1_0 true _ ?side1 ?side2 ?side3 ?side4 A3.out).mono ?_);(case side1=>exact cup (Kd.C_below HR0_0.out HB.out));(case side2=>exact HC0_0.out);(case side3=>exact cup (Kd.C_below HR1_0.out HB.out));(case side4=>exact HC1_0.out);rintro e w' ⟨rfl,⟨nd,rfl⟩⟩;refine⟨_,rfl,?_⟩))
   go_ret
   exact⟨fin1,bl⟩
  ·have c5b0:(a0_1 == a1_1)=false:=beq_eq_false_iff_ne.mpr c5
   have c5b1:(a0_1 != a1_1)=true:=bne_iff_ne.mpr c5
   obtain rfl:=Option.some.inj H
   go_enter Try.func15,Try.ntmps15
   go_wp2_with (first|((with_reducible refine gate_dst (N:=2) rfl ?_);refine box_event ?hg (N:=2) ?hd (cs := #[.slice A0_0 l0_0.length c0_0,.int .i64 a0_1]) (t:=34) ?hr ?_;(case hd=>rfl);(case hg=>rfl);(case hr=>first|(go_simp;done)|(go_simp;rfl));intro gb141 hg w11 hbox hb;have BK141:=am (hbox);have GW141:=am (ge_ bl hg);have GE141:=am (ge_ bl hg);replace HB:=am (below_step bl hb);clear hb hbox hg)|((with_reducible refine gate_dst (N:=3) rfl ?_);refine box_event ?hg (N:=3) ?hd (cs := #[.slice A1_0 l1_0.length c1_0,.int .i64 a1_1]) (t:=34) ?hr ?_;(case hd=>rfl);(case hg=>rfl);(case hr=>first|(go_simp;done)|(go_simp;rfl));intro gb142 hg w12 hbox hb;have BK142:=am (hbox);have GW142:=am (ge_ bl hg);have GE142:=am (ge_ bl hg);replace HB:=am (below_step bl hb);have NB141_142:=am (nl (bup BK141.out) hg);have NB142_141:=am (ng (bup BK141.out) hg);replace BK141:=am (blk_below (bup BK141.out) hb);clear hb hbox hg;have hnb13:=NB141_142.out;have hnc13:=NB142_141.out;have hcz14_0:=bc BK141.out 0;have hcz14_1:=bc BK141.out 1;have hfz14_0:=blk_frozen BK141.out 0;have hfz14_1:=blk_frozen BK141.out 1;have hcz15_0:=bc BK142.out 0;have hcz15_1:=bc BK142.out 1;have hfz15_0:=blk_frozen BK142.out 0;have hfz15_1:=blk_frozen BK142.out 1)|((with_reducible refine gate_callee (f:=34) rfl ?_);refine goesL_ (some 9) rfl rfl Try.func34 (by kernel_rfl) rfl #[.slice A0_0 l0_0.length c0_0,.slice A1_0 l1_0.length c1_0] rfl tl ?_;(with_reducible refine(laws_eqIntS.calls k _ _ l0_0 _ _ l1_0 true _ ?side1 ?side2 ?side3 ?side4 A3.out).mono ?_);(case side1=>exact cup (Kd.C_below HR0_0.out HB.out));(case side2=>exact HC0_0.out);(case side3=>exact cup (Kd.C_below HR1_0.out HB.out));(case side4=>exact HC1_0.out);rintro e w' ⟨rfl,⟨nd,rfl⟩⟩;refine⟨_,rfl,?_⟩))
   go_ret
   exact⟨fin1,bl⟩
 ·replace c4:=Bool.eq_false_iff.mpr c4
  subst c4
  replace H:=(if_neg Bool.false_ne_true).symm.trans H
  obtain rfl:=Option.some.inj H
  go_enter Try.func15,Try.ntmps15
  go_wp2_with (first|((with_reducible refine gate_dst (N:=2) rfl ?_);refine box_event ?hg (N:=2) ?hd (cs := #[.slice A0_0 l0_0.length c0_0,.int .i64 a0_1]) (t:=34) ?hr ?_;(case hd=>rfl);(case hg=>rfl);(case hr=>first|(go_simp;done)|(go_simp;rfl));intro gb141 hg w16 hbox hb;have BK141:=am (hbox);have GW141:=am (ge_ bl hg);have GE141:=am (ge_ bl hg);replace HB:=am (below_step bl hb);clear hb hbox hg)|((with_reducible refine gate_dst (N:=3) rfl ?_);refine box_event ?hg (N:=3) ?hd (cs := #[.slice A1_0 l1_0.length c1_0,.int .i64 a1_1]) (t:=34) ?hr ?_;(case hd=>rfl);(case hg=>rfl);(case hr=>first|(go_simp;done)|(go_simp;rfl));intro gb142 hg w17 hbox hb;have BK142:=am (hbox);have GW142:=am (ge_ bl hg);have GE142:=am (ge_ bl hg);replace HB:=am (below_step bl hb);have NB141_142:=am (nl (bup BK141.out) hg);have NB142_141:=am (ng (bup BK141.out) hg);replace BK141:=am (blk_below (bup BK141.out) hb);clear hb hbox hg;have hnb18:=NB141_142.out;have hnc18:=NB142_141.out;have hcz19_0:=bc BK141.out 0;have hcz19_1:=bc BK141.out 1;have hfz19_0:=blk_frozen BK141.out 0;have hfz19_1:=blk_frozen BK141.out 1;have hcz20_0:=bc BK142.out 0;have hcz20_1:=bc BK142.out 1;have hfz20_0:=blk_frozen BK142.out 0;have hfz20_1:=blk_frozen BK142.out 1)|((with_reducible refine gate_callee (f:=34) rfl ?_);refine goesL_ (some 9) rfl rfl Try.func34 (by kernel_rfl) rfl #[.slice A0_0 l0_0.length c0_0,.slice A1_0 l1_0.length c1_0] rfl tl ?_;(with_reducible refine(laws_eqIntS.calls k _ _ l0_0 _ _ l1_0 false _ ?side1 ?side2 ?side3 ?side4 A3.out).mono ?_);(case side1=>exact cup (Kd.C_below HR0_0.out HB.out));(case side2=>exact HC0_0.out);(case side3=>exact cup (Kd.C_below HR1_0.out HB.out));(case side4=>exact HC1_0.out);rintro e w' ⟨rfl,⟨nd,rfl⟩⟩;refine⟨_,rfl,?_⟩))
  go_ret
  exact⟨fin1,bl⟩

def laws_eqNote.f (a0_0:Int) (a0_1:Int) (a0_2:Int) (a1_0:Int) (a1_1:Int) (a1_2:Int):Option (Bool):=if a0_0=a1_0 then(if a0_1=a1_1 then(if a0_2=a1_2 then(some true) else(some false)) else(some false)) else(some false)
set_option maxHeartbeats 8000000 in
set_option maxRecDepth 100000 in
theorem laws_eqNote.calls (a0_0:Int) (a0_1:Int) (a0_2:Int) (a1_0:Int) (a1_1:Int) (a1_2:Int) (r:Bool) (w:World) (h:laws_eqNote.f a0_0 a0_1 a0_2 a1_0 a1_1 a1_2=some r) :
  Calls Try.prog 35 #[.agg #[.int .i64 a0_0,.int .i64 a0_1,.int .i64 a0_2],.agg #[.int .i64 a1_0,.int .i64 a1_1,.int .i64 a1_2]] w fun e w'=>e = .returned (.bool r)∧Below w.heap.size w w':=by
 have hu62:=Try.underlying62
 have HB:=am (Below.refl w.heap.size w)
 have H:(if a0_0=a1_0 then(if a0_1=a1_1 then(if a0_2=a1_2 then(some true) else(some false)) else(some false)) else(some false))=some r:=h
 clear h
 rcases itc H with⟨c3,H⟩|⟨c3,H⟩
 ·have c3b0:(a0_0 == a1_0)=true:=beq_iff_eq.mpr c3
  have c3b1:(a0_0 != a1_0)=false:=bne_eq_false_iff_eq.mpr c3
  clear c3
  rcases itc H with⟨c4,H⟩|⟨c4,H⟩
  ·have c4b0:(a0_1 == a1_1)=true:=beq_iff_eq.mpr c4
   have c4b1:(a0_1 != a1_1)=false:=bne_eq_false_iff_eq.mpr c4
   clear c4
   rcases itc H with⟨c5,H⟩|⟨c5,H⟩
   ·have c5b0:(a0_2 == a1_2)=true:=beq_iff_eq.mpr c5
    have c5b1:(a0_2 != a1_2)=false:=bne_eq_false_iff_eq.mpr c5
    clear c5
    obtain rfl:=Option.some.inj H
    go_enter Try.func35,Try.ntmps35
    go_wp2_with (first|((with_reducible refine gate_dst (N:=2) rfl ?_);refine box_event ?hg (N:=2) ?hd (cs := #[.int .i64 a0_0,.int .i64 a0_1,.int .i64 a0_2]) (t:=62) ?hr ?_;(case hd=>rfl);(case hg=>rfl);(case hr=>first|(go_simp;done)|(go_simp;rfl));intro gb144 hg w6 hbox hb;have BK144:=am (hbox);have GW144:=am (ge_ bl hg);have GE144:=am (ge_ bl hg);replace HB:=am (below_step bl hb);clear hb hbox hg)|((with_reducible refine gate_dst (N:=3) rfl ?_);refine box_event ?hg (N:=3) ?hd (cs := #[.int .i64 a1_0,.int .i64 a1_1,.int .i64 a1_2]) (t:=62) ?hr ?_;(case hd=>rfl);(case hg=>rfl);(case hr=>first|(go_simp;done)|(go_simp;rfl));intro gb145 hg w7 hbox hb;have BK145:=am (hbox);have GW145:=am (ge_ bl hg);have GE145:=am (ge_ bl hg);replace HB:=am (below_step bl hb);have NB144_145:=am (nl (bup BK144.out) hg);have NB145_144:=am (ng (bup BK144.out) hg);replace BK144:=am (blk_below (bup BK144.out) hb);clear hb hbox hg;have hnb8:=NB144_145.out;have hnc8:=NB145_144.out;have hcz9_0:=bc BK144.out 0;have hcz9_1:=bc BK144.out 1;have hcz9_2:=bc BK144.out 2;have hfz9_0:=blk_frozen BK144.out 0;have hfz9_1:=blk_frozen BK144.out 1;have hfz9_2:=blk_frozen BK144.out 2;have hcz10_0:=bc BK145.out 0;have hcz10_1:=bc BK145.out 1;have hcz10_2:=bc BK145.out 2;have hfz10_0:=blk_frozen BK145.out 0;have hfz10_1:=blk_frozen BK145.out 1;have hfz10_2:=blk_frozen BK145.out 2))
    go_ret
    exact⟨fin1,bl⟩
   ·have c5b0:(a0_2 == a1_2)=false:=beq_eq_false_iff_ne.mpr c5
    have c5b1:(a0_2 != a1_2)=true:=bne_iff_ne.mpr c5
    obtain rfl:=Option.some.inj H
    go_enter Try.func35,Try.ntmps35
    go_wp2_with (first|((with_reducible refine gate_dst (N:=2) rfl ?_);refine box_event ?hg (N:=2) ?hd (cs := #[.int .i64 a0_0,.int .i64 a0_1,.int .i64 a0_2]) (t:=62) ?hr ?_;(case hd=>rfl);(case hg=>rfl);(case hr=>first|(go_simp;done)|(go_simp;rfl));intro gb144 hg w11 hbox hb;have BK144:=am (hbox);have GW144:=am (ge_ bl hg);have GE144:=am (ge_ bl hg);replace HB:=am (below_step bl hb);clear hb hbox hg)|((with_reducible refine gate_dst (N:=3) rfl ?_);refine box_event ?hg (N:=3) ?hd (cs := #[.int .i64 a1_0,.int .i64 a1_1,.int .i64 a1_2]) (t:=62) ?hr ?_;(case hd=>rfl);(case hg=>rfl);(case hr=>first|(go_simp;done)|(go_simp;rfl));intro gb145 hg w12 hbox hb;have BK145:=am (hbox);have GW145:=am (ge_ bl hg);have GE145:=am (ge_ bl hg);replace HB:=am (below_step bl hb);have NB144_145:=am (nl (bup BK144.out) hg);have NB145_144:=am (ng (bup BK144.out) hg);replace BK144:=am (blk_below (bup BK144.out) hb);clear hb hbox hg;have hnb13:=NB144_145.out;have hnc13:=NB145_144.out;have hcz14_0:=bc BK144.out 0;have hcz14_1:=bc BK144.out 1;have hcz14_2:=bc BK144.out 2;have hfz14_0:=blk_frozen BK144.out 0;have hfz14_1:=blk_frozen BK144.out 1;have hfz14_2:=blk_frozen BK144.out 2;have hcz15_0:=bc BK145.out 0;have hcz15_1:=bc BK145.out 1;have hcz15_2:=bc BK145.out 2;have hfz15_0:=blk_frozen BK145.out 0;have hfz15_1:=blk_frozen BK145.out 1;have hfz15_2:=blk_frozen BK145.out 2))
    go_ret
    exact⟨fin1,bl⟩
  ·have c4b0:(a0_1 == a1_1)=false:=beq_eq_false_iff_ne.mpr c4
   have c4b1:(a0_1 != a1_1)=true:=bne_iff_ne.mpr c4
   obtain rfl:=Option.some.inj H
   go_enter Try.func35,Try.ntmps35
   go_wp2_with (first|((with_reducible refine gate_dst (N:=2) rfl ?_);refine box_event ?hg (N:=2) ?hd (cs := #[.int .i64 a0_0,.int .i64 a0_1,.int .i64 a0_2]) (t:=62) ?hr ?_;(case hd=>rfl);(case hg=>rfl);(case hr=>first|(go_simp;done)|(go_simp;rfl));intro gb144 hg w16 hbox hb;have BK144:=am (hbox);have GW144:=am (ge_ bl hg);have GE144:=am (ge_ bl hg);replace HB:=am (below_step bl hb);clear hb hbox hg)|((with_reducible refine gate_dst (N:=3) rfl ?_);refine box_event ?hg (N:=3) ?hd (cs := #[.int .i64 a1_0,.int .i64 a1_1,.int .i64 a1_2]) (t:=62) ?hr ?_;(case hd=>rfl);(case hg=>rfl);(case hr=>first|(go_simp;done)|(go_simp;rfl));intro gb145 hg w17 hbox hb;have BK145:=am (hbox);have GW145:=am (ge_ bl hg);have GE145:=am (ge_ bl hg);replace HB:=am (below_step bl hb);have NB144_145:=am (nl (bup BK144.out) hg);have NB145_144:=am (ng (bup BK144.out) hg);replace BK144:=am (blk_below (bup BK144.out) hb);clear hb hbox hg;have hnb18:=NB144_145.out;have hnc18:=NB145_144.out;have hcz19_0:=bc BK144.out 0;have hcz19_1:=bc BK144.out 1;have hcz19_2:=bc BK144.out 2;have hfz19_0:=blk_frozen BK144.out 0;have hfz19_1:=blk_frozen BK144.out 1;have hfz19_2:=blk_frozen BK144.out 2;have hcz20_0:=bc BK145.out 0;have hcz20_1:=bc BK145.out 1;have hcz20_2:=bc BK145.out 2;have hfz20_0:=blk_frozen BK145.out 0;have hfz20_1:=blk_frozen BK145.out 1;have hfz20_2:=blk_frozen BK145.out 2))
   go_ret
   exact⟨fin1,bl⟩
 ·have c3b0:(a0_0 == a1_0)=false:=beq_eq_false_iff_ne.mpr c3
  have c3b1:(a0_0 != a1_0)=true:=bne_iff_ne.mpr c3
  obtain rfl:=Option.some.inj H
  go_enter Try.func35,Try.ntmps35
  go_wp2_with (first|((with_reducible refine gate_dst (N:=2) rfl ?_);refine box_event ?hg (N:=2) ?hd (cs := #[.int .i64 a0_0,.int .i64 a0_1,.int .i64 a0_2]) (t:=62) ?hr ?_;(case hd=>rfl);(case hg=>rfl);(case hr=>first|(go_simp;done)|(go_simp;rfl));intro gb144 hg w21 hbox hb;have BK144:=am (hbox);have GW144:=am (ge_ bl hg);have GE144:=am (ge_ bl hg);replace HB:=am (below_step bl hb);clear hb hbox hg)|((with_reducible refine gate_dst (N:=3) rfl ?_);refine box_event ?hg (N:=3) ?hd (cs := #[.int .i64 a1_0,.int .i64 a1_1,.int .i64 a1_2]) (t:=62) ?hr ?_;(case hd=>rfl);(case hg=>rfl);(case hr=>first|(go_simp;done)|(go_simp;rfl));intro gb145 hg w22 hbox hb;have BK145:=am (hbox);have GW145:=am (ge_ bl hg);have GE145:=am (ge_ bl hg);replace HB:=am (below_step bl hb);have NB144_145:=am (nl (bup BK144.out) hg);have NB145_144:=am (ng (bup BK144.out) hg);replace BK144:=am (blk_below (bup BK144.out) hb);clear hb hbox hg;have hnb23:=NB144_145.out;have hnc23:=NB145_144.out;have hcz24_0:=bc BK144.out 0;have hcz24_1:=bc BK144.out 1;have hcz24_2:=bc BK144.out 2;have hfz24_0:=blk_frozen BK144.out 0;have hfz24_1:=blk_frozen BK144.out 1;have hfz24_2:=blk_frozen BK144.out 2;have hcz25_0:=bc BK145.out 0;have hcz25_1:=bc BK145.out 1;have hcz25_2:=bc BK145.out 2;have hfz25_0:=blk_frozen BK145.out 0;have hfz25_1:=blk_frozen BK145.out 1;have hfz25_2:=blk_frozen BK145.out 2))
  go_ret
  exact⟨fin1,bl⟩

end Go.Proofs.Ytipklbjbgbbgpaa.PFnExactLeastTolerance
