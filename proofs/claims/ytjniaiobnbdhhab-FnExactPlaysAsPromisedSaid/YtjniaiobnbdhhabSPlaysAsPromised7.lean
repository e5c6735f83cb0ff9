/- The walks of functions that FnExactPlaysAsPromised reaches: what they return is what the plain functions of the same names say. Made by a program of this session after the kit's print. No conditions beyond the arguments' being read. -/
import Derived.Test.YtjniaiobnbdhhabSPlaysAsPromised0
import Derived.Test.YtjniaiobnbdhhabSPlaysAsPromised6
namespace Go.Proofs.Ytjniaiobnbdhhab.PFnExactPlaysAsPromised
open Go.RowKit Go.Proofs.YtjniaiobnbdhhabW.PrintWords Go.Proofs.YtjniaiobnbdhhabW.PrintLast Go.Proofs.YtjniaiobnbdhhabW.PrintMore
attribute [local go_sem] max2_int min2_int max_two min_two max_three min_three max_four min_four   -- for this text's walks alone
set_option linter.unusedVariables false
set_option linter.unusedSimpArgs false

/-! ### laws_toNoteS: function 26 -/
def laws_toNoteS.l0:Nat→List (S101)→List (S95)→Int→Option ((List (S95)))
 | 0,_,_,_=>none
 | k+1,x0,x3,x4=>if x4<(x0.length:Int) then(if 0≤x4 then((laws_toNote.f ((rd_T101 x0 x4).f0) ((rd_T101 x0 x4).f1) ((rd_T101 x0 x4).f2)).bind fun bt260=>(if x4<(x3.length:Int) then(laws_toNoteS.l0 k x0 (x3.set (x4:Int).toNat (⟨bt260.1,bt260.2.1,bt260.2.2⟩:S95)) (wrap64 (x4+1))) else(none))) else(none)) else(some x3)
def laws_toNoteS.f (k:Nat) (l0:List (S101)):Option ((List (S95))):=if 0≤(l0.length:Int) then(if((l0.length:Int):Int).toNat≤11728124029610 then(laws_toNoteS.l0 k l0 (List.replicate ((l0.length:Int):Int).toNat z95) 0) else(none)) else(none)
set_option maxHeartbeats 8000000 in
set_option maxRecDepth 100000 in
theorem laws_toNoteS.calls (k:Nat) (A0:Option Addr) (c0:Nat) (l0:List (S101)) (r:List (S95)) (w:World) (hr0:Kd.C k101 w A0 l0.length l0) (hc0:l0.length≤c0) (h:laws_toNoteS.f k l0=some r) :
  Calls Try.prog 26 #[.slice A0 l0.length c0] w fun e w'=>∃ v0_:Value,e = .returned (v0_)∧Kd.R k95 95 w' w.heap.size (fun _=>True) v0_ r∧Below w.heap.size w w':=by
 have hu101:=Try.underlying101
 have hu95:=Try.underlying95
 have HR0:=am hr0
 have HC0:=am hc0
 clear hr0 hc0
 have HB:=am (Below.refl w.heap.size w)
 have H:(if 0≤(l0.length:Int) then(if((l0.length:Int):Int).toNat≤11728124029610 then(laws_toNoteS.l0 k l0 (List.replicate ((l0.length:Int):Int).toNat z95) 0) else(none)) else(none))=some r:=h
 clear h
 by_cases c2:0≤(l0.length:Int)
 ·rw[if_pos c2] at H
  have c2b0:=eq_true c2
  have c2b1:decide (0≤(l0.length:Int))=true:=decide_eq_true c2
  clear c2
  by_cases c3:((l0.length:Int):Int).toNat≤11728124029610
  ·rw[if_pos c3] at H
   have c3b0:=eq_true c3
   have c3b1:decide (((l0.length:Int):Int).toNat≤11728124029610)=true:=decide_eq_true c3
   clear c3
   obtain⟨y256,hy256⟩:∃ y_:List (S95),y_=(List.replicate ((l0.length:Int):Int).toNat z95):=⟨_,rfl⟩
   replace H:(laws_toNoteS.l0 k l0 y256 0)=some r:=by first|(rw[hy256];with_reducible exact H)|(have H2_:=(Option.bind_some _ _).symm.trans H;rw[hy256];with_reducible exact H2_)|(have H2_:=(Option.bind_some _ _).symm.trans H;with_reducible exact H2_)|with_reducible exact H|(rw[hy256];exact H)|exact H
   have Ny256:=am hy256
   clear hy256
   have H':=am H
   clear H
   go_enter Try.func26,Try.ntmps26
   go_wp2_with (first|((with_reducible refine gate_dst (N:=7) rfl ?_);refine Kd.R_make k95 _ 95 rfl (N:=7) rfl 46 _ _ rfl (l0.length:Int) rfl rfl Try.underlying46 (.agg #[(.int .i64 0),(.int .i64 0),(.int .i64 0)]) 24 info95 rfl (by decide) (by omega) z95 (ok:=fun _=>True) (okp:=fun _=>True) (k95_mkM _ _ _ z95 ) (fun _ hk=>hk) trivial (od) (Nat.le_trans (Nat.mul_le_mul_right _ (od:(l0.length:Int).toNat≤11728124029610)) (by omega)) (Below.refl _ _) (Nat.le_refl _) ?_;intro v257 w4 ho5 hb hg_ hnew_;clear hg_ hnew_;(first|rw[← Ny256.out] at ho5|(simp only[Int.reduceToNat] at ho5;rw[← Ny256.out] at ho5));have n0_:=am (Kd.R_lower ho5 (below_size bl));have n1_:=am (below_step bl hb);clear HB;have HO258:=n0_;have HB:=n1_;clear n0_ n1_ hb ho5))
   go_loopg [4] k (fun kq v4 w'=>∃(x3_1:List (S95)) (x4_1:Int),v4 = .int .i64 x4_1∧Aside0 (laws_toNoteS.l0 kq l0 x3_1 x4_1=some r)∧Aside0 (kq≤k)∧Aside0 (Kd.R k95 95 w' w.heap.size (fun _=>True) v257 x3_1)∧Aside0 (Below w.heap.size w w'))
   case atStart=>exact⟨(y256),(0),fin2,H',⟨Nat.le_refl _⟩,⟨rup HO258.out⟩,⟨bl⟩⟩
   case round =>
    clear H'
    try clear c2
    try clear c2b0
    try clear c2b1
    try clear p2
    try clear c3
    try clear c3b0
    try clear c3b1
    obtain⟨x3_1,x4_1,rfl,HA,HK1,HO_3,HB⟩:=hrel
    cases gk with
    | zero=>exact absurd HA.out (by simp [laws_toNoteS.l0])
    | succ k1 =>
     have H:=HA.out
     clear HA
     simp only[laws_toNoteS.l0] at H
     by_cases c6:x4_1<(l0.length:Int)
     ·rw[if_pos c6] at H
      have c6b0:decide (x4_1<(l0.length:Int))=true:=decide_eq_true c6
      clear c6
      by_cases c7:0≤x4_1
      ·rw[if_pos c7] at H
       have c7b0:decide (0≤x4_1)=true:=decide_eq_true c7
       clear c7
       replace H:=Option.bind_eq_some_iff.mp H
       obtain⟨⟨t260,t261,t262⟩,A80,H⟩:=H
       replace H:(if x4_1<(x3_1.length:Int) then(laws_toNoteS.l0 k1 l0 (x3_1.set (x4_1:Int).toNat (⟨t260,t261,t262⟩:S95)) (wrap64 (x4_1+1))) else(none))=some r:=H
       have A8:=am A80
       clear A80
       by_cases c9:x4_1<(x3_1.length:Int)
       ·rw[if_pos c9] at H
        have c9b0:decide (x4_1<(x3_1.length:Int))=true:=decide_eq_true c9
        clear c9
        obtain⟨y263,hy263⟩:∃ y_:List (S95),y_=(x3_1.set (x4_1:Int).toNat (⟨t260,t261,t262⟩:S95)):=⟨_,rfl⟩
        replace H:(laws_toNoteS.l0 k1 l0 y263 (wrap64 (x4_1+1)))=some r:=by first|(rw[hy263];with_reducible exact H)|(have H2_:=(Option.bind_some _ _).symm.trans H;rw[hy263];with_reducible exact H2_)|(have H2_:=(Option.bind_some _ _).symm.trans H;with_reducible exact H2_)|with_reducible exact H|(rw[hy263];exact H)|exact H
        have Ny263:=am hy263
        clear hy263
        have H':=am H
        clear H
        have p259:0≤(x4_1:Int):=od
        have q259:x4_1<(l0.length:Int):=od
        obtain⟨ad259,e259,hx259_0,hx259_1,hx259_2⟩:=at_T101 HR0.out x4_1 p259 q259
        cases e259
        replace hx259_0:=(HB.out.cell (World.block_lt_of_cell? w _ hx259_0)).trans hx259_0
        replace hx259_1:=(HB.out.cell (World.block_lt_of_cell? w _ hx259_1)).trans hx259_1
        replace hx259_2:=(HB.out.cell (World.block_lt_of_cell? w _ hx259_2)).trans hx259_2
        replace p259:=eq_true p259
        replace q259:=eq_true q259
        go_wp2_with (first|((with_reducible refine gate_callee (f:=67) rfl ?_);refine goesL_ (some 20) rfl rfl Try.func67 (by kernel_rfl) rfl #[.agg #[.int .i64 ((rd_T101 l0 x4_1).f0),.int .i64 ((rd_T101 l0 x4_1).f1),.int .i64 ((rd_T101 l0 x4_1).f2)]] rfl (by(try simp only[List.map_toArray,List.map_cons,List.map_nil]);first|done|rfl|(simp only[List.length_drop,List.length_take];rfl)) ?_;(with_reducible refine(laws_toNote.calls ((rd_T101 l0 x4_1).f0) ((rd_T101 l0 x4_1).f1) ((rd_T101 l0 x4_1).f2) t260 t261 t262 _ A8.out).mono ?_);rintro e w11 ⟨rfl,hb⟩;refine⟨_,rfl,?_⟩;have n0_:=am (Kd.R_below (rup HO_3.out) hb);have n1_:=am (below_step bl hb);clear HO_3 HB;have HO_3:=n0_;have HB:=n1_;clear n0_ n1_;(try clear hb);(try clear hb2);(try clear hk);(try clear hi);have p10:0≤(x4_1:Int):=od;have q10:(x4_1:Int)<((x3_1.length:Int):Int):=od;obtain⟨go10,co10,eo10,gb10,gl10,cl10,HG10⟩:=Kd.R_form HO_3.out (by omega);(first|cases eo10|(injection eo10 with ea_ en_ ec_;(first|subst ea_|(injection ea_ with ea_;subst ea_));subst ec_;clear en_));have GB10:=am gb10;have GG10:=am HG10;clear gb10 gl10 HG10;obtain⟨ce10,hcl10,hM10,hcc10,hfr10⟩:=Kd.R_elem HO_3.out z95 (x4_1:Int) p10 q10;obtain rfl:=k95_openM hM10;have hx10_0:w11.cell? ⟨go10,(x4_1:Int).toNat*3,none⟩=some (.int .i64 ((rd_T95 x3_1 x4_1).f0)):=hcc10 0 _ rfl;have hx10_1:w11.cell? ⟨go10,(x4_1:Int).toNat*3+1,none⟩=some (.int .i64 ((rd_T95 x3_1 x4_1).f1)):=hcc10 1 _ rfl;have hx10_2:w11.cell? ⟨go10,(x4_1:Int).toNat*3+2,none⟩=some (.int .i64 ((rd_T95 x3_1 x4_1).f2)):=hcc10 2 _ rfl;have hf10_0:w11.frozen? ⟨go10,(x4_1:Int).toNat*3,none⟩=false:=hfr10 0;have hf10_1:w11.frozen? ⟨go10,(x4_1:Int).toNat*3+1,none⟩=false:=hfr10 1;have hf10_2:w11.frozen? ⟨go10,(x4_1:Int).toNat*3+2,none⟩=false:=hfr10 2;clear hcl10 hcc10 hfr10 hM10;replace p10:=eq_true p10;replace q10:=eq_true q10;have HX12:=am (show Kd.R k95 95 w11 w.heap.size (fun _=>True) (.slice (some ⟨go10,0,none⟩) x3_1.length co10) x3_1 from(rup HO_3.out));obtain⟨ce12,hcl12,hM12,hcc12,hfr12⟩:=Kd.R_elem HX12.out z95 (x4_1:Int) (od) (by have h_:(x4_1:Int)<((x3_1.length:Int):Int):=od;first|exact h_|(have e_:=(Kd.R_reads' HO_3.out).1;omega)|simpa using h_);obtain rfl:=k95_openM hM12;have HP12:=Kd.R_seg HX12.out (x4_1:Int) (od) (by have h_:(x4_1:Int)<((x3_1.length:Int):Int):=od;first|exact h_|(have e_:=(Kd.R_reads' HO_3.out).1;omega)|simpa using h_) (seg:=[.int .i64 t260,.int .i64 t261,.int .i64 t262]) (j:=0) hcl12 hcc12 (show 3≤3 from by decide) (x':=(⟨t260,t261,t262⟩:S95)) (k95_mkM _ _ _ (⟨t260,t261,t262⟩:S95) ) (fun _ hk=>hk);have hx12_0:=hcc12 0 _ rfl;(try simp only[show(k95).sz=3 from rfl,Nat.mul_one,Nat.add_zero] at hx12_0);have hf12_0:=hfr12 0;(try simp only[show(k95).sz=3 from rfl,Nat.mul_one,Nat.add_zero] at hf12_0);have hx12_1:=hcc12 1 _ rfl;(try simp only[show(k95).sz=3 from rfl,Nat.mul_one,Nat.add_zero] at hx12_1);have hf12_1:=hfr12 1;(try simp only[show(k95).sz=3 from rfl,Nat.mul_one,Nat.add_zero] at hf12_1);have hx12_2:=hcc12 2 _ rfl;(try simp only[show(k95).sz=3 from rfl,Nat.mul_one,Nat.add_zero] at hx12_2);have hf12_2:=hfr12 2;(try simp only[show(k95).sz=3 from rfl,Nat.mul_one,Nat.add_zero] at hf12_2);clear hcl12 hcc12 hfr12 hM12)|((with_reducible refine gate_store (t:=95) (p:=21) rfl ?_);refine store_event (t:=95) (p:=21) (v:=?vo_w13) (w1:=(((w11.setCell ⟨go10,(x4_1:Int).toNat*3,none⟩ (.int .i64 t260)).setCell ⟨go10,(x4_1:Int).toNat*3+1,none⟩ (.int .i64 t261)).setCell ⟨go10,(x4_1:Int).toNat*3+2,none⟩ (.int .i64 t262))) ?hg ?ho ?hn ?hr ?_;(case ho=>rfl);(case hg=>rfl);(case hn=>rfl);(case hr=>first|(go_simp;done)|(go_simp;rfl));intro w13 hw;have hg:w11.grownBy w13 (some go10):=(by rw[hw];exact HP12.2);have hp_:Kd.R k95 95 w13 w.heap.size (fun _=>True) (.slice (some ⟨go10,0,none⟩) x3_1.length co10) y263:=(by rw[hw,Ny263.out];exact HP12.1);clear HP12;have n0_:=am (hp_);have n1_:=am ((by rw[hw];exact below_set (below_set (below_set (HB.out) GB10.out) GB10.out) GB10.out:Below w.heap.size w w13));clear HO_3 HB;have HO_3:=n0_;have HB:=n1_;clear n0_ n1_ hg hw hp_))
        go_roundg k1
        case measure=>have:=HK1.out;omega
        case rel=>exact⟨(y263),(wrap64 (x4_1+1)),fin2,H',⟨by have:=HK1.out;omega⟩,⟨rup HO_3.out⟩,⟨bl⟩⟩
       ·rw[if_neg c9] at H
        exact absurd H (by simp)
      ·rw[if_neg c7] at H
       exact absurd H (by simp)
     ·rw[if_neg c6] at H
      have c6b0:decide (x4_1<(l0.length:Int))=false:=decide_eq_false c6
      clear c6
      obtain rfl:=Option.some.inj H
      go_wp2
      go_ret
      exact⟨_,fin1,by(with_reducible repeat(first|apply Kd.R_alloc|apply Kd.R_drewN|apply Kd.R_drew));exact HO_3.out,bl⟩
  ·rw[if_neg c3] at H
   exact absurd H (by simp)
 ·rw[if_neg c2] at H
  exact absurd H (by simp)

/-! ### laws_toAction: function 27 -/
def laws_toAction.f (a0_0:Int) (a0_1:Int) (a0_2:Int):Option (Int×Int×Int):=some (a0_0,a0_1,a0_2)
set_option maxHeartbeats 8000000 in
set_option maxRecDepth 100000 in
theorem laws_toAction.calls (a0_0:Int) (a0_1:Int) (a0_2:Int) (r1:Int) (r2:Int) (r3:Int) (w:World) (h:laws_toAction.f a0_0 a0_1 a0_2=some (r1,r2,r3)) :
  Calls Try.prog 27 #[.agg #[.int .i64 a0_0,.int .i64 a0_1,.int .i64 a0_2]] w fun e w'=>e = .returned (.agg #[.int .i64 r1,.int .i64 r2,.int .i64 r3])∧Below w.heap.size w w':=by
 have hu39:=Try.underlying39
 have hu48:=Try.underlying48
 have HB:=am (Below.refl w.heap.size w)
 have H:(some (a0_0,a0_1,a0_2))=some (r1,r2,r3):=h
 clear h
 simp only[Option.some.injEq,Prod.mk.injEq] at H
 obtain⟨rfl,rfl,rfl⟩:=H
 go_enter Try.func27,Try.ntmps27
 go_wp2_with (first|((with_reducible refine gate_dst (N:=1) rfl ?_);refine box_event ?hg (N:=1) ?hd (cs := #[.int .i64 a0_0,.int .i64 a0_1,.int .i64 a0_2]) (t:=39) ?hr ?_;(case hd=>rfl);(case hg=>rfl);(case hr=>first|(go_simp;done)|(go_simp;rfl));intro gb264 hg w2 hbox hb;have n0_:=am (below_step bl hb);have n1_:=am (hbox);have n2_:=am ((by rw[hg];exact(below_size bl):w.heap.size≤gb264));have n3_:=am ((by rw[hg];exact(below_size bl):w.heap.size≤gb264));clear HB;have HB:=n0_;have BK264:=n1_;have GW264:=n2_;have GE264:=n3_;clear n0_ n1_ n2_ n3_ hb hbox hg)|((with_reducible refine gate_dst (N:=2) rfl ?_);refine box_event ?hg (N:=2) ?hd (cs := #[.int .i64 0,.int .i64 0,.int .i64 0]) (t:=48) ?hr ?_;(case hd=>rfl);(case hg=>rfl);(case hr=>first|(go_simp;done)|(go_simp;rfl));intro gb265 hg w3 hbox hb;have n0_:=am (blk_below (g:=gb264) (o := .cells #[.int .i64 a0_0,.int .i64 a0_1,.int .i64 a0_2] 39 (0,0)) (bup BK264.out) hb);have n1_:=am (below_step bl hb);have n2_:=am (hbox);have n3_:=am ((by rw[hg];exact(below_size bl):w.heap.size≤gb265));have n4_:=am ((by rw[hg];exact(below_size bl):w.heap.size≤gb265));have n5_:=am ((by rw[hg];exact Nat.ne_of_lt (blk_lt (g:=gb264) (o := .cells #[.int .i64 a0_0,.int .i64 a0_1,.int .i64 a0_2] 39 (0,0)) (bup BK264.out)):gb264≠gb265));have n6_:=am ((by rw[hg];exact Nat.ne_of_gt (blk_lt (g:=gb264) (o := .cells #[.int .i64 a0_0,.int .i64 a0_1,.int .i64 a0_2] 39 (0,0)) (bup BK264.out)):gb265≠gb264));clear BK264 HB;have BK264:=n0_;have HB:=n1_;have BK265:=n2_;have GW265:=n3_;have GE265:=n4_;have NB264_265:=n5_;have NB265_264:=n6_;clear n0_ n1_ n2_ n3_ n4_ n5_ n6_ hb hbox hg)|((with_reducible refine gate_dst (N:=3) rfl ?_);refine box_event ?hg (N:=3) ?hd (cs := #[.int .i64 0,.int .i64 0,.int .i64 0]) (t:=48) ?hr ?_;(case hd=>rfl);(case hg=>rfl);(case hr=>first|(go_simp;done)|(go_simp;rfl));intro gb266 hg w4 hbox hb;have n0_:=am (blk_below (g:=gb264) (o := .cells #[.int .i64 a0_0,.int .i64 a0_1,.int .i64 a0_2] 39 (0,0)) (bup BK264.out) hb);have n1_:=am (blk_below (g:=gb265) (o := .cells #[.int .i64 0,.int .i64 0,.int .i64 0] 48 (0,0)) (bup BK265.out) hb);have n2_:=am (below_step bl hb);have n3_:=am (hbox);have n4_:=am ((by rw[hg];exact(below_size bl):w.heap.size≤gb266));have n5_:=am ((by rw[hg];exact(below_size bl):w.heap.size≤gb266));have n6_:=am ((by rw[hg];exact Nat.ne_of_lt (blk_lt (g:=gb264) (o := .cells #[.int .i64 a0_0,.int .i64 a0_1,.int .i64 a0_2] 39 (0,0)) (bup BK264.out)):gb264≠gb266));have n7_:=am ((by rw[hg];exact Nat.ne_of_gt (blk_lt (g:=gb264) (o := .cells #[.int .i64 a0_0,.int .i64 a0_1,.int .i64 a0_2] 39 (0,0)) (bup BK264.out)):gb266≠gb264));have n8_:=am ((by rw[hg];exact Nat.ne_of_lt (blk_lt (g:=gb265) (o := .cells #[.int .i64 0,.int .i64 0,.int .i64 0] 48 (0,0)) (bup BK265.out)):gb265≠gb266));have n9_:=am ((by rw[hg];exact Nat.ne_of_gt (blk_lt (g:=gb265) (o := .cells #[.int .i64 0,.int .i64 0,.int .i64 0] 48 (0,0)) (bup BK265.out)):gb266≠gb265));clear BK264 BK265 HB;have BK264:=n0_;have BK265:=n1_;have HB:=n2_;have BK266:=n3_;have GW266:=n4_;have GE266:=n5_;have NB264_266:=n6_;have NB266_264:=n7_;have NB265_266:=n8_;have NB266_265:=n9_;clear n0_ n1_ n2_ n3_ n4_ n5_ n6_ n7_ n8_ n9_ hb hbox hg;have hnb5:=NB264_265.out;have hnc5:=NB265_264.out;have hnb6:=NB264_266.out;have hnc6:=NB266_264.out;have hcz7_0:w4.cell? ⟨gb264,0,none⟩=some (.int .i64 a0_0):=(blk_cell BK264.out 0).trans rfl;have hcz7_1:w4.cell? ⟨gb264,1,none⟩=some (.int .i64 a0_1):=(blk_cell BK264.out 1).trans rfl;have hcz7_2:w4.cell? ⟨gb264,2,none⟩=some (.int .i64 a0_2):=(blk_cell BK264.out 2).trans rfl;have hfz7_0:=blk_frozen BK264.out 0;have hfz7_1:=blk_frozen BK264.out 1;have hfz7_2:=blk_frozen BK264.out 2;have hnb8:=NB266_265.out;have hnc8:=NB265_266.out;have hcz9_0:w4.cell? ⟨gb266,0,none⟩=some (.int .i64 0):=(blk_cell BK266.out 0).trans rfl;have hcz9_1:w4.cell? ⟨gb266,1,none⟩=some (.int .i64 0):=(blk_cell BK266.out 1).trans rfl;have hcz9_2:w4.cell? ⟨gb266,2,none⟩=some (.int .i64 0):=(blk_cell BK266.out 2).trans rfl;have hfz9_0:=blk_frozen BK266.out 0;have hfz9_1:=blk_frozen BK266.out 1;have hfz9_2:=blk_frozen BK266.out 2;have hcz10_0:w4.cell? ⟨gb265,0,none⟩=some (.int .i64 0):=(blk_cell BK265.out 0).trans rfl;have hcz10_1:w4.cell? ⟨gb265,1,none⟩=some (.int .i64 0):=(blk_cell BK265.out 1).trans rfl;have hcz10_2:w4.cell? ⟨gb265,2,none⟩=some (.int .i64 0):=(blk_cell BK265.out 2).trans rfl;have hfz10_0:=blk_frozen BK265.out 0;have hfz10_1:=blk_frozen BK265.out 1;have hfz10_2:=blk_frozen BK265.out 2))
 refine bodyPost_ret (results_cell_row rfl _ _ gb265 48 #[.int .i64 a0_0,.int .i64 a0_1,.int .i64 a0_2] (0,0) _ rfl (by(with_reducible repeat(first|refine bN_ ?_ _|refine bD_ ?_|refine bA_ ?_ _));refine blk_put (cs := #[.int .i64 a0_0,.int .i64 a0_1,.int .i64 0]) ?_ 2 _ rfl;(with_reducible repeat(first|refine bN_ ?_ _|refine bD_ ?_|refine bA_ ?_ _));refine blk_put (cs := #[.int .i64 a0_0,.int .i64 0,.int .i64 0]) ?_ 1 _ rfl;(with_reducible repeat(first|refine bN_ ?_ _|refine bD_ ?_|refine bA_ ?_ _));refine blk_put (cs := #[.int .i64 0,.int .i64 0,.int .i64 0]) ?_ 0 _ rfl;(with_reducible repeat(first|refine bN_ ?_ _|refine bD_ ?_|refine bA_ ?_ _));refine blk_far ?_ NB265_266.out _;(with_reducible repeat(first|refine bN_ ?_ _|refine bD_ ?_|refine bA_ ?_ _));refine blk_far ?_ NB265_266.out _;(with_reducible repeat(first|refine bN_ ?_ _|refine bD_ ?_|refine bA_ ?_ _));refine blk_far ?_ NB265_266.out _;exact bup BK265.out) Try.underlying48 rfl (by kernel_rfl)) rfl ?_
 exact⟨fin1,bl⟩

/-! ### impl_isTrack: function 116 -/
def impl_isTrack.f (a0:Int):Option (Bool):=if a0≥0 then(some (decide (a0<20))) else(some false)
set_option maxHeartbeats 8000000 in
set_option maxRecDepth 100000 in
theorem impl_isTrack.calls (a0:Int) (r:Bool) (w:World) (h:impl_isTrack.f a0=some r) :
  Calls Try.prog 116 #[.int .i64 a0] w fun e w'=>e = .returned (.bool r)∧Drawn0 w w':=by
 have H:(if a0≥0 then(some (decide (a0<20))) else(some false))=some r:=h
 clear h
 by_cases c2:a0≥0
 ·rw[if_pos c2] at H
  have c2b0:decide (0≤a0)=true:=decide_eq_true c2
  clear c2
  obtain rfl:=Option.some.inj H
  go_enter Try.func116,Try.ntmps116
  go_wp2
  go_ret
  exact⟨by first|rfl|(simp;done)|(simp [*];done),by repeat(first|exact Drawn0.refl _|apply Drawn0.step)⟩
 ·rw[if_neg c2] at H
  have c2b0:decide (0≤a0)=false:=decide_eq_false c2
  clear c2
  obtain rfl:=Option.some.inj H
  go_enter Try.func116,Try.ntmps116
  go_wp2
  go_ret
  exact⟨by first|rfl|(simp;done)|(simp [*];done),by repeat(first|exact Drawn0.refl _|apply Drawn0.step)⟩

/-! ### impl_IsHole: function 107 -/
def impl_IsHole.f (a0_0:Int) (a0_1:Int) (a0_2:Int):Option (Bool):=(impl_isTrack.f a0_0).bind fun t268=>(if t268=true then(if a0_1≥0 then(if a0_1<a0_2 then(some (decide (a0_2≤2000))) else(some false)) else(some false)) else(some false))
set_option maxHeartbeats 8000000 in
set_option maxRecDepth 100000 in
theorem impl_IsHole.calls (a0_0:Int) (a0_1:Int) (a0_2:Int) (r:Bool) (w:World) (h:impl_IsHole.f a0_0 a0_1 a0_2=some r) :
  Calls Try.prog 107 #[.agg #[.int .i64 a0_0,.int .i64 a0_1,.int .i64 a0_2]] w fun e w'=>e = .returned (.bool r)∧Below w.heap.size w w':=by
 have hu80:=Try.underlying80
 have HB:=am (Below.refl w.heap.size w)
 have H:((impl_isTrack.f a0_0).bind fun t268=>(if t268=true then(if a0_1≥0 then(if a0_1<a0_2 then(some (decide (a0_2≤2000))) else(some false)) else(some false)) else(some false)))=some r:=h
 clear h
 replace H:=Option.bind_eq_some_iff.mp H
 obtain⟨t268,A20,H⟩:=H
 replace H:(if t268=true then(if a0_1≥0 then(if a0_1<a0_2 then(some (decide (a0_2≤2000))) else(some false)) else(some false)) else(some false))=some r:=H
 have A2:=am A20
 clear A20
 by_cases c3:t268=true
 ·subst c3
  have H1:(if a0_1≥0 then(if a0_1<a0_2 then(some (decide (a0_2≤2000))) else(some false)) else(some false))=some r:=by rw[if_pos rfl] at H;exact H
  clear H
  have H:=H1
  clear H1
  by_cases c4:a0_1≥0
  ·rw[if_pos c4] at H
   have c4b0:decide (0≤a0_1)=true:=decide_eq_true c4
   clear c4
   by_cases c5:a0_1<a0_2
   ·rw[if_pos c5] at H
    have c5b0:decide (a0_1<a0_2)=true:=decide_eq_true c5
    clear c5
    obtain rfl:=Option.some.inj H
    go_enter Try.func107,Try.ntmps107
    go_wp2_with (first|((with_reducible refine gate_dst (N:=1) rfl ?_);refine box_event ?hg (N:=1) ?hd (cs := #[.int .i64 a0_0,.int .i64 a0_1,.int .i64 a0_2]) (t:=80) ?hr ?_;(case hd=>rfl);(case hg=>rfl);(case hr=>first|(go_simp;done)|(go_simp;rfl));intro gb267 hg w6 hbox hb;have n0_:=am (below_step bl hb);have n1_:=am (hbox);have n2_:=am ((by rw[hg];exact(below_size bl):w.heap.size≤gb267));have n3_:=am ((by rw[hg];exact(below_size bl):w.heap.size≤gb267));clear HB;have HB:=n0_;have BK267:=n1_;have GW267:=n2_;have GE267:=n3_;clear n0_ n1_ n2_ n3_ hb hbox hg;have hcz7_0:w6.cell? ⟨gb267,0,none⟩=some (.int .i64 a0_0):=(blk_cell BK267.out 0).trans rfl;have hcz7_1:w6.cell? ⟨gb267,1,none⟩=some (.int .i64 a0_1):=(blk_cell BK267.out 1).trans rfl;have hcz7_2:w6.cell? ⟨gb267,2,none⟩=some (.int .i64 a0_2):=(blk_cell BK267.out 2).trans rfl;have hfz7_0:=blk_frozen BK267.out 0;have hfz7_1:=blk_frozen BK267.out 1;have hfz7_2:=blk_frozen BK267.out 2)|((with_reducible refine gate_callee (f:=116) rfl ?_);refine goesL_ (some 5) rfl rfl Try.func116 (by kernel_rfl) rfl #[.int .i64 a0_0] rfl (by(try simp only[List.map_toArray,List.map_cons,List.map_nil]);first|done|rfl|(simp only[List.length_drop,List.length_take];rfl)) ?_;(with_reducible refine(impl_isTrack.calls a0_0 true _ A2.out).mono ?_);rintro e w' ⟨rfl,⟨nd,rfl⟩⟩;refine⟨_,rfl,?_⟩))
    go_ret
    exact⟨fin1,bl⟩
   ·rw[if_neg c5] at H
    have c5b0:decide (a0_1<a0_2)=false:=decide_eq_false c5
    clear c5
    obtain rfl:=Option.some.inj H
    go_enter Try.func107,Try.ntmps107
    go_wp2_with (first|((with_reducible refine gate_dst (N:=1) rfl ?_);refine box_event ?hg (N:=1) ?hd (cs := #[.int .i64 a0_0,.int .i64 a0_1,.int .i64 a0_2]) (t:=80) ?hr ?_;(case hd=>rfl);(case hg=>rfl);(case hr=>first|(go_simp;done)|(go_simp;rfl));intro gb267 hg w8 hbox hb;have n0_:=am (below_step bl hb);have n1_:=am (hbox);have n2_:=am ((by rw[hg];exact(below_size bl):w.heap.size≤gb267));have n3_:=am ((by rw[hg];exact(below_size bl):w.heap.size≤gb267));clear HB;have HB:=n0_;have BK267:=n1_;have GW267:=n2_;have GE267:=n3_;clear n0_ n1_ n2_ n3_ hb hbox hg;have hcz9_0:w8.cell? ⟨gb267,0,none⟩=some (.int .i64 a0_0):=(blk_cell BK267.out 0).trans rfl;have hcz9_1:w8.cell? ⟨gb267,1,none⟩=some (.int .i64 a0_1):=(blk_cell BK267.out 1).trans rfl;have hcz9_2:w8.cell? ⟨gb267,2,none⟩=some (.int .i64 a0_2):=(blk_cell BK267.out 2).trans rfl;have hfz9_0:=blk_frozen BK267.out 0;have hfz9_1:=blk_frozen BK267.out 1;have hfz9_2:=blk_frozen BK267.out 2)|((with_reducible refine gate_callee (f:=116) rfl ?_);refine goesL_ (some 5) rfl rfl Try.func116 (by kernel_rfl) rfl #[.int .i64 a0_0] rfl (by(try simp only[List.map_toArray,List.map_cons,List.map_nil]);first|done|rfl|(simp only[List.length_drop,List.length_take];rfl)) ?_;(with_reducible refine(impl_isTrack.calls a0_0 true _ A2.out).mono ?_);rintro e w' ⟨rfl,⟨nd,rfl⟩⟩;refine⟨_,rfl,?_⟩))
    go_ret
    exact⟨fin1,bl⟩
  ·rw[if_neg c4] at H
   have c4b0:decide (0≤a0_1)=false:=decide_eq_false c4
   clear c4
   obtain rfl:=Option.some.inj H
   go_enter Try.func107,Try.ntmps107
   go_wp2_with (first|((with_reducible refine gate_dst (N:=1) rfl ?_);refine box_event ?hg (N:=1) ?hd (cs := #[.int .i64 a0_0,.int .i64 a0_1,.int .i64 a0_2]) (t:=80) ?hr ?_;(case hd=>rfl);(case hg=>rfl);(case hr=>first|(go_simp;done)|(go_simp;rfl));intro gb267 hg w10 hbox hb;have n0_:=am (below_step bl hb);have n1_:=am (hbox);have n2_:=am ((by rw[hg];exact(below_size bl):w.heap.size≤gb267));have n3_:=am ((by rw[hg];exact(below_size bl):w.heap.size≤gb267));clear HB;have HB:=n0_;have BK267:=n1_;have GW267:=n2_;have GE267:=n3_;clear n0_ n1_ n2_ n3_ hb hbox hg;have hcz11_0:w10.cell? ⟨gb267,0,none⟩=some (.int .i64 a0_0):=(blk_cell BK267.out 0).trans rfl;have hcz11_1:w10.cell? ⟨gb267,1,none⟩=some (.int .i64 a0_1):=(blk_cell BK267.out 1).trans rfl;have hcz11_2:w10.cell? ⟨gb267,2,none⟩=some (.int .i64 a0_2):=(blk_cell BK267.out 2).trans rfl;have hfz11_0:=blk_frozen BK267.out 0;have hfz11_1:=blk_frozen BK267.out 1;have hfz11_2:=blk_frozen BK267.out 2)|((with_reducible refine gate_callee (f:=116) rfl ?_);refine goesL_ (some 5) rfl rfl Try.func116 (by kernel_rfl) rfl #[.int .i64 a0_0] rfl (by(try simp only[List.map_toArray,List.map_cons,List.map_nil]);first|done|rfl|(simp only[List.length_drop,List.length_take];rfl)) ?_;(with_reducible refine(impl_isTrack.calls a0_0 true _ A2.out).mono ?_);rintro e w' ⟨rfl,⟨nd,rfl⟩⟩;refine⟨_,rfl,?_⟩))
   go_ret
   exact⟨fin1,bl⟩
 ·replace c3:=Bool.eq_false_iff.mpr c3
  subst c3
  have H1:(some false)=some r:=by rw[if_neg (show ¬ (false=true) by decide)] at H;exact H
  clear H
  have H:=H1
  clear H1
  obtain rfl:=Option.some.inj H
  go_enter Try.func107,Try.ntmps107
  go_wp2_with (first|((with_reducible refine gate_dst (N:=1) rfl ?_);refine box_event ?hg (N:=1) ?hd (cs := #[.int .i64 a0_0,.int .i64 a0_1,.int .i64 a0_2]) (t:=80) ?hr ?_;(case hd=>rfl);(case hg=>rfl);(case hr=>first|(go_simp;done)|(go_simp;rfl));intro gb267 hg w12 hbox hb;have n0_:=am (below_step bl hb);have n1_:=am (hbox);have n2_:=am ((by rw[hg];exact(below_size bl):w.heap.size≤gb267));have n3_:=am ((by rw[hg];exact(below_size bl):w.heap.size≤gb267));clear HB;have HB:=n0_;have BK267:=n1_;have GW267:=n2_;have GE267:=n3_;clear n0_ n1_ n2_ n3_ hb hbox hg;have hcz13_0:w12.cell? ⟨gb267,0,none⟩=some (.int .i64 a0_0):=(blk_cell BK267.out 0).trans rfl;have hcz13_1:w12.cell? ⟨gb267,1,none⟩=some (.int .i64 a0_1):=(blk_cell BK267.out 1).trans rfl;have hcz13_2:w12.cell? ⟨gb267,2,none⟩=some (.int .i64 a0_2):=(blk_cell BK267.out 2).trans rfl;have hfz13_0:=blk_frozen BK267.out 0;have hfz13_1:=blk_frozen BK267.out 1;have hfz13_2:=blk_frozen BK267.out 2)|((with_reducible refine gate_callee (f:=116) rfl ?_);refine goesL_ (some 5) rfl rfl Try.func116 (by kernel_rfl) rfl #[.int .i64 a0_0] rfl (by(try simp only[List.map_toArray,List.map_cons,List.map_nil]);first|done|rfl|(simp only[List.length_drop,List.length_take];rfl)) ?_;(with_reducible refine(impl_isTrack.calls a0_0 false _ A2.out).mono ?_);rintro e w' ⟨rfl,⟨nd,rfl⟩⟩;refine⟨_,rfl,?_⟩))
  go_ret
  exact⟨fin1,bl⟩

/-! ### impl_holeLess: function 108 -/
def impl_holeLess.f (a0_0:Int) (a0_1:Int) (a0_2:Int) (a1_0:Int) (a1_1:Int) (a1_2:Int):Option (Bool):=if a0_1=a1_1 then(some (decide (a0_0<a1_0))) else(some (decide (a0_1<a1_1)))
set_option maxHeartbeats 8000000 in
set_option maxRecDepth 100000 in
theorem impl_holeLess.calls (a0_0:Int) (a0_1:Int) (a0_2:Int) (a1_0:Int) (a1_1:Int) (a1_2:Int) (r:Bool) (w:World) (h:impl_holeLess.f a0_0 a0_1 a0_2 a1_0 a1_1 a1_2=some r) :
  Calls Try.prog 108 #[.agg #[.int .i64 a0_0,.int .i64 a0_1,.int .i64 a0_2],.agg #[.int .i64 a1_0,.int .i64 a1_1,.int .i64 a1_2]] w fun e w'=>e = .returned (.bool r)∧Below w.heap.size w w':=by
 have hu80:=Try.underlying80
 have HB:=am (Below.refl w.heap.size w)
 have H:(if a0_1=a1_1 then(some (decide (a0_0<a1_0))) else(some (decide (a0_1<a1_1))))=some r:=h
 clear h
 by_cases c3:a0_1=a1_1
 ·rw[if_pos c3] at H
  have c3b0:(a0_1 == a1_1)=true:=beq_iff_eq.mpr c3
  have c3b1:(a0_1 != a1_1)=false:=bne_eq_false_iff_eq.mpr c3
  clear c3
  obtain rfl:=Option.some.inj H
  go_enter Try.func108,Try.ntmps108
  go_wp2_with (first|((with_reducible refine gate_dst (N:=2) rfl ?_);refine box_event ?hg (N:=2) ?hd (cs := #[.int .i64 a0_0,.int .i64 a0_1,.int .i64 a0_2]) (t:=80) ?hr ?_;(case hd=>rfl);(case hg=>rfl);(case hr=>first|(go_simp;done)|(go_simp;rfl));intro gb269 hg w4 hbox hb;have n0_:=am (below_step bl hb);have n1_:=am (hbox);have n2_:=am ((by rw[hg];exact(below_size bl):w.heap.size≤gb269));have n3_:=am ((by rw[hg];exact(below_size bl):w.heap.size≤gb269));clear HB;have HB:=n0_;have BK269:=n1_;have GW269:=n2_;have GE269:=n3_;clear n0_ n1_ n2_ n3_ hb hbox hg)|((with_reducible refine gate_dst (N:=3) rfl ?_);refine box_event ?hg (N:=3) ?hd (cs := #[.int .i64 a1_0,.int .i64 a1_1,.int .i64 a1_2]) (t:=80) ?hr ?_;(case hd=>rfl);(case hg=>rfl);(case hr=>first|(go_simp;done)|(go_simp;rfl));intro gb270 hg w5 hbox hb;have n0_:=am (blk_below (g:=gb269) (o := .cells #[.int .i64 a0_0,.int .i64 a0_1,.int .i64 a0_2] 80 (0,0)) (bup BK269.out) hb);have n1_:=am (below_step bl hb);have n2_:=am (hbox);have n3_:=am ((by rw[hg];exact(below_size bl):w.heap.size≤gb270));have n4_:=am ((by rw[hg];exact(below_size bl):w.heap.size≤gb270));have n5_:=am ((by rw[hg];exact Nat.ne_of_lt (blk_lt (g:=gb269) (o := .cells #[.int .i64 a0_0,.int .i64 a0_1,.int .i64 a0_2] 80 (0,0)) (bup BK269.out)):gb269≠gb270));have n6_:=am ((by rw[hg];exact Nat.ne_of_gt (blk_lt (g:=gb269) (o := .cells #[.int .i64 a0_0,.int .i64 a0_1,.int .i64 a0_2] 80 (0,0)) (bup BK269.out)):gb270≠gb269));clear BK269 HB;have BK269:=n0_;have HB:=n1_;have BK270:=n2_;have GW270:=n3_;have GE270:=n4_;have NB269_270:=n5_;have NB270_269:=n6_;clear n0_ n1_ n2_ n3_ n4_ n5_ n6_ hb hbox hg;have hnb6:=NB269_270.out;have hnc6:=NB270_269.out;have hcz7_0:w5.cell? ⟨gb269,0,none⟩=some (.int .i64 a0_0):=(blk_cell BK269.out 0).trans rfl;have hcz7_1:w5.cell? ⟨gb269,1,none⟩=some (.int .i64 a0_1):=(blk_cell BK269.out 1).trans rfl;have hcz7_2:w5.cell? ⟨gb269,2,none⟩=some (.int .i64 a0_2):=(blk_cell BK269.out 2).trans rfl;have hfz7_0:=blk_frozen BK269.out 0;have hfz7_1:=blk_frozen BK269.out 1;have hfz7_2:=blk_frozen BK269.out 2;have hcz8_0:w5.cell? ⟨gb270,0,none⟩=some (.int .i64 a1_0):=(blk_cell BK270.out 0).trans rfl;have hcz8_1:w5.cell? ⟨gb270,1,none⟩=some (.int .i64 a1_1):=(blk_cell BK270.out 1).trans rfl;have hcz8_2:w5.cell? ⟨gb270,2,none⟩=some (.int .i64 a1_2):=(blk_cell BK270.out 2).trans rfl;have hfz8_0:=blk_frozen BK270.out 0;have hfz8_1:=blk_frozen BK270.out 1;have hfz8_2:=blk_frozen BK270.out 2))
  go_ret
  exact⟨fin1,bl⟩
 ·rw[if_neg c3] at H
  have c3b0:(a0_1 == a1_1)=false:=beq_eq_false_iff_ne.mpr c3
  have c3b1:(a0_1 != a1_1)=true:=bne_iff_ne.mpr c3
  obtain rfl:=Option.some.inj H
  go_enter Try.func108,Try.ntmps108
  go_wp2_with (first|((with_reducible refine gate_dst (N:=2) rfl ?_);refine box_event ?hg (N:=2) ?hd (cs := #[.int .i64 a0_0,.int .i64 a0_1,.int .i64 a0_2]) (t:=80) ?hr ?_;(case hd=>rfl);(case hg=>rfl);(case hr=>first|(go_simp;done)|(go_simp;rfl));intro gb269 hg w9 hbox hb;have n0_:=am (below_step bl hb);have n1_:=am (hbox);have n2_:=am ((by rw[hg];exact(below_size bl):w.heap.size≤gb269));have n3_:=am ((by rw[hg];exact(below_size bl):w.heap.size≤gb269));clear HB;have HB:=n0_;have BK269:=n1_;have GW269:=n2_;have GE269:=n3_;clear n0_ n1_ n2_ n3_ hb hbox hg)|((with_reducible refine gate_dst (N:=3) rfl ?_);refine box_event ?hg (N:=3) ?hd (cs := #[.int .i64 a1_0,.int .i64 a1_1,.int .i64 a1_2]) (t:=80) ?hr ?_;(case hd=>rfl);(case hg=>rfl);(case hr=>first|(go_simp;done)|(go_simp;rfl));intro gb270 hg w10 hbox hb;have n0_:=am (blk_below (g:=gb269) (o := .cells #[.int .i64 a0_0,.int .i64 a0_1,.int .i64 a0_2] 80 (0,0)) (bup BK269.out) hb);have n1_:=am (below_step bl hb);have n2_:=am (hbox);have n3_:=am ((by rw[hg];exact(below_size bl):w.heap.size≤gb270));have n4_:=am ((by rw[hg];exact(below_size bl):w.heap.size≤gb270));have n5_:=am ((by rw[hg];exact Nat.ne_of_lt (blk_lt (g:=gb269) (o := .cells #[.int .i64 a0_0,.int .i64 a0_1,.int .i64 a0_2] 80 (0,0)) (bup BK269.out)):gb269≠gb270));have n6_:=am ((by rw[hg];exact Nat.ne_of_gt (blk_lt (g:=gb269) (o := .cells #[.int .i64 a0_0,.int .i64 a0_1,.int .i64 a0_2] 80 (0,0)) (bup BK269.out)):gb270≠gb269));clear BK269 HB;have BK269:=n0_;have HB:=n1_;have BK270:=n2_;have GW270:=n3_;have GE270:=n4_;have NB269_270:=n5_;have NB270_269:=n6_;clear n0_ n1_ n2_ n3_ n4_ n5_ n6_ hb hbox hg;have hnb11:=NB269_270.out;have hnc11:=NB270_269.out;have hcz12_0:w10.cell? ⟨gb269,0,none⟩=some (.int .i64 a0_0):=(blk_cell BK269.out 0).trans rfl;have hcz12_1:w10.cell? ⟨gb269,1,none⟩=some (.int .i64 a0_1):=(blk_cell BK269.out 1).trans rfl;have hcz12_2:w10.cell? ⟨gb269,2,none⟩=some (.int .i64 a0_2):=(blk_cell BK269.out 2).trans rfl;have hfz12_0:=blk_frozen BK269.out 0;have hfz12_1:=blk_frozen BK269.out 1;have hfz12_2:=blk_frozen BK269.out 2;have hcz13_0:w10.cell? ⟨gb270,0,none⟩=some (.int .i64 a1_0):=(blk_cell BK270.out 0).trans rfl;have hcz13_1:w10.cell? ⟨gb270,1,none⟩=some (.int .i64 a1_1):=(blk_cell BK270.out 1).trans rfl;have hcz13_2:w10.cell? ⟨gb270,2,none⟩=some (.int .i64 a1_2):=(blk_cell BK270.out 2).trans rfl;have hfz13_0:=blk_frozen BK270.out 0;have hfz13_1:=blk_frozen BK270.out 1;have hfz13_2:=blk_frozen BK270.out 2))
  go_ret
  exact⟨fin1,bl⟩

end Go.Proofs.Ytjniaiobnbdhhab.PFnExactPlaysAsPromised
