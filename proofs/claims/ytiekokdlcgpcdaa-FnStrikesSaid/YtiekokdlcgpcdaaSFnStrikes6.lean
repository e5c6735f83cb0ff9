/- Walks of functions that FnStrikes reaches. No conditions beyond the arguments' being read. -/
import Derived.Test.YtiekokdlcgpcdaaSFnStrikes0
import Derived.Test.YtiekokdlcgpcdaaSFnStrikes5
namespace Go.Proofs.Ytiekokdlcgpcdaa.PFnStrikes
open Go.RowKit Go.Proofs.YtiekokdlcgpcdaaW.PrintWords Go.Proofs.YtiekokdlcgpcdaaW.PrintLast Go.Proofs.YtiekokdlcgpcdaaW.PrintMore
attribute [local go_sem] max2_int min2_int max_two min_two max_three min_three max_four min_four
set_option linter.unusedVariables false
set_option linter.unusedSimpArgs false

mutual
def spec_coGive.l0:Nat→List (S41)→List (S45)→Int→List Int→Int→Int→Option (List Int×Bool)
 | 0,_,_,_,_,_,_=>none
 | k+1,x0,x1,x2,x9,x20,x21=>if x21<x20 then(if 0≤x21 then(if x21<(x9.length:Int) then(spec_coGive.l0 k x0 x1 x2 (x9.set (x21:Int).toNat (wrap64 (-x2))) x20 (wrap64 (x21+1))) else(none)) else(none)) else(spec_coGive.l1 k x0 x2 ([]:List Int) x9 x1 (x1.length:Int) 0)
def spec_coGive.l1:Nat→List (S41)→Int→List Int→List Int→List (S45)→Int→Int→Option (List Int×Bool)
 | 0,_,_,_,_,_,_,_=>none
 | k+1,x0,x2,x8,x9,x30,x31,x32=>if x32<x31 then(if 0≤x32 then(if x32<(x30.length:Int) then((spec_coTeeth.f k x0 ((rd_T45 x30 x32).f0)).bind fun t341=>(spec_coGive.l2 k x0 x2 x8 x9 (-1) x30 x31 x32 t341 (t341.length:Int) 0 ((rd_T45 x30 x32).f0) ((rd_T45 x30 x32).f1))) else(none)) else(none)) else(some (x8,true))
def spec_coGive.l2:Nat→List (S41)→Int→List Int→List Int→Int→List (S45)→Int→Int→List Int→Int→Int→Int→Int→Option (List Int×Bool)
 | 0,_,_,_,_,_,_,_,_,_,_,_,_,_=>none
 | k+1,x0,x2,x8,x9,x13,x30,x31,x32,x39,x40,x41,x341000,x341001=>if x41<x40 then(if 0≤x41 then(if x41<(x39.length:Int) then(if x13<0 then(if 0≤(rd x39 x41) then(if(rd x39 x41)<(x9.length:Int) then(if(wrap64 (x341001 - (rd x9 (rd x39 x41))))≥x2 then(spec_coGive.l2 k x0 x2 x8 x9 (rd x39 x41) x30 x31 x32 x39 x40 (wrap64 (x41+1)) x341000 x341001) else(spec_coGive.l2 k x0 x2 x8 x9 x13 x30 x31 x32 x39 x40 (wrap64 (x41+1)) x341000 x341001)) else(none)) else(none)) else(spec_coGive.l2 k x0 x2 x8 x9 x13 x30 x31 x32 x39 x40 (wrap64 (x41+1)) x341000 x341001)) else(none)) else(none)) else(if x13<0 then(some (([]:List Int),false)) else(if 0≤x13 then(if x13<(x9.length:Int) then(if x8.length<17592186044416 then(spec_coGive.l1 k x0 x2 (x8 ++ [x13]) (x9.set (x13:Int).toNat x341001) x30 x31 (wrap64 (x32+1))) else(none)) else(none)) else(none)))
end
def spec_coGive.f (k:Nat) (l0:List (S41)) (l1:List (S45)) (a2:Int):Option (List Int×Bool):=if 0≤(l0.length:Int) then(if((l0.length:Int):Int).toNat≤35184372088832 then((some (List.replicate ((l0.length:Int):Int).toNat 0:List Int)).bind fun y335=>(spec_coGive.l0 k l0 l1 a2 y335 (y335.length:Int) 0)) else(none)) else(none)
set_option maxHeartbeats 8000000 in
set_option maxRecDepth 100000 in
theorem spec_coGive.calls (k:Nat) (A0:Option Addr) (c0:Nat) (l0:List (S41)) (A1:Option Addr) (c1:Nat) (l1:List (S45)) (a2:Int) (r1:List Int) (r2:Bool) (w:World) (hr0:Kd.C k41 w A0 l0.length l0) (hc0:l0.length≤c0) (hr1:Kd.C k45 w A1 l1.length l1) (hc1:l1.length≤c1) (h:spec_coGive.f k l0 l1 a2=some (r1,r2)) :
  Calls Try.prog 27 #[.slice A0 l0.length c0,.slice A1 l1.length c1,.int .i64 a2] w fun e w'=>∃ v0_:Value,e = .returned (.tuple #[v0_,.bool r2])∧Kd.R (Kd.int .i64) 3 w' w.heap.size (fun _=>True) v0_ r1∧Below w.heap.size w w':=by
 have hu45:=Try.underlying45
 have HR0:=am hr0
 have HC0:=am hc0
 clear hr0 hc0
 have HR1:=am hr1
 have HC1:=am hc1
 clear hr1 hc1
 have HB:=am (Below.refl w.heap.size w)
 have H:(if 0≤(l0.length:Int) then(if((l0.length:Int):Int).toNat≤35184372088832 then((some (List.replicate ((l0.length:Int):Int).toNat 0:List Int)).bind fun y335=>(spec_coGive.l0 k l0 l1 a2 y335 (y335.length:Int) 0)) else(none)) else(none))=some (r1,r2):=h
 clear h
 obtain⟨c4,H⟩:=ifp H
 have c4b0:=eq_true c4
 have c4b1:decide (0≤(l0.length:Int))=true:=decide_eq_true c4
 clear c4
 obtain⟨c5,H⟩:=ifp H
 have c5b0:=eq_true c5
 have c5b1:decide (((l0.length:Int):Int).toNat≤35184372088832)=true:=decide_eq_true c5
 clear c5
 obtain⟨y335,hy335⟩:∃ y_:List Int,y_=(List.replicate ((l0.length:Int):Int).toNat 0):=⟨_,rfl⟩
 replace H:(spec_coGive.l0 k l0 l1 a2 y335 (y335.length:Int) 0)=some (r1,r2):=by subst hy335;exact H
 have Ny335:=am hy335
 clear hy335
 have H':=am H
 clear H
 go_enter Try.func27,Try.ntmps27
 go_wp2_with (first|((with_reducible refine gate_dst (N:=18) rfl ?_);refine Kd.R_make (Kd.int .i64) _ 3 rfl (N:=18) rfl 27 _ _ rfl (l0.length:Int) rfl rfl Try.underlying27 (.int .i64 0) 8 info3 rfl (by decide) (by omega) 0 (ok:=fun _=>True) (okp:=fun _=>True) rfl (fun _ hk=>hk) trivial (od) (Nat.le_trans (Nat.mul_le_mul_right _ (od:(l0.length:Int).toNat≤35184372088832)) (by omega)) (Below.refl _ _) (Nat.le_refl _) ?_;intro v336 w6 ho7 hb hg_ hnew_;clear hg_ hnew_;(first|rw[← Ny335.out] at ho7|(simp only[Int.reduceToNat] at ho7;rw[← Ny335.out] at ho7));have HO337:=am (Kd.R_lower ho7 (below_size bl));replace HB:=am (below_step bl hb);clear hb ho7;obtain⟨Ao8,co8,eo8⟩:=Kd.R_slice HO337.out;subst eo8))
 repeat(go_quiet (first|((with_reducible refine gate_dst (N:=18) rfl ?_);refine Kd.R_make (Kd.int .i64) _ 3 rfl (N:=18) rfl 27 _ _ rfl (l0.length:Int) rfl rfl Try.underlying27 (.int .i64 0) 8 info3 rfl (by decide) (by omega) 0 (ok:=fun _=>True) (okp:=fun _=>True) rfl (fun _ hk=>hk) trivial (od) (Nat.le_trans (Nat.mul_le_mul_right _ (od:(l0.length:Int).toNat≤35184372088832)) (by omega)) (Below.refl _ _) (Nat.le_refl _) ?_;intro v336 w6 ho7 hb hg_ hnew_;clear hg_ hnew_;(first|rw[← Ny335.out] at ho7|(simp only[Int.reduceToNat] at ho7;rw[← Ny335.out] at ho7));have HO337:=am (Kd.R_lower ho7 (below_size bl));replace HB:=am (below_step bl hb);clear hb ho7;obtain⟨Ao8,co8,eo8⟩:=Kd.R_slice HO337.out;subst eo8));try go_wp2_with (first|((with_reducible refine gate_dst (N:=18) rfl ?_);refine Kd.R_make (Kd.int .i64) _ 3 rfl (N:=18) rfl 27 _ _ rfl (l0.length:Int) rfl rfl Try.underlying27 (.int .i64 0) 8 info3 rfl (by decide) (by omega) 0 (ok:=fun _=>True) (okp:=fun _=>True) rfl (fun _ hk=>hk) trivial (od) (Nat.le_trans (Nat.mul_le_mul_right _ (od:(l0.length:Int).toNat≤35184372088832)) (by omega)) (Below.refl _ _) (Nat.le_refl _) ?_;intro v336 w6 ho7 hb hg_ hnew_;clear hg_ hnew_;(first|rw[← Ny335.out] at ho7|(simp only[Int.reduceToNat] at ho7;rw[← Ny335.out] at ho7));have HO337:=am (Kd.R_lower ho7 (below_size bl));replace HB:=am (below_step bl hb);clear hb ho7;obtain⟨Ao8,co8,eo8⟩:=Kd.R_slice HO337.out;subst eo8)))
 go_loopg [21] k (fun kq v21 w'=>∃(x9_1:List Int) (x21_1:Int),v21 = .int .i64 x21_1∧Aside0 (spec_coGive.l0 kq l0 l1 a2 x9_1 (y335.length:Int) x21_1=some (r1,r2))∧Aside0 (kq≤k)∧Aside0 (Kd.R (Kd.int .i64) 3 w' w.heap.size (fun _=>True) (.slice Ao8 y335.length co8) x9_1)∧Aside0 (Below w.heap.size w w'))
 case atStart=>exact⟨(y335),(0),fin2,H',⟨Nat.le_refl _⟩,⟨rup HO337.out⟩,⟨bl⟩⟩
 case round =>
  clear H'
  try clear c4b0
  try clear c4b1
  try clear c5b0
  try clear c5b1
  obtain⟨x9_1,x21_1,rfl,HA,HK1,HO_9,HB⟩:=hrel
  have hl9_1:=(Kd.R_reads' HO_9.out).1
  rw[hl9_1] at HO_9
  (try simp only[hl9_1])
  cases gk with
  | zero=>exact absurd HA.out (by simp [spec_coGive.l0])
  | succ k1 =>
   have H:=HA.out
   clear HA
   simp only[spec_coGive.l0] at H
   rcases itc H with⟨c9,H⟩|⟨c9,H⟩
   ·have c9b0:=decide_eq_true c9
    clear c9
    obtain⟨c10b0,H⟩:=ifb H
    obtain⟨c11b0,H⟩:=ifb H
    obtain⟨y338,hy338⟩:∃ y_:List Int,y_=(x9_1.set (x21_1:Int).toNat (wrap64 (-a2))):=⟨_,rfl⟩
    replace H:(spec_coGive.l0 k1 l0 l1 a2 y338 (y335.length:Int) (wrap64 (x21_1+1)))=some (r1,r2):=by subst hy338;exact H
    have Ny338:=am hy338
    clear hy338
    have H':=am H
    clear H
    have p12:0≤(x21_1:Int):=od
    have q12:(x21_1:Int)<((x9_1.length:Int):Int):=od
    obtain⟨go12,co12,eo12,gb12,gl12,cl12,HG12⟩:=Kd.R_form HO_9.out (by omega)
    (first|cases eo12|(injection eo12 with ea_ en_ ec_;(first|subst ea_|(injection ea_ with ea_;subst ea_));subst ec_;clear en_))
    have GB12:=am gb12
    have GG12:=am HG12
    clear gb12 gl12 HG12
    obtain⟨hx12_0,hf12_0⟩:=Kd.R_celln 0 HO_9.out (x21_1:Int) p12 q12
    replace p12:=eq_true p12
    replace q12:=eq_true q12
    have HP13:=Kd.R_putg HO_9.out (x21_1:Int) (wrap64 (-a2))
    go_wp2_with (first|((with_reducible refine gate_store (t:=3) (p:=28) rfl ?_);(try(rw[drewN_self wr];generalize hq_:World.drewN wr _=wr;replace HO_9:=am (Kd.R_at hq_ HO_9.out);replace HB:=am (below_at hq_ HB.out);clear hq_;(try(have HP13:=Kd.R_putg HO_9.out (x21_1:Int) (wrap64 (-a2))))));refine store_event (t:=3) (p:=28) (v:=?vo_w14) (w1:=(wr.setCell ⟨go12,(x21_1:Int).toNat,none⟩ (.int .i64 (wrap64 (-a2))))) ?hg ?ho ?hn ?hr ?_;(case ho=>rfl);(case hg=>rfl);(case hn=>rfl);(case hr=>first|(go_simp;done)|(go_simp;rfl));intro w14 hw;have hg:wr.grownBy w14 (some go12):=(by rw[hw];exact HP13.2);have hp_:Kd.R (Kd.int .i64) 3 w14 w.heap.size (fun _=>True) (.slice (some ⟨go12,0,none⟩) x9_1.length co8) y338:=(by rw[hw,Ny338.out];exact HP13.1);clear HP13;replace HO_9:=am (hp_);replace HB:=am ((by rw[hw];exact below_set (HB.out) GB12.out:Below w.heap.size w w14));clear hg hw hp_))
    repeat(go_quiet (first|((with_reducible refine gate_store (t:=3) (p:=28) rfl ?_);(try(rw[drewN_self wr];generalize hq_:World.drewN wr _=wr;replace HO_9:=am (Kd.R_at hq_ HO_9.out);replace HB:=am (below_at hq_ HB.out);clear hq_;(try(have HP13:=Kd.R_putg HO_9.out (x21_1:Int) (wrap64 (-a2))))));refine store_event (t:=3) (p:=28) (v:=?vo_w14) (w1:=(wr.setCell ⟨go12,(x21_1:Int).toNat,none⟩ (.int .i64 (wrap64 (-a2))))) ?hg ?ho ?hn ?hr ?_;(case ho=>rfl);(case hg=>rfl);(case hn=>rfl);(case hr=>first|(go_simp;done)|(go_simp;rfl));intro w14 hw;have hg:wr.grownBy w14 (some go12):=(by rw[hw];exact HP13.2);have hp_:Kd.R (Kd.int .i64) 3 w14 w.heap.size (fun _=>True) (.slice (some ⟨go12,0,none⟩) x9_1.length co8) y338:=(by rw[hw,Ny338.out];exact HP13.1);clear HP13;replace HO_9:=am (hp_);replace HB:=am ((by rw[hw];exact below_set (HB.out) GB12.out:Below w.heap.size w w14));clear hg hw hp_));try go_wp2_with (first|((with_reducible refine gate_store (t:=3) (p:=28) rfl ?_);(try(rw[drewN_self wr];generalize hq_:World.drewN wr _=wr;replace HO_9:=am (Kd.R_at hq_ HO_9.out);replace HB:=am (below_at hq_ HB.out);clear hq_;(try(have HP13:=Kd.R_putg HO_9.out (x21_1:Int) (wrap64 (-a2))))));refine store_event (t:=3) (p:=28) (v:=?vo_w14) (w1:=(wr.setCell ⟨go12,(x21_1:Int).toNat,none⟩ (.int .i64 (wrap64 (-a2))))) ?hg ?ho ?hn ?hr ?_;(case ho=>rfl);(case hg=>rfl);(case hn=>rfl);(case hr=>first|(go_simp;done)|(go_simp;rfl));intro w14 hw;have hg:wr.grownBy w14 (some go12):=(by rw[hw];exact HP13.2);have hp_:Kd.R (Kd.int .i64) 3 w14 w.heap.size (fun _=>True) (.slice (some ⟨go12,0,none⟩) x9_1.length co8) y338:=(by rw[hw,Ny338.out];exact HP13.1);clear HP13;replace HO_9:=am (hp_);replace HB:=am ((by rw[hw];exact below_set (HB.out) GB12.out:Below w.heap.size w w14));clear hg hw hp_)))
    (try simp only[← hl9_1])
    go_roundg k1
    case measure=>have:=HK1.out;omega
    case rel=>exact⟨(y338),(wrap64 (x21_1+1)),fin2,H',⟨by have:=HK1.out;omega⟩,⟨by(try simp only[hl9_1]);(with_reducible repeat(first|apply Kd.R_alloc|apply Kd.R_drewN|apply Kd.R_drew));exact HO_9.out⟩,⟨bl⟩⟩
   ·have c9b0:=decide_eq_false c9
    (try rw[hl9_1] at c9b0)
    clear c9
    have H':=am H
    clear H
    go_wp2
    repeat(go_quiet (fail);try go_wp2)
    go_loopg [8,32] k1 (fun kq v8 v32 w'=>∃(x8_2:List Int) (x9_2:List Int) (x32_2:Int),v32 = .int .i64 x32_2∧Aside0 (spec_coGive.l1 kq l0 a2 x8_2 x9_2 l1 (l1.length:Int) x32_2=some (r1,r2))∧Aside0 (kq≤k1)∧Aside0 (Kd.R (Kd.int .i64) 3 w' w.heap.size (fun k_=>some k_≠((.slice Ao8 x9_1.length co8):Value).ownBlock) v8 x8_2)∧Aside0 (Kd.R (Kd.int .i64) 3 w' w.heap.size (fun k_=>some k_≠(v8:Value).ownBlock) (.slice Ao8 x9_1.length co8) x9_2)∧Aside0 (Below w.heap.size w w'))
    case atStart=>exact⟨(([]:List Int)),(x9_1),(0),fin2,H',⟨Nat.le_refl _⟩,⟨by(try simp only[hl9_1]);first|exact Kd.R_nil _ _ _ _ _|exact Kd.N_nil _ _ _ _ _|exact Kd.V_nil _ _ _ _ _|exact Kd.Q_nil _ _ _ _ _|exact Kd.S_nil _ _ _ _ _⟩,⟨by(try simp only[hl9_1]);(with_reducible repeat(first|apply Kd.R_alloc|apply Kd.R_drewN|apply Kd.R_drew));exact Kd.R_mono HO_9.out (fun _ hk=>(by simp [Value.ownBlock]))⟩,⟨bl⟩⟩
    case round =>
     clear H'
     try clear c9b0
     obtain⟨x8_2,x9_2,x32_2,rfl,HA,HK2,HO_8,HO_9,HB⟩:=hrel
     have hl9_2:=(Kd.R_reads' HO_9.out).1
     rw[hl9_2] at HO_9
     (try simp only[hl9_2])
     (try simp only[hl9_2] at HO_8)
     cases gk with
     | zero=>exact absurd HA.out (by simp [spec_coGive.l1])
     | succ k2 =>
      have H:=HA.out
      clear HA
      simp only[spec_coGive.l1] at H
      rcases itc H with⟨c15,H⟩|⟨c15,H⟩
      ·have c15b0:=decide_eq_true c15
       clear c15
       obtain⟨c16b0,H⟩:=ifb H
       obtain⟨c17b0,H⟩:=ifb H
       replace H:=Option.bind_eq_some_iff.mp H
       obtain⟨t341,A180,H⟩:=H
       replace H:(spec_coGive.l2 k2 l0 a2 x8_2 x9_2 (-1) l1 (l1.length:Int) x32_2 t341 (t341.length:Int) 0 ((rd_T45 l1 x32_2).f0) ((rd_T45 l1 x32_2).f1))=some (r1,r2):=H
       have A18:=am A180
       clear A180
       have H':=am H
       clear H
       have p339:0≤(x32_2:Int):=od
       have q339:x32_2<(l1.length:Int):=od
       obtain⟨ad339,e339,hx339_0,hx339_1⟩:=at_T45 HR1.out x32_2 p339 q339
       cases e339
       replace hx339_0:=(HB.out.cell (World.block_lt_of_cell? w _ hx339_0)).trans hx339_0
       replace hx339_1:=(HB.out.cell (World.block_lt_of_cell? w _ hx339_1)).trans hx339_1
       replace p339:=eq_true p339
       replace q339:=eq_true q339
       go_wp2_with (first|((with_reducible refine gate_dst (N:=12) rfl ?_);refine box_event ?hg (N:=12) ?hd (cs := #[.int .i64 0,.int .i64 0]) (t:=45) ?hr ?_;(case hd=>rfl);(case hg=>rfl);(case hr=>first|(go_simp;done)|(go_simp;rfl));intro gb340 hg w19 hbox hb;replace HO_8:=am (Kd.R_below (rup HO_8.out) hb);replace HO_9:=am (Kd.R_below (rup HO_9.out) hb);have BK340:=am (hbox);have GW340:=am (ge_ bl hg);have GE340:=am (ge_ bl hg);replace HB:=am (below_step bl hb);clear hb hbox hg;have hcz20_0:=bc BK340.out 0;have hcz20_1:=bc BK340.out 1;have hfz20_0:=blk_frozen BK340.out 0;have hfz20_1:=blk_frozen BK340.out 1)|(go_at_call 39;(with_reducible refine(spec_coTeeth.calls k2 _ _ l0 ((rd_T45 l1 x32_2).f0) t341 _ ?side1 ?side2 A18.out).mono ?_);(case side1=>exact Kd.C_below HR0.out bl);(case side2=>exact HC0.out);rintro e w21 ⟨v342,rfl,ho0,hb⟩;have HO343:=am (Kd.R_lower (Kd.R_new' (Kd.R_new' ho0 (Kd.R_lt (by(with_reducible repeat(first|apply Kd.R_alloc|apply Kd.R_drewN|apply Kd.R_drew));exact(Kd.R_mono (Kd.R_far (p:=⟨gb340,1,none⟩) (Kd.R_far (p:=⟨gb340,0,none⟩) (Kd.R_types HO_8.out BK340.out (by decide)) (fun _ hk=>hk.2) (.int .i64 ((rd_T45 l1 x32_2).f0))) (fun _ hk=>hk.2) (.int .i64 ((rd_T45 l1 x32_2).f1))) (fun _ h_=>h_.1))))) (Kd.R_lt (by(with_reducible repeat(first|apply Kd.R_alloc|apply Kd.R_drewN|apply Kd.R_drew));exact(Kd.R_mono (Kd.R_far (p:=⟨gb340,1,none⟩) (Kd.R_far (p:=⟨gb340,0,none⟩) (Kd.R_types HO_9.out BK340.out (by decide)) (fun _ hk=>hk.2) (.int .i64 ((rd_T45 l1 x32_2).f0))) (fun _ hk=>hk.2) (.int .i64 ((rd_T45 l1 x32_2).f1))) (fun _ h_=>h_.1))))) (below_size bl));replace HO_8:=am (Kd.R_elder' (by(with_reducible repeat(first|apply Kd.R_alloc|apply Kd.R_drewN|apply Kd.R_drew));exact(Kd.R_mono (Kd.R_far (p:=⟨gb340,1,none⟩) (Kd.R_far (p:=⟨gb340,0,none⟩) (Kd.R_types HO_8.out BK340.out (by decide)) (fun _ hk=>hk.2) (.int .i64 ((rd_T45 l1 x32_2).f0))) (fun _ hk=>hk.2) (.int .i64 ((rd_T45 l1 x32_2).f1))) (fun _ h_=>h_.1))) (Kd.R_base ho0) hb);replace HO_9:=am (Kd.R_elder' (by(with_reducible repeat(first|apply Kd.R_alloc|apply Kd.R_drewN|apply Kd.R_drew));exact(Kd.R_mono (Kd.R_far (p:=⟨gb340,1,none⟩) (Kd.R_far (p:=⟨gb340,0,none⟩) (Kd.R_types HO_9.out BK340.out (by decide)) (fun _ hk=>hk.2) (.int .i64 ((rd_T45 l1 x32_2).f0))) (fun _ hk=>hk.2) (.int .i64 ((rd_T45 l1 x32_2).f1))) (fun _ h_=>h_.1))) (Kd.R_base ho0) hb);replace BK340:=am (blk_below (g:=gb340) (o := .cells #[.int .i64 ((rd_T45 l1 x32_2).f0),.int .i64 ((rd_T45 l1 x32_2).f1)] 45 (0,0)) (by(with_reducible repeat(first|refine bN_ ?_ _|refine bD_ ?_|refine bA_ ?_ _));refine blk_put (cs := #[.int .i64 ((rd_T45 l1 x32_2).f0),.int .i64 0]) ?_ 1 _ rfl;(with_reducible repeat(first|refine bN_ ?_ _|refine bD_ ?_|refine bA_ ?_ _));refine blk_put (cs := #[.int .i64 0,.int .i64 0]) ?_ 0 _ rfl;exact bup BK340.out) hb);replace HB:=am (below_step bl hb);(try clear hb);(try clear hk);(try clear ho0);obtain⟨Ao22,co22,eo22⟩:=Kd.R_slice HO343.out;subst eo22))
       repeat(go_quiet (first|((with_reducible refine gate_dst (N:=12) rfl ?_);refine box_event ?hg (N:=12) ?hd (cs := #[.int .i64 0,.int .i64 0]) (t:=45) ?hr ?_;(case hd=>rfl);(case hg=>rfl);(case hr=>first|(go_simp;done)|(go_simp;rfl));intro gb340 hg w19 hbox hb;replace HO_8:=am (Kd.R_below (rup HO_8.out) hb);replace HO_9:=am (Kd.R_below (rup HO_9.out) hb);have BK340:=am (hbox);have GW340:=am (ge_ bl hg);have GE340:=am (ge_ bl hg);replace HB:=am (below_step bl hb);clear hb hbox hg;have hcz20_0:=bc BK340.out 0;have hcz20_1:=bc BK340.out 1;have hfz20_0:=blk_frozen BK340.out 0;have hfz20_1:=blk_frozen BK340.out 1)|(go_at_call 39;(with_reducible refine(spec_coTeeth.calls k2 _ _ l0 ((rd_T45 l1 x32_2).f0) t341 _ ?side1 ?side2 A18.out).mono ?_);(case side1=>exact Kd.C_below HR0.out bl);(case side2=>exact HC0.out);rintro e w21 ⟨v342,rfl,ho0,hb⟩;have HO343:=am (Kd.R_lower (Kd.R_new' (Kd.R_new' ho0 (Kd.R_lt (by(with_reducible repeat(first|apply Kd.R_alloc|apply Kd.R_drewN|apply Kd.R_drew));exact(Kd.R_mono (Kd.R_far (p:=⟨gb340,1,none⟩) (Kd.R_far (p:=⟨gb340,0,none⟩) (Kd.R_types HO_8.out BK340.out (by decide)) (fun _ hk=>hk.2) (.int .i64 ((rd_T45 l1 x32_2).f0))) (fun _ hk=>hk.2) (.int .i64 ((rd_T45 l1 x32_2).f1))) (fun _ h_=>h_.1))))) (Kd.R_lt (by(with_reducible repeat(first|apply Kd.R_alloc|apply Kd.R_drewN|apply Kd.R_drew));exact(Kd.R_mono (Kd.R_far (p:=⟨gb340,1,none⟩) (Kd.R_far (p:=⟨gb340,0,none⟩) (Kd.R_types HO_9.out BK340.out (by decide)) (fun _ hk=>hk.2) (.int .i64 ((rd_T45 l1 x32_2).f0))) (fun _ hk=>hk.2) (.int .i64 ((rd_T45 l1 x32_2).f1))) (fun _ h_=>h_.1))))) (below_size bl));replace HO_8:=am (Kd.R_elder' (by(with_reducible repeat(first|apply Kd.R_alloc|apply Kd.R_drewN|apply Kd.R_drew));exact(Kd.R_mono (Kd.R_far (p:=⟨gb340,1,none⟩) (Kd.R_far (p:=⟨gb340,0,none⟩) (Kd.R_types HO_8.out BK340.out (by decide)) (fun _ hk=>hk.2) (.int .i64 ((rd_T45 l1 x32_2).f0))) (fun _ hk=>hk.2) (.int .i64 ((rd_T45 l1 x32_2).f1))) (fun _ h_=>h_.1))) (Kd.R_base ho0) hb);replace HO_9:=am (Kd.R_elder' (by(with_reducible repeat(first|apply Kd.R_alloc|apply Kd.R_drewN|apply Kd.R_drew));exact(Kd.R_mono (Kd.R_far (p:=⟨gb340,1,none⟩) (Kd.R_far (p:=⟨gb340,0,none⟩) (Kd.R_types HO_9.out BK340.out (by decide)) (fun _ hk=>hk.2) (.int .i64 ((rd_T45 l1 x32_2).f0))) (fun _ hk=>hk.2) (.int .i64 ((rd_T45 l1 x32_2).f1))) (fun _ h_=>h_.1))) (Kd.R_base ho0) hb);replace BK340:=am (blk_below (g:=gb340) (o := .cells #[.int .i64 ((rd_T45 l1 x32_2).f0),.int .i64 ((rd_T45 l1 x32_2).f1)] 45 (0,0)) (by(with_reducible repeat(first|refine bN_ ?_ _|refine bD_ ?_|refine bA_ ?_ _));refine blk_put (cs := #[.int .i64 ((rd_T45 l1 x32_2).f0),.int .i64 0]) ?_ 1 _ rfl;(with_reducible repeat(first|refine bN_ ?_ _|refine bD_ ?_|refine bA_ ?_ _));refine blk_put (cs := #[.int .i64 0,.int .i64 0]) ?_ 0 _ rfl;exact bup BK340.out) hb);replace HB:=am (below_step bl hb);(try clear hb);(try clear hk);(try clear ho0);obtain⟨Ao22,co22,eo22⟩:=Kd.R_slice HO343.out;subst eo22));try go_wp2_with (first|((with_reducible refine gate_dst (N:=12) rfl ?_);refine box_event ?hg (N:=12) ?hd (cs := #[.int .i64 0,.int .i64 0]) (t:=45) ?hr ?_;(case hd=>rfl);(case hg=>rfl);(case hr=>first|(go_simp;done)|(go_simp;rfl));intro gb340 hg w19 hbox hb;replace HO_8:=am (Kd.R_below (rup HO_8.out) hb);replace HO_9:=am (Kd.R_below (rup HO_9.out) hb);have BK340:=am (hbox);have GW340:=am (ge_ bl hg);have GE340:=am (ge_ bl hg);replace HB:=am (below_step bl hb);clear hb hbox hg;have hcz20_0:=bc BK340.out 0;have hcz20_1:=bc BK340.out 1;have hfz20_0:=blk_frozen BK340.out 0;have hfz20_1:=blk_frozen BK340.out 1)|(go_at_call 39;(with_reducible refine(spec_coTeeth.calls k2 _ _ l0 ((rd_T45 l1 x32_2).f0) t341 _ ?side1 ?side2 A18.out).mono ?_);(case side1=>exact Kd.C_below HR0.out bl);(case side2=>exact HC0.out);rintro e w21 ⟨v342,rfl,ho0,hb⟩;have HO343:=am (Kd.R_lower (Kd.R_new' (Kd.R_new' ho0 (Kd.R_lt (by(with_reducible repeat(first|apply Kd.R_alloc|apply Kd.R_drewN|apply Kd.R_drew));exact(Kd.R_mono (Kd.R_far (p:=⟨gb340,1,none⟩) (Kd.R_far (p:=⟨gb340,0,none⟩) (Kd.R_types HO_8.out BK340.out (by decide)) (fun _ hk=>hk.2) (.int .i64 ((rd_T45 l1 x32_2).f0))) (fun _ hk=>hk.2) (.int .i64 ((rd_T45 l1 x32_2).f1))) (fun _ h_=>h_.1))))) (Kd.R_lt (by(with_reducible repeat(first|apply Kd.R_alloc|apply Kd.R_drewN|apply Kd.R_drew));exact(Kd.R_mono (Kd.R_far (p:=⟨gb340,1,none⟩) (Kd.R_far (p:=⟨gb340,0,none⟩) (Kd.R_types HO_9.out BK340.out (by decide)) (fun _ hk=>hk.2) (.int .i64 ((rd_T45 l1 x32_2).f0))) (fun _ hk=>hk.2) (.int .i64 ((rd_T45 l1 x32_2).f1))) (fun _ h_=>h_.1))))) (below_size bl));replace HO_8:=am (Kd.R_elder' (by(with_reducible repeat(first|apply Kd.R_alloc|apply Kd.R_drewN|apply Kd.R_drew));exact(Kd.R_mono (Kd.R_far (p:=⟨gb340,1,none⟩) (Kd.R_far (p:=⟨gb340,0,none⟩) (Kd.R_types HO_8.out BK340.out (by decide)) (fun _ hk=>hk.2) (.int .i64 ((rd_T45 l1 x32_2).f0))) (fun _ hk=>hk.2) (.int .i64 ((rd_T45 l1 x32_2).f1))) (fun _ h_=>h_.1))) (Kd.R_base ho0) hb);replace HO_9:=am (Kd.R_elder' (by(with_reducible repeat(first|apply Kd.R_alloc|apply Kd.R_drewN|apply Kd.R_drew));exact(Kd.R_mono (Kd.R_far (p:=⟨gb340,1,none⟩) (Kd.R_far (p:=⟨gb340,0,none⟩) (Kd.R_types HO_9.out BK340.out (by decide)) (fun _ hk=>hk.2) (.int .i64 ((rd_T45 l1 x32_2).f0))) (fun _ hk=>hk.2) (.int .i64 ((rd_T45 l1 x32_2).f1))) (fun _ h_=>h_.1))) (Kd.R_base ho0) hb);replace BK340:=am (blk_below (g:=gb340) (o := .cells #[.int .i64 ((rd_T45 l1 x32_2).f0),.int .i64 ((rd_T45 l1 x32_2).f1)] 45 (0,0)) (by(with_reducible repeat(first|refine bN_ ?_ _|refine bD_ ?_|refine bA_ ?_ _));refine blk_put (cs := #[.int .i64 ((rd_T45 l1 x32_2).f0),.int .i64 0]) ?_ 1 _ rfl;(with_reducible repeat(first|refine bN_ ?_ _|refine bD_ ?_|refine bA_ ?_ _));refine blk_put (cs := #[.int .i64 0,.int .i64 0]) ?_ 0 _ rfl;exact bup BK340.out) hb);replace HB:=am (below_step bl hb);(try clear hb);(try clear hk);(try clear ho0);obtain⟨Ao22,co22,eo22⟩:=Kd.R_slice HO343.out;subst eo22)))
       go_loopg [13,41] k2 (fun kq v13 v41 w'=>∃(x13_3:Int) (x41_3:Int),v13 = .int .i64 x13_3∧v41 = .int .i64 x41_3∧Aside0 (spec_coGive.l2 kq l0 a2 x8_2 x9_2 x13_3 l1 (l1.length:Int) x32_2 t341 (t341.length:Int) x41_3 ((rd_T45 l1 x32_2).f0) ((rd_T45 l1 x32_2).f1)=some (r1,r2))∧Aside0 (kq≤k2)∧Aside0 (Kd.R (Kd.int .i64) 3 w' w.heap.size (fun k_=>some k_≠((.slice Ao8 x9_2.length co8):Value).ownBlock∧some k_≠((.slice Ao22 t341.length co22):Value).ownBlock) u8 x8_2)∧Aside0 (Kd.R (Kd.int .i64) 3 w' w.heap.size (fun k_=>some k_≠(u8:Value).ownBlock∧some k_≠((.slice Ao22 t341.length co22):Value).ownBlock) (.slice Ao8 x9_2.length co8) x9_2)∧Aside0 (Kd.R (Kd.int .i64) 3 w' w.heap.size (fun k_=>some k_≠(u8:Value).ownBlock∧some k_≠((.slice Ao8 x9_2.length co8):Value).ownBlock) (.slice Ao22 t341.length co22) t341)∧Aside0 (w'.heap[gb340]?=some (.cells #[.int .i64 ((rd_T45 l1 x32_2).f0),.int .i64 ((rd_T45 l1 x32_2).f1)] 45 (0,0)))∧Aside0 (Below w.heap.size w w'))
       case atStart=>exact⟨((-1)),(0),fin2,fin2,H',⟨Nat.le_refl _⟩,⟨by(try simp only[hl9_1]);(try simp only[hl9_2]);(with_reducible repeat(first|apply Kd.R_alloc|apply Kd.R_drewN|apply Kd.R_drew));exact HO_8.out⟩,⟨by(try simp only[hl9_1]);(try simp only[hl9_2]);(with_reducible repeat(first|apply Kd.R_alloc|apply Kd.R_drewN|apply Kd.R_drew));exact HO_9.out⟩,⟨by(try simp only[hl9_1]);(try simp only[hl9_2]);(with_reducible repeat(first|apply Kd.R_alloc|apply Kd.R_drewN|apply Kd.R_drew));exact Kd.R_mono HO343.out (fun _ hk=>⟨hk.1.2,hk.2⟩)⟩,⟨by(try simp only[hl9_1]);(try simp only[hl9_2]);exact bup BK340.out⟩,⟨bl⟩⟩
       case round =>
        clear H'
        try clear c15b0
        try clear c16b0
        try clear c17b0
        try clear hcz20_0
        try clear hcz20_1
        try clear hfz20_0
        try clear hfz20_1
        try clear hx339_0
        try clear hx339_1
        try clear p339
        try clear q339
        obtain⟨x13_3,x41_3,rfl,rfl,HA,HK3,HO_8,HO_9,HO_39,BK340,HB⟩:=hrel
        cases gk with
        | zero=>exact absurd HA.out (by simp [spec_coGive.l2])
        | succ k3 =>
         have H:=HA.out
         clear HA
         simp only[spec_coGive.l2] at H
         rcases itc H with⟨c23,H⟩|⟨c23,H⟩
         ·have c23b0:=decide_eq_true c23
          clear c23
          obtain⟨c24b0,H⟩:=ifb H
          obtain⟨c25b0,H⟩:=ifb H
          rcases itc H with⟨c26,H⟩|⟨c26,H⟩
          ·have c26b0:=decide_eq_true c26
           clear c26
           obtain⟨c27b0,H⟩:=ifb H
           obtain⟨c28b0,H⟩:=ifb H
           rcases itc H with⟨c29,H⟩|⟨c29,H⟩
           ·have c29b0:decide (a2≤(wrap64 (((rd_T45 l1 x32_2).f1) - (rd x9_2 (rd t341 x41_3)))))=true:=decide_eq_true c29
            clear c29
            have H':=am H
            clear H
            have p344:0≤(x41_3:Int):=od
            have q344:x41_3<(t341.length:Int):=od
            obtain⟨ad344,e344,hx344_0⟩:=Kd.at_int (Kd.R_reads' HO_39.out).2.2 x41_3 p344 q344
            cases e344
            replace p344:=eq_true p344
            replace q344:=eq_true q344
            have hcz30_0:=bc BK340.out 0
            have hcz30_1:=bc BK340.out 1
            have hfz30_0:=blk_frozen BK340.out 0
            have hfz30_1:=blk_frozen BK340.out 1
            have p345:0≤((rd t341 x41_3):Int):=od
            have q345:(rd t341 x41_3)<(x9_2.length:Int):=od
            obtain⟨ad345,e345,hx345_0⟩:=Kd.at_int (Kd.R_reads' HO_9.out).2.2 (rd t341 x41_3) p345 q345
            cases e345
            replace p345:=eq_true p345
            replace q345:=eq_true q345
            go_wp2
            repeat(go_quiet (fail);try go_wp2)
            go_roundg k3
            case measure=>have:=HK1.out;have:=HK2.out;have:=HK3.out;omega
            case rel=>exact⟨(rd t341 x41_3),(wrap64 (x41_3+1)),fin2,fin2,H',⟨by have:=HK1.out;have:=HK2.out;have:=HK3.out;omega⟩,⟨by(try simp only[hl9_1]);(try simp only[hl9_2]);(with_reducible repeat(first|apply Kd.R_alloc|apply Kd.R_drewN|apply Kd.R_drew));exact HO_8.out⟩,⟨by(try simp only[hl9_1]);(try simp only[hl9_2]);(with_reducible repeat(first|apply Kd.R_alloc|apply Kd.R_drewN|apply Kd.R_drew));exact HO_9.out⟩,⟨by(try simp only[hl9_1]);(try simp only[hl9_2]);(with_reducible repeat(first|apply Kd.R_alloc|apply Kd.R_drewN|apply Kd.R_drew));exact HO_39.out⟩,⟨by(try simp only[hl9_1]);(try simp only[hl9_2]);exact bup BK340.out⟩,⟨bl⟩⟩
           ·have c29b0:decide (a2≤(wrap64 (((rd_T45 l1 x32_2).f1) - (rd x9_2 (rd t341 x41_3)))))=false:=decide_eq_false c29
            clear c29
            have H':=am H
            clear H
            have p344:0≤(x41_3:Int):=od
            have q344:x41_3<(t341.length:Int):=od
            obtain⟨ad344,e344,hx344_0⟩:=Kd.at_int (Kd.R_reads' HO_39.out).2.2 x41_3 p344 q344
            cases e344
            replace p344:=eq_true p344
            replace q344:=eq_true q344
            have hcz31_0:=bc BK340.out 0
            have hcz31_1:=bc BK340.out 1
            have hfz31_0:=blk_frozen BK340.out 0
            have hfz31_1:=blk_frozen BK340.out 1
            have p345:0≤((rd t341 x41_3):Int):=od
            have q345:(rd t341 x41_3)<(x9_2.length:Int):=od
            obtain⟨ad345,e345,hx345_0⟩:=Kd.at_int (Kd.R_reads' HO_9.out).2.2 (rd t341 x41_3) p345 q345
            cases e345
            replace p345:=eq_true p345
            replace q345:=eq_true q345
            go_wp2
            repeat(go_quiet (fail);try go_wp2)
            go_roundg k3
            case measure=>have:=HK1.out;have:=HK2.out;have:=HK3.out;omega
            case rel=>exact⟨(x13_3),(wrap64 (x41_3+1)),fin2,fin2,H',⟨by have:=HK1.out;have:=HK2.out;have:=HK3.out;omega⟩,⟨by(try simp only[hl9_1]);(try simp only[hl9_2]);(with_reducible repeat(first|apply Kd.R_alloc|apply Kd.R_drewN|apply Kd.R_drew));exact HO_8.out⟩,⟨by(try simp only[hl9_1]);(try simp only[hl9_2]);(with_reducible repeat(first|apply Kd.R_alloc|apply Kd.R_drewN|apply Kd.R_drew));exact HO_9.out⟩,⟨by(try simp only[hl9_1]);(try simp only[hl9_2]);(with_reducible repeat(first|apply Kd.R_alloc|apply Kd.R_drewN|apply Kd.R_drew));exact HO_39.out⟩,⟨by(try simp only[hl9_1]);(try simp only[hl9_2]);exact bup BK340.out⟩,⟨bl⟩⟩
          ·have c26b0:=decide_eq_false c26
           clear c26
           have H':=am H
           clear H
           have p344:0≤(x41_3:Int):=od
           have q344:x41_3<(t341.length:Int):=od
           obtain⟨ad344,e344,hx344_0⟩:=Kd.at_int (Kd.R_reads' HO_39.out).2.2 x41_3 p344 q344
           cases e344
           replace p344:=eq_true p344
           replace q344:=eq_true q344
           go_wp2
           repeat(go_quiet (fail);try go_wp2)
           go_roundg k3
           case measure=>have:=HK1.out;have:=HK2.out;have:=HK3.out;omega
           case rel=>exact⟨(x13_3),(wrap64 (x41_3+1)),fin2,fin2,H',⟨by have:=HK1.out;have:=HK2.out;have:=HK3.out;omega⟩,⟨by(try simp only[hl9_1]);(try simp only[hl9_2]);(with_reducible repeat(first|apply Kd.R_alloc|apply Kd.R_drewN|apply Kd.R_drew));exact HO_8.out⟩,⟨by(try simp only[hl9_1]);(try simp only[hl9_2]);(with_reducible repeat(first|apply Kd.R_alloc|apply Kd.R_drewN|apply Kd.R_drew));exact HO_9.out⟩,⟨by(try simp only[hl9_1]);(try simp only[hl9_2]);(with_reducible repeat(first|apply Kd.R_alloc|apply Kd.R_drewN|apply Kd.R_drew));exact HO_39.out⟩,⟨by(try simp only[hl9_1]);(try simp only[hl9_2]);exact bup BK340.out⟩,⟨bl⟩⟩
         ·have c23b0:=decide_eq_false c23
          clear c23
          rcases itc H with⟨c32,H⟩|⟨c32,H⟩
          ·have c32b0:=decide_eq_true c32
           clear c32
           simp only[Option.some.injEq,Prod.mk.injEq] at H
           obtain⟨rfl,rfl⟩:=H
           go_wp2
           repeat(go_quiet (fail);try go_wp2)
           go_ret2
           exact⟨_,fin1,by first|exact Kd.R_nil _ _ _ _ _|exact Kd.N_nil _ _ _ _ _|exact Kd.V_nil _ _ _ _ _|exact Kd.Q_nil _ _ _ _ _|exact Kd.S_nil _ _ _ _ _,bl⟩
          ·have c32b0:=decide_eq_false c32
           clear c32
           obtain⟨c33b0,H⟩:=ifb H
           obtain⟨c34b0,H⟩:=ifb H
           obtain⟨y346,hy346⟩:∃ y_:List Int,y_=(x9_2.set (x13_3:Int).toNat ((rd_T45 l1 x32_2).f1)):=⟨_,rfl⟩
           replace H:(if x8_2.length<17592186044416 then(spec_coGive.l1 k3 l0 a2 (x8_2 ++ [x13_3]) y346 l1 (l1.length:Int) (wrap64 (x32_2+1))) else(none))=some (r1,r2):=by subst hy346;exact H
           have Ny346:=am hy346
           clear hy346
           obtain⟨c36,H⟩:=ifp H
           have LMc36:=am c36
           clear c36
           obtain⟨y347,hy347⟩:∃ y_:List Int,y_=(x8_2 ++ [x13_3]):=⟨_,rfl⟩
           replace H:(spec_coGive.l1 k3 l0 a2 y347 y346 l1 (l1.length:Int) (wrap64 (x32_2+1)))=some (r1,r2):=by subst hy347;exact H
           have Ny347:=am hy347
           clear hy347
           have H':=am H
           clear H
           have hcz37_0:=bc BK340.out 0
           have hcz37_1:=bc BK340.out 1
           have hfz37_0:=blk_frozen BK340.out 0
           have hfz37_1:=blk_frozen BK340.out 1
           have p35:0≤(x13_3:Int):=od
           have q35:(x13_3:Int)<((x9_2.length:Int):Int):=od
           obtain⟨go35,co35,eo35,gb35,gl35,cl35,HG35⟩:=Kd.R_form HO_9.out (by omega)
           (first|cases eo35|(injection eo35 with ea_ en_ ec_;(first|subst ea_|(injection ea_ with ea_;subst ea_));subst ec_;clear en_))
           have GB35:=am gb35
           have GG35:=am HG35
           clear gb35 gl35 HG35
           obtain⟨hx35_0,hf35_0⟩:=Kd.R_celln 0 HO_9.out (x13_3:Int) p35 q35
           replace p35:=eq_true p35
           replace q35:=eq_true q35
           have HP38:=Kd.R_putg HO_9.out (x13_3:Int) ((rd_T45 l1 x32_2).f1)
           go_wp2_with (first|((with_reducible refine gate_store (t:=3) (p:=66) rfl ?_);(try(rw[drewN_self wr];generalize hq_:World.drewN wr _=wr;replace HO_8:=am (Kd.R_at hq_ HO_8.out);replace HO_9:=am (Kd.R_at hq_ HO_9.out);replace HO_39:=am (Kd.R_at hq_ HO_39.out);replace BK340:=am (blk_at hq_ BK340.out);replace HB:=am (below_at hq_ HB.out);clear hq_;(try(have HP38:=Kd.R_putg HO_9.out (x13_3:Int) ((rd_T45 l1 x32_2).f1)))));refine store_event (t:=3) (p:=66) (v:=?vo_w39) (w1:=(wr.setCell ⟨go35,(x13_3:Int).toNat,none⟩ (.int .i64 ((rd_T45 l1 x32_2).f1)))) ?hg ?ho ?hn ?hr ?_;(case ho=>rfl);(case hg=>rfl);(case hn=>rfl);(case hr=>first|(go_simp;done)|(go_simp;rfl));intro w39 hw;have hg:wr.grownBy w39 (some go35):=(by rw[hw];exact HP38.2);have hp_:Kd.R (Kd.int .i64) 3 w39 w.heap.size (fun k_=>some k_≠(u8:Value).ownBlock∧some k_≠(.slice Ao22 t341.length co22:Value).ownBlock) (.slice (some ⟨go35,0,none⟩) x9_2.length co8) y346:=(by rw[hw,Ny346.out];exact HP38.1);clear HP38;replace HO_8:=am (Kd.R_after (v:=(.slice (some ⟨go35,0,none⟩) x9_2.length co8)) (v1:=(.slice (some ⟨go35,0,none⟩) x9_2.length co8)) (ok:=(fun k_=>some k_≠(.slice Ao22 t341.length co22:Value).ownBlock)) (rup (Kd.R_mono HO_8.out (fun _ hk=>⟨hk.2,hk.1⟩))) hg (.inl rfl));replace HO_39:=am (Kd.R_after (v:=(.slice (some ⟨go35,0,none⟩) x9_2.length co8)) (v1:=(.slice (some ⟨go35,0,none⟩) x9_2.length co8)) (ok:=(fun k_=>some k_≠(u8:Value).ownBlock)) (rup HO_39.out) hg (.inl rfl));replace BK340:=am (blk_grown (bup BK340.out) hg (Kd.R_ne HO_9.out BK340.out (by decide)));replace HO_9:=am (hp_);replace HB:=am ((by rw[hw];exact below_set (HB.out) GB35.out:Below w.heap.size w w39));clear hg hw hp_)|((with_reducible refine gate_builtin (b := .append) (xs := #[.tmp 67,.tmp 69]) rfl ?_);at_builtin;refine Kd.R_append (Kd.int .i64) (w0:=w) w.heap.size rfl (.tmp 67) (.tmp 69) 27 3 (.int .i64 0) 8 rfl Try.underlying27 info3 rfl (by decide) (by omega) u8 x8_2 x13_3 [.int .i64 x13_3] (fun k_=>some k_≠(.slice (some ⟨go35,0,none⟩) x9_2.length co8:Value).ownBlock∧some k_≠(.slice Ao22 t341.length co22:Value).ownBlock) (fun _=>False) rfl rfl ?aP (fun _ hk=>hk.elim) ?aF ?aO ?aB ?aS ?aL ?_;(case aP=>exact rfl);(case aB=>exact bl);(case aF=>exact(fun k_ hk=>⟨Kd.fresh' (Kd.R_lt (rup HO_9.out)) k_ hk,Kd.fresh' (Kd.R_lt (rup HO_39.out)) k_ hk⟩));(case aO=>exact(rup (Kd.R_mono HO_8.out (fun _ hk=>⟨hk.2,hk.1⟩))));(case aS=>exact(below_size bl));(case aL=>have:=LMc36.out;omega);intro v348 w40 ho hb hg hat;rw[← Ny347.out] at ho;replace HO_9:=am (Kd.R_after (ok:=(fun k_=>some k_≠(.slice Ao22 t341.length co22:Value).ownBlock)) (rup (Kd.R_mono HO_9.out (fun _ hk=>⟨hk.2,hk.1⟩))) hg hat);replace HO_39:=am (Kd.R_after (ok:=(fun k_=>some k_≠(.slice (some ⟨go35,0,none⟩) x9_2.length co8:Value).ownBlock)) (rup (Kd.R_mono HO_39.out (fun _ hk=>⟨hk.2,hk.1⟩))) hg hat);replace BK340:=am (blk_grown (bup BK340.out) hg (Kd.R_ne HO_8.out BK340.out (by decide)));replace HB:=am (hb);have HO349:=am (ho);clear HO_8 ho hb hg hat))
           repeat(go_quiet (first|((with_reducible refine gate_store (t:=3) (p:=66) rfl ?_);(try(rw[drewN_self wr];generalize hq_:World.drewN wr _=wr;replace HO_8:=am (Kd.R_at hq_ HO_8.out);replace HO_9:=am (Kd.R_at hq_ HO_9.out);replace HO_39:=am (Kd.R_at hq_ HO_39.out);replace BK340:=am (blk_at hq_ BK340.out);replace HB:=am (below_at hq_ HB.out);clear hq_;(try(have HP38:=Kd.R_putg HO_9.out (x13_3:Int) ((rd_T45 l1 x32_2).f1)))));refine store_event (t:=3) (p:=66) (v:=?vo_w39) (w1:=(wr.setCell ⟨go35,(x13_3:Int).toNat,none⟩ (.int .i64 ((rd_T45 l1 x32_2).f1)))) ?hg ?ho ?hn ?hr ?_;(case ho=>rfl);(case hg=>rfl);(case hn=>rfl);(case hr=>first|(go_simp;done)|(go_simp;rfl));intro w39 hw;have hg:wr.grownBy w39 (some go35):=(by rw[hw];exact HP38.2);have hp_:Kd.R (Kd.int .i64) 3 w39 w.heap.size (fun k_=>some k_≠(u8:Value).ownBlock∧some k_≠(.slice Ao22 t341.length co22:Value).ownBlock) (.slice (some ⟨go35,0,none⟩) x9_2.length co8) y346:=(by rw[hw,Ny346.out];exact HP38.1);clear HP38;replace HO_8:=am (Kd.R_after (v:=(.slice (some ⟨go35,0,none⟩) x9_2.length co8)) (v1:=(.slice (some ⟨go35,0,none⟩) x9_2.length co8)) (ok:=(fun k_=>some k_≠(.slice Ao22 t341.length co22:Value).ownBlock)) (rup (Kd.R_mono HO_8.out (fun _ hk=>⟨hk.2,hk.1⟩))) hg (.inl rfl));replace HO_39:=am (Kd.R_after (v:=(.slice (some ⟨go35,0,none⟩) x9_2.length co8)) (v1:=(.slice (some ⟨go35,0,none⟩) x9_2.length co8)) (ok:=(fun k_=>some k_≠(u8:Value).ownBlock)) (rup HO_39.out) hg (.inl rfl));replace BK340:=am (blk_grown (bup BK340.out) hg (Kd.R_ne HO_9.out BK340.out (by decide)));replace HO_9:=am (hp_);replace HB:=am ((by rw[hw];exact below_set (HB.out) GB35.out:Below w.heap.size w w39));clear hg hw hp_)|((with_reducible refine gate_builtin (b := .append) (xs := #[.tmp 67,.tmp 69]) rfl ?_);at_builtin;refine Kd.R_append (Kd.int .i64) (w0:=w) w.heap.size rfl (.tmp 67) (.tmp 69) 27 3 (.int .i64 0) 8 rfl Try.underlying27 info3 rfl (by decide) (by omega) u8 x8_2 x13_3 [.int .i64 x13_3] (fun k_=>some k_≠(.slice (some ⟨go35,0,none⟩) x9_2.length co8:Value).ownBlock∧some k_≠(.slice Ao22 t341.length co22:Value).ownBlock) (fun _=>False) rfl rfl ?aP (fun _ hk=>hk.elim) ?aF ?aO ?aB ?aS ?aL ?_;(case aP=>exact rfl);(case aB=>exact bl);(case aF=>exact(fun k_ hk=>⟨Kd.fresh' (Kd.R_lt (rup HO_9.out)) k_ hk,Kd.fresh' (Kd.R_lt (rup HO_39.out)) k_ hk⟩));(case aO=>exact(rup (Kd.R_mono HO_8.out (fun _ hk=>⟨hk.2,hk.1⟩))));(case aS=>exact(below_size bl));(case aL=>have:=LMc36.out;omega);intro v348 w40 ho hb hg hat;rw[← Ny347.out] at ho;replace HO_9:=am (Kd.R_after (ok:=(fun k_=>some k_≠(.slice Ao22 t341.length co22:Value).ownBlock)) (rup (Kd.R_mono HO_9.out (fun _ hk=>⟨hk.2,hk.1⟩))) hg hat);replace HO_39:=am (Kd.R_after (ok:=(fun k_=>some k_≠(.slice (some ⟨go35,0,none⟩) x9_2.length co8:Value).ownBlock)) (rup (Kd.R_mono HO_39.out (fun _ hk=>⟨hk.2,hk.1⟩))) hg hat);replace BK340:=am (blk_grown (bup BK340.out) hg (Kd.R_ne HO_8.out BK340.out (by decide)));replace HB:=am (hb);have HO349:=am (ho);clear HO_8 ho hb hg hat));try go_wp2_with (first|((with_reducible refine gate_store (t:=3) (p:=66) rfl ?_);(try(rw[drewN_self wr];generalize hq_:World.drewN wr _=wr;replace HO_8:=am (Kd.R_at hq_ HO_8.out);replace HO_9:=am (Kd.R_at hq_ HO_9.out);replace HO_39:=am (Kd.R_at hq_ HO_39.out);replace BK340:=am (blk_at hq_ BK340.out);replace HB:=am (below_at hq_ HB.out);clear hq_;(try(have HP38:=Kd.R_putg HO_9.out (x13_3:Int) ((rd_T45 l1 x32_2).f1)))));refine store_event (t:=3) (p:=66) (v:=?vo_w39) (w1:=(wr.setCell ⟨go35,(x13_3:Int).toNat,none⟩ (.int .i64 ((rd_T45 l1 x32_2).f1)))) ?hg ?ho ?hn ?hr ?_;(case ho=>rfl);(case hg=>rfl);(case hn=>rfl);(case hr=>first|(go_simp;done)|(go_simp;rfl));intro w39 hw;have hg:wr.grownBy w39 (some go35):=(by rw[hw];exact HP38.2);have hp_:Kd.R (Kd.int .i64) 3 w39 w.heap.size (fun k_=>some k_≠(u8:Value).ownBlock∧some k_≠(.slice Ao22 t341.length co22:Value).ownBlock) (.slice (some ⟨go35,0,none⟩) x9_2.length co8) y346:=(by rw[hw,Ny346.out];exact HP38.1);clear HP38;replace HO_8:=am (Kd.R_after (v:=(.slice (some ⟨go35,0,none⟩) x9_2.length co8)) (v1:=(.slice (some ⟨go35,0,none⟩) x9_2.length co8)) (ok:=(fun k_=>some k_≠(.slice Ao22 t341.length co22:Value).ownBlock)) (rup (Kd.R_mono HO_8.out (fun _ hk=>⟨hk.2,hk.1⟩))) hg (.inl rfl));replace HO_39:=am (Kd.R_after (v:=(.slice (some ⟨go35,0,none⟩) x9_2.length co8)) (v1:=(.slice (some ⟨go35,0,none⟩) x9_2.length co8)) (ok:=(fun k_=>some k_≠(u8:Value).ownBlock)) (rup HO_39.out) hg (.inl rfl));replace BK340:=am (blk_grown (bup BK340.out) hg (Kd.R_ne HO_9.out BK340.out (by decide)));replace HO_9:=am (hp_);replace HB:=am ((by rw[hw];exact below_set (HB.out) GB35.out:Below w.heap.size w w39));clear hg hw hp_)|((with_reducible refine gate_builtin (b := .append) (xs := #[.tmp 67,.tmp 69]) rfl ?_);at_builtin;refine Kd.R_append (Kd.int .i64) (w0:=w) w.heap.size rfl (.tmp 67) (.tmp 69) 27 3 (.int .i64 0) 8 rfl Try.underlying27 info3 rfl (by decide) (by omega) u8 x8_2 x13_3 [.int .i64 x13_3] (fun k_=>some k_≠(.slice (some ⟨go35,0,none⟩) x9_2.length co8:Value).ownBlock∧some k_≠(.slice Ao22 t341.length co22:Value).ownBlock) (fun _=>False) rfl rfl ?aP (fun _ hk=>hk.elim) ?aF ?aO ?aB ?aS ?aL ?_;(case aP=>exact rfl);(case aB=>exact bl);(case aF=>exact(fun k_ hk=>⟨Kd.fresh' (Kd.R_lt (rup HO_9.out)) k_ hk,Kd.fresh' (Kd.R_lt (rup HO_39.out)) k_ hk⟩));(case aO=>exact(rup (Kd.R_mono HO_8.out (fun _ hk=>⟨hk.2,hk.1⟩))));(case aS=>exact(below_size bl));(case aL=>have:=LMc36.out;omega);intro v348 w40 ho hb hg hat;rw[← Ny347.out] at ho;replace HO_9:=am (Kd.R_after (ok:=(fun k_=>some k_≠(.slice Ao22 t341.length co22:Value).ownBlock)) (rup (Kd.R_mono HO_9.out (fun _ hk=>⟨hk.2,hk.1⟩))) hg hat);replace HO_39:=am (Kd.R_after (ok:=(fun k_=>some k_≠(.slice (some ⟨go35,0,none⟩) x9_2.length co8:Value).ownBlock)) (rup (Kd.R_mono HO_39.out (fun _ hk=>⟨hk.2,hk.1⟩))) hg hat);replace BK340:=am (blk_grown (bup BK340.out) hg (Kd.R_ne HO_8.out BK340.out (by decide)));replace HB:=am (hb);have HO349:=am (ho);clear HO_8 ho hb hg hat)))
           (try simp only[← hl9_2])
           go_roundg k3
           case measure=>have:=HK1.out;have:=HK2.out;have:=HK3.out;omega
           case rel=>exact⟨(y347),(y346),(wrap64 (x32_2+1)),fin2,H',⟨by have:=HK1.out;have:=HK2.out;have:=HK3.out;omega⟩,⟨by(try simp only[hl9_1]);(try simp only[hl9_2]);(with_reducible repeat(first|apply Kd.R_alloc|apply Kd.R_drewN|apply Kd.R_drew));exact Kd.R_mono HO349.out (fun _ hk=>hk.1)⟩,⟨by(try simp only[hl9_1]);(try simp only[hl9_2]);(with_reducible repeat(first|apply Kd.R_alloc|apply Kd.R_drewN|apply Kd.R_drew));exact Kd.R_mono HO_9.out (fun _ hk=>hk.2)⟩,⟨bl⟩⟩
      ·have c15b0:=decide_eq_false c15
       clear c15
       simp only[Option.some.injEq,Prod.mk.injEq] at H
       obtain⟨rfl,rfl⟩:=H
       go_wp2
       repeat(go_quiet (fail);try go_wp2)
       go_ret2
       exact⟨_,fin1,rup (Kd.R_mono HO_8.out (fun _ hk=>trivial)),bl⟩

def spec_GiveTeeth.f (k:Nat) (l0:List (S41)) (l1:List (S45)) (a2:Int):Option (List Int×Bool):=(spec_coAsked.f k l0 l1 a2).bind fun t350=>(if t350=true then((spec_coGive.f k l0 l1 a2).bind fun bt351=>(some (bt351.1,bt351.2))) else(some (([]:List Int),false)))
set_option maxHeartbeats 8000000 in
set_option maxRecDepth 100000 in
theorem spec_GiveTeeth.calls (k:Nat) (A0:Option Addr) (c0:Nat) (l0:List (S41)) (A1:Option Addr) (c1:Nat) (l1:List (S45)) (a2:Int) (r1:List Int) (r2:Bool) (w:World) (hr0:Kd.C k41 w A0 l0.length l0) (hc0:l0.length≤c0) (hr1:Kd.C k45 w A1 l1.length l1) (hc1:l1.length≤c1) (h:spec_GiveTeeth.f k l0 l1 a2=some (r1,r2)) :
  Calls Try.prog 6 #[.slice A0 l0.length c0,.slice A1 l1.length c1,.int .i64 a2] w fun e w'=>∃ v0_:Value,e = .returned (.tuple #[v0_,.bool r2])∧Kd.R (Kd.int .i64) 3 w' w.heap.size (fun _=>True) v0_ r1∧Below w.heap.size w w':=by
 have HR0:=am hr0
 have HC0:=am hc0
 clear hr0 hc0
 have HR1:=am hr1
 have HC1:=am hc1
 clear hr1 hc1
 have HB:=am (Below.refl w.heap.size w)
 have H:((spec_coAsked.f k l0 l1 a2).bind fun t350=>(if t350=true then((spec_coGive.f k l0 l1 a2).bind fun bt351=>(some (bt351.1,bt351.2))) else(some (([]:List Int),false))))=some (r1,r2):=h
 clear h
 replace H:=Option.bind_eq_some_iff.mp H
 obtain⟨t350,A40,H⟩:=H
 replace H:(if t350=true then((spec_coGive.f k l0 l1 a2).bind fun bt351=>(some (bt351.1,bt351.2))) else(some (([]:List Int),false)))=some (r1,r2):=H
 have A4:=am A40
 clear A40
 by_cases c5:t350=true
 ·subst c5
  replace H:=(if_pos rfl).symm.trans H
  replace H:=Option.bind_eq_some_iff.mp H
  obtain⟨⟨t351,t352⟩,A60,H⟩:=H
  replace H:(some (t351,t352))=some (r1,r2):=H
  have A6:=am A60
  clear A60
  simp only[Option.some.injEq,Prod.mk.injEq] at H
  obtain⟨rfl,rfl⟩:=H
  go_enter Try.func6,Try.ntmps6
  go_wp2_with (first|((with_reducible refine gate_callee (f:=26) rfl ?_);refine goesL_ (some 11) rfl rfl Try.func26 (by kernel_rfl) rfl #[.slice A0 l0.length c0,.slice A1 l1.length c1,.int .i64 a2] rfl tl ?_;(with_reducible refine(spec_coAsked.calls k _ _ l0 _ _ l1 a2 true _ ?side1 ?side2 ?side3 ?side4 A4.out).mono ?_);(case side1=>repeat(first|exact HR0.out|(with_reducible refine Kd.C_alloc ?_ _)|(with_reducible refine Kd.C_drewN ?_ _)|(with_reducible refine Kd.C_drew ?_)));(case side2=>exact HC0.out);(case side3=>repeat(first|exact HR1.out|(with_reducible refine Kd.C_alloc ?_ _)|(with_reducible refine Kd.C_drewN ?_ _)|(with_reducible refine Kd.C_drew ?_)));(case side4=>exact HC1.out);rintro e w7 ⟨rfl,hb⟩;refine⟨_,rfl,?_⟩;replace HB:=am (below_step bl hb);(try clear hb))|((with_reducible refine gate_callee (f:=27) rfl ?_);refine goesL_ (some 16) rfl rfl Try.func27 (by kernel_rfl) rfl #[.slice A0 l0.length c0,.slice A1 l1.length c1,.int .i64 a2] rfl tl ?_;(with_reducible refine(spec_coGive.calls k _ _ l0 _ _ l1 a2 t351 t352 _ ?side1 ?side2 ?side3 ?side4 A6.out).mono ?_);(case side1=>exact cup (Kd.C_below HR0.out HB.out));(case side2=>exact HC0.out);(case side3=>exact cup (Kd.C_below HR1.out HB.out));(case side4=>exact HC1.out);rintro e w8 ⟨v353,rfl,ho0,hb⟩;refine⟨_,rfl,?_⟩;have HO354:=am (Kd.R_lower ho0 (below_size bl));replace HB:=am (below_step bl hb);(try clear hb);(try clear ho0)))
  go_ret2
  exact⟨_,fin1,by(with_reducible repeat(first|apply Kd.R_alloc|apply Kd.R_drewN|apply Kd.R_drew));exact HO354.out,bl⟩
 ·replace c5:=Bool.eq_false_iff.mpr c5
  subst c5
  replace H:=(if_neg Bool.false_ne_true).symm.trans H
  simp only[Option.some.injEq,Prod.mk.injEq] at H
  obtain⟨rfl,rfl⟩:=H
  go_enter Try.func6,Try.ntmps6
  go_wp2_with (first|((with_reducible refine gate_callee (f:=26) rfl ?_);refine goesL_ (some 11) rfl rfl Try.func26 (by kernel_rfl) rfl #[.slice A0 l0.length c0,.slice A1 l1.length c1,.int .i64 a2] rfl tl ?_;(with_reducible refine(spec_coAsked.calls k _ _ l0 _ _ l1 a2 false _ ?side1 ?side2 ?side3 ?side4 A4.out).mono ?_);(case side1=>repeat(first|exact HR0.out|(with_reducible refine Kd.C_alloc ?_ _)|(with_reducible refine Kd.C_drewN ?_ _)|(with_reducible refine Kd.C_drew ?_)));(case side2=>exact HC0.out);(case side3=>repeat(first|exact HR1.out|(with_reducible refine Kd.C_alloc ?_ _)|(with_reducible refine Kd.C_drewN ?_ _)|(with_reducible refine Kd.C_drew ?_)));(case side4=>exact HC1.out);rintro e w9 ⟨rfl,hb⟩;refine⟨_,rfl,?_⟩;replace HB:=am (below_step bl hb);(try clear hb)))
  go_ret2
  exact⟨_,fin1,by first|exact Kd.R_nil _ _ _ _ _|exact Kd.N_nil _ _ _ _ _|exact Kd.V_nil _ _ _ _ _|exact Kd.Q_nil _ _ _ _ _|exact Kd.S_nil _ _ _ _ _,bl⟩

end Go.Proofs.Ytiekokdlcgpcdaa.PFnStrikes
