/- The walks of functions that FnExactRepairToPlay reaches: what they return is what the plain functions of the same names say. Laid by a program of this session after the kit's print. No conditions beyond the arguments' being read. -/
import Derived.Test.YthmpginbaafbhaaSRepairToPlay0
import Derived.Test.YthmpginbaafbhaaSRepairToPlay7
import Derived.Test.YthmpginbaafbhaaSRepairToPlay9
import Derived.Test.YthmpginbaafbhaaSRepairToPlay16
namespace Go.Proofs.Ythmpginbaafbhaa.PFnExactRepairToPlay
open Go.RowKit Go.Proofs.YthmpginbaafbhaaW.PrintWords Go.Proofs.YthmpginbaafbhaaW.PrintLast Go.Proofs.YthmpginbaafbhaaW.PrintMore
attribute [local go_sem] max2_int min2_int max_two min_two max_three min_three max_four min_four   -- for this text's walks alone
set_option linter.unusedVariables false
set_option linter.unusedSimpArgs false

namespace grid
def allFalse:Value→Bool
 | .bool b=>!b
 | _=>false
theorem zchk:(Try.zeroCells111.size == 40000&&Try.zeroCells111.toList.all allFalse)=true:=by kernel_rfl
theorem Zc_spec:Try.zeroCells111.size=40000∧∀ j,j<40000→Try.zeroCells111[j]?=some (.bool false):=by
 have h:=zchk
 generalize Try.zeroCells111=cs at h ⊢
 simp only[Bool.and_eq_true,beq_iff_eq,List.all_eq_true] at h
 obtain⟨h1,h2⟩:=h
 refine⟨h1,fun j hj=>?_⟩
 have hj':j<cs.size:=by omega
 have h4:=h2 cs[j] (by rw[Array.mem_toList_iff];exact Array.getElem_mem hj')
 rw[Array.getElem?_eq_getElem hj']
 cases hv:cs[j] with
 | bool b =>
  rw[hv] at h4
  cases b with
  | false=>rfl
  | true=>simp [allFalse] at h4
 | _=>rw[hv] at h4;simp [allFalse] at h4
/-- Block g is a grid: at t, s it holds G t s. -/
def Grid (w:World) (g:Nat) (G:Int→Int→Bool):Prop :=
 ∃ cs:Array Value,w.heap[g]?=some (.cells cs 111 (0,0))∧cs.size=40000∧∀ t s:Nat,t<20→s<2000→cs[t*2000+s]?=some (.bool (G t s))
theorem Grid.lt {w:World} {g:Nat} {G:Int→Int→Bool} (h:Grid w g G):g<w.heap.size:=by
 obtain⟨cs,h,_⟩:=h
 exact blk_lt h
theorem Grid.block {w:World} {g:Nat} {G:Int→Int→Bool} (h:Grid w g G):∃ cs,w.heap[g]?=some (.cells cs 111 (0,0)):=by
 obtain⟨cs,h,_⟩:=h
 exact⟨cs,h⟩
theorem Grid.move {w w1:World} {g:Nat} {G:Int→Int→Bool} (h:Grid w g G) (hm:w1.heap[g]?=w.heap[g]?):Grid w1 g G:=by
 obtain⟨cs,h,r⟩:=h
 exact⟨cs,hm.trans h,r⟩
theorem Grid.below {w w1:World} {g:Nat} {G:Int→Int→Bool} (h:Grid w g G) (hb:Below w.heap.size w w1):Grid w1 g G:=h.move (hb.block g h.lt)
theorem Grid.cell {w:World} {g:Nat} {G:Int→Int→Bool} (h:Grid w g G) {t s:Int} (h0:0≤t) (h1:t<20) (h2:0≤s) (h3:s<2000):w.cell? ⟨g,t.toNat*2000+s.toNat,none⟩=some (.bool (G t s))∧w.frozen? ⟨g,t.toNat*2000+s.toNat,none⟩=false:=by
 obtain⟨cs,h,hs,hc⟩:=h
 obtain⟨a,rfl⟩:=Int.eq_ofNat_of_zero_le h0
 obtain⟨b,rfl⟩:=Int.eq_ofNat_of_zero_le h2
 exact⟨(blk_cell h _).trans (hc a b (by omega) (by omega)),blk_frozen h _⟩
def upd (G:Int→Int→Bool) (t s:Int) (b:Bool):Int→Int→Bool:=fun t' s'=>if t'=t∧s'=s then b else G t' s'
theorem Grid.set {w:World} {g:Nat} {G:Int→Int→Bool} (h:Grid w g G) {t s:Int} (h0:0≤t) (h1:t<20) (h2:0≤s) (h3:s<2000) (b:Bool):Grid (w.setCell ⟨g,t.toNat*2000+s.toNat,none⟩ (.bool b)) g (upd G t s b):=by
 obtain⟨cs,h,hs,hc⟩:=h
 obtain⟨a,rfl⟩:=Int.eq_ofNat_of_zero_le h0
 obtain⟨d,rfl⟩:=Int.eq_ofNat_of_zero_le h2
 simp only[Int.toNat_natCast]
 refine⟨_,blk_set h (a*2000+d) (.bool b),by simpa using hs,fun t s ht hs'=>?_⟩
 rw[Array.getElem?_setIfInBounds]
 unfold upd
 by_cases e:(t:Int)=a∧(s:Int)=d
 ·obtain⟨e1,e2⟩:=e
  have e1':t=a:=by omega
  have e2':s=d:=by omega
  subst e1';subst e2'
  rw[if_pos rfl,if_pos (by omega),if_pos ⟨rfl,rfl⟩]
 ·rw[if_neg e,if_neg (by omega)]
  exact hc t s ht hs'
theorem Grid.zero {w:World} {g:Nat} (h:w.heap[g]?=some (.cells Try.zeroCells111 111 (0,0))):Grid w g (fun _ _=>false):=by
 obtain⟨hs,hz⟩:=Zc_spec
 exact⟨_,h,hs,fun t s ht hs'=>hz _ (by omega)⟩
theorem Grid.congr {w:World} {g:Nat} {G G':Int→Int→Bool} (h:Grid w g G) (e:∀ t s:Nat,t<20→s<2000→G t s=G' t s):Grid w g G':=by
 obtain⟨cs,h,hs,hc⟩:=h
 exact⟨cs,h,hs,fun t s ht hs'=>by rw[← e t s ht hs'];exact hc t s ht hs'⟩
end grid
namespace grid
def okH (h:S51):Prop:=0≤h.f0∧h.f0<20∧0≤h.f1∧h.f2≤2000
/-- Which steps of which tracks the holes open. -/
def openAt (l:List S51):Int→Int→Bool:=fun t s=>l.any fun h=>decide (h.f0=t∧h.f1≤s∧s<h.f2)
theorem openAt_snoc (l:List S51) (h:S51) (t s:Int):openAt (l ++ [h]) t s=(openAt l t s||decide (h.f0=t∧h.f1≤s∧s<h.f2)):=by
 unfold openAt
 rw[List.any_append,List.any_cons,List.any_nil,Bool.or_false]
/-- .. and the steps of one hole more, up to a step. -/
def upTo (G:Int→Int→Bool) (h:S51) (m:Int):Int→Int→Bool:=fun t s=>G t s||decide (h.f0=t∧h.f1≤s∧s<m)
theorem upTo_step (G:Int→Int→Bool) (h:S51) (m:Int) (hm:h.f1≤m) (t s:Int):upd (upTo G h m) h.f0 m true t s=upTo G h (m+1) t s:=by
 unfold upd upTo
 by_cases e:t=h.f0∧s=m
 ·rw[if_pos e]
  have:decide (h.f0=t∧h.f1≤s∧s<m+1)=true:=decide_eq_true ⟨e.1.symm,by omega,by omega⟩
  rw[this,Bool.or_true]
 ·rw[if_neg e]
  congr 1
  exact decide_eq_decide.2 ⟨fun h=>⟨h.1,h.2.1,by omega⟩,fun h'=>⟨h'.1,h'.2.1,by have:s≠m:=fun e2=>e ⟨h'.1.symm,e2⟩;omega⟩⟩
theorem upTo_zero (G:Int→Int→Bool) (h:S51) (t s:Int):upTo G h h.f1 t s=G t s:=by
 unfold upTo
 rw[decide_eq_false (fun h=>by omega),Bool.or_false]
set_option maxHeartbeats 8000000 in
set_option maxRecDepth 100000 in
theorem gridOf.calls (A0:Option Addr) (c0:Nat) (l0:List S51) (w:World) (hr0:Kd.C k51 w A0 l0.length l0) (hc0:l0.length≤c0) (hv:∀ h∈l0,okH h) :
  Calls Try.prog 74 #[.slice A0 l0.length c0] w fun e w'=>∃ g,e = .returned (.pointer (some ⟨g,0,none⟩))∧Grid w' g (openAt l0)∧w.heap.size≤g∧Below w.heap.size w w':=by
 have hu:=Try.underlying51
 have HR0:=am hr0
 have HC0:=am hc0
 have HV:=am hv
 have HL:=am hr0.2.1
 have HB:=am (Below.refl w.heap.size w)
 clear hr0 hc0 hv
 go_enter Try.func74,Try.ntmps74
 go_wp2_with (first|((with_reducible refine gate_dst (N:=8) rfl ?_);refine box_event ?hg (N:=8) ?hd (cs:=Try.zeroCells111) (t:=111) ?hr ?_;(case hd=>rfl);(case hg=>rfl);(case hr=>first|(go_simp;done)|(go_simp;rfl));intro g hg w1 hbox hb;have HG:=am (Grid.zero hbox);have HGE:=am (by rw[hg];exact below_size HB.out:w.heap.size≤g);replace HB:=am (below_step HB.out hb);clear hbox hb hg))
 go_loopw [11] (fun v wr=>∃ i:Int,Aside0 (0≤i∧i≤l0.length)∧v = .int .i64 i∧Aside0 (Grid wr g (openAt (l0.take i.toNat)))∧Aside0 (Below w.heap.size w wr)) (fun v _=>((l0.length:Int) - intOf v).toNat)
 case atStart=>exact⟨0,⟨by omega⟩,rfl,⟨HG.out.congr (fun t s _ _=>rfl)⟩,HB⟩
 case round =>
  clear HG HB
  obtain⟨i,hi,rfl,HG,HB⟩:=hrel
  by_cases q:i<(l0.length:Int)
  ·have p:0≤i:=hi.out.1
   have hlt:i.toNat<l0.length:=by omega
   obtain⟨ad,e,hx0,hx1,hx2⟩:=at_T51 HR0.out i p q
   cases e
   replace hx0:=(HB.out.cell (World.block_lt_of_cell? w _ hx0)).trans hx0
   replace hx1:=(HB.out.cell (World.block_lt_of_cell? w _ hx1)).trans hx1
   replace hx2:=(HB.out.cell (World.block_lt_of_cell? w _ hx2)).trans hx2
   obtain⟨x,hx⟩:∃ x,x=rd_T51 l0 i:=⟨_,rfl⟩
   rw[← hx] at hx0 hx1 hx2
   have hxl:l0[i.toNat]=x:=by
    rw[hx]
    show _=l0.getD i.toNat _
    rw[List.getD_eq_getElem?_getD,List.getElem?_eq_getElem hlt]
    rfl
   have HX:=am (show l0[i.toNat]?=some x from by rw[List.getElem?_eq_getElem hlt,hxl])
   have HXV:=am (show okH x from by rw[← hxl];exact HV.out _ (List.getElem_mem hlt))
   clear hx hxl
   replace p:=eq_true p
   replace q:=eq_true q
   have HLT:=am hlt
   clear hlt
   go_wp2_with (first|((with_reducible refine gate_dst (N:=5) rfl ?_);refine box_event ?hg (N:=5) ?hd (cs := #[.int .i64 0,.int .i64 0,.int .i64 0]) (t:=51) ?hr ?_;(case hd=>rfl);(case hg=>rfl);(case hr=>first|(go_simp;done)|(go_simp;rfl));intro gx hgx w2 hbox hb;have n0_:=am (HG.out.below hb);have n1_:=am (below_step HB.out hb);have HNE:=am (by rw[hgx];exact Nat.ne_of_lt HG.out.lt:g≠gx);have HGX:=am (by rw[hgx];exact below_size HB.out:w.heap.size≤gx);have BX:=am hbox;clear HG HB hb hbox hgx;have HG:=n0_;have HB:=n1_;clear n0_ n1_;have hc0_:w2.cell? ⟨gx,0,none⟩=some (.int .i64 0):=(blk_cell BX.out 0).trans rfl;have hc1_:w2.cell? ⟨gx,1,none⟩=some (.int .i64 0):=(blk_cell BX.out 1).trans rfl;have hc2_:w2.cell? ⟨gx,2,none⟩=some (.int .i64 0):=(blk_cell BX.out 2).trans rfl;have hf0_:=blk_frozen BX.out 0;have hf1_:=blk_frozen BX.out 1;have hf2_:=blk_frozen BX.out 2))
   obtain⟨w3,hw3⟩:∃ w3,w3=((w2.setCell ⟨gx,0,none⟩ (.int .i64 x.f0)).setCell ⟨gx,1,none⟩ (.int .i64 x.f1)).setCell ⟨gx,2,none⟩ (.int .i64 x.f2):=⟨_,rfl⟩
   rw[← hw3]
   have HK:=am (show Kept w2 w3 (fun k=>k=gx) from by rw[hw3];exact(((Kept.refl w2 (fun k=>k=gx)).setCell (p:=⟨gx,0,none⟩) (.inl rfl) _).setCell (p:=⟨gx,1,none⟩) (.inl rfl) _).setCell (p:=⟨gx,2,none⟩) (.inl rfl) _)
   replace BX:=am (show w3.heap[gx]?=some (.cells #[.int .i64 x.f0,.int .i64 x.f1,.int .i64 x.f2] 51 (0,0)) from by
    rw[hw3]
    refine blk_put (cs := #[.int .i64 x.f0,.int .i64 x.f1,.int .i64 0]) ?_ 2 _ rfl
    refine blk_put (cs := #[.int .i64 x.f0,.int .i64 0,.int .i64 0]) ?_ 1 _ rfl
    exact blk_put (cs := #[.int .i64 0,.int .i64 0,.int .i64 0]) BX.out 0 _ rfl)
   replace HB:=am (show Below w.heap.size w w3 from by rw[hw3];exact below_set (below_set (below_set HB.out HGX.out) HGX.out) HGX.out)
   replace HG:=am (HG.out.move (HK.out.2 g HG.out.lt HNE.out))
   clear HK hw3 hc0_ hc1_ hc2_ hf0_ hf1_ hf2_ hx0 hx1 hx2
   go_loopw [6] (fun v wi=>∃ m:Int,Aside0 (x.f1≤m∧(m≤x.f2∨m=x.f1))∧v = .int .i64 m∧Aside0 (Grid wi g (upTo (openAt (l0.take i.toNat)) x m))∧Aside0 (wi.heap[gx]?=some (.cells #[.int .i64 x.f0,.int .i64 x.f1,.int .i64 x.f2] 51 (0,0)))∧Aside0 (Below w.heap.size w wi)) (fun v _=>(x.f2 - intOf v).toNat)
   case atStart=>exact⟨x.f1,⟨Int.le_refl _,.inr rfl⟩,rfl,⟨HG.out.congr (fun t s _ _=>(upTo_zero _ _ _ _).symm)⟩,BX,HB⟩
   case round =>
    clear HG BX HB p q
    obtain⟨m,hm,rfl,HG,BX,HB⟩:=hrel
    have hc0_:wr.cell? ⟨gx,0,none⟩=some (.int .i64 x.f0):=(blk_cell BX.out 0).trans rfl
    have hc2_:wr.cell? ⟨gx,2,none⟩=some (.int .i64 x.f2):=(blk_cell BX.out 2).trans rfl
    by_cases hlt:m<x.f2
    ·have hb:decide (m<x.f2)=true:=decide_eq_true hlt
     have h0:0≤x.f0:=HXV.out.1
     have h1:x.f0<20:=HXV.out.2.1
     have h2:0≤m:=by have:=HXV.out.2.2.1;have:=hm.out;omega
     have h3:m<2000:=by have:=HXV.out.2.2.2;omega
     obtain⟨hgc,hgf⟩:=HG.out.cell h0 h1 h2 h3
     have HM:=am (show 0≤x.f0∧x.f0<20∧0≤m∧m<2000∧m<x.f2 from⟨h0,h1,h2,h3,hlt⟩)
     replace h0:=eq_true h0
     replace h1:=eq_true h1
     replace h2:=eq_true h2
     replace h3:=eq_true h3
     clear hlt
     go_wp2
     go_region
     obtain⟨w4,hw4⟩:∃ w4,w4=(wr.setCell ⟨g,x.f0.toNat*2000+m.toNat,none⟩ (.bool true)).drew:=⟨_,rfl⟩
     rw[← hw4]
     replace HG:=am (show Grid w4 g (upTo (openAt (l0.take i.toNat)) x (m+1)) from by
      rw[hw4]
      exact((HG.out.set HM.out.1 HM.out.2.1 HM.out.2.2.1 HM.out.2.2.2.1 true).congr (fun t s _ _=>upTo_step _ x m hm.out.1 t s)).move rfl)
     replace BX:=am (show w4.heap[gx]?=some (.cells #[.int .i64 x.f0,.int .i64 x.f1,.int .i64 x.f2] 51 (0,0)) from by rw[hw4];exact(Below.heap_setCell wr ⟨g,x.f0.toNat*2000+m.toNat,none⟩ (.bool true) gx (Ne.symm HNE.out)).trans BX.out)
     replace HB:=am (show Below w.heap.size w w4 from by rw[hw4];exact below_drew1 (below_set HB.out HGE.out))
     clear hgc hgf hw4 hc0_ hc2_
     go_wp2
     go_roundw
     case rel=>exact⟨m+1,⟨by have:=HM.out;have:=hm.out;omega⟩,(by first|rfl|(congr 1;have:=HM.out;unfold wrap64;omega)),HG,BX,HB⟩
     case measure=>have:=HM.out;have hw:wrap64 (m+1)=m+1:=(by unfold wrap64;omega);simp [intOf,hw];omega
    ·have hb:decide (m<x.f2)=false:=decide_eq_false hlt
     have HM:=am hlt
     clear hlt
     go_wp2
     go_roundw
     case rel=>exact⟨i+1,⟨by have:=HLT.out;have:=hi.out;omega⟩,(by first|rfl|(congr 1;have:=HLT.out;have:=HL.out;have:=hi.out;unfold wrap64;omega)),⟨HG.out.congr (fun t s _ _=>by
      have hi0:=hi.out.1
      have e:l0.take (i+1).toNat=l0.take i.toNat ++ [x]:=by
       rw[show(i+1).toNat=i.toNat+1 by omega,List.take_add_one,HX.out]
       rfl
      rw[e,openAt_snoc]
      unfold upTo
      congr 1
      have h1:=HM.out
      have h2:=hm.out
      exact decide_eq_decide.2 ⟨fun h=>⟨h.1,h.2.1,by omega⟩,fun h=>⟨h.1,h.2.1,by omega⟩⟩)⟩,HB⟩
     case measure=>have:=HLT.out;have:=hi.out;have:=HL.out;have hw:wrap64 (i+1)=i+1:=(by unfold wrap64;omega);simp [intOf,hw];omega
  ·have hb:decide (i<(l0.length:Int))=false:=decide_eq_false q
   have HQ:=am q
   clear q
   go_wp2
   go_ret
   refine⟨g,rfl,HG.out.congr (fun t s _ _=>?_),HGE.out,HB.out⟩
   have hi0:=hi.out
   have hq:=HQ.out
   rw[show l0.take i.toNat=l0 from List.take_of_length_le (by omega)]
end grid
namespace grid
def grStep (h:Int→Int→Bool) (t:Int) (st:List (List Int)×Int) (s:Int):List (List Int)×Int :=
 if s<2000∧h t s=true then(st.1,if st.2<0 then s else st.2) else(if 0≤st.2 then(st.1 ++ [[t,st.2,s]],-1) else st)
def grS (h:Int→Int→Bool) (t:Int) (o:List (List Int)):Nat→List (List Int)×Int
 | 0=>(o,-1)
 | s+1=>grStep h t (grS h t o s) s
def grT (h:Int→Int→Bool):Nat→List (List Int)
 | 0=>[]
 | t+1=>(grS h t (grT h t) 2001).1
def gr (h:Int→Int→Bool):List (List Int):=grT h 20
theorem grS_snd (h:Int→Int→Bool) (t:Int) (o:List (List Int)) (s:Nat):(grS h t o s).2 = -1∨0≤(grS h t o s).2∧(grS h t o s).2<s:=by
 induction s with
 | zero=>exact .inl rfl
 | succ s ih =>
  have e:grS h t o (s+1)=grStep h t (grS h t o s) s:=rfl
  rw[e]
  unfold grStep
  split
  ·right
   by_cases hf:(grS h t o s).2<0
   ·simp only[if_pos hf];omega
   ·simp only[if_neg hf];omega
  ·split
   ·exact .inl rfl
   ·rcases ih with h|h
    ·exact .inl h
    ·right;omega
theorem grS_len (h:Int→Int→Bool) (t:Int) (o:List (List Int)) (s:Nat):(grS h t o s).1.length≤o.length+s:=by
 induction s with
 | zero=>exact Nat.le_refl _
 | succ s ih =>
  show(grStep h t (grS h t o s) s).1.length≤_
  unfold grStep
  split
  ·show(grS h t o s).1.length≤_;omega
  ·split
   ·show((grS h t o s).1 ++ [_]).length≤_
    rw[List.length_append,List.length_singleton];omega
   ·omega
theorem grT_len (h:Int→Int→Bool) (n:Nat):(grT h n).length≤n*2001:=by
 induction n with
 | zero=>exact Nat.le_refl _
 | succ n ih =>
  show(grS h n (grT h n) 2001).1.length≤_
  have:=grS_len h n (grT h n) 2001
  omega
theorem gr_len (h:Int→Int→Bool):(gr h).length≤40020:=grT_len h 20
end grid
namespace grid
set_option maxHeartbeats 16000000 in
set_option maxRecDepth 100000 in
theorem gridRanges_change.calls (hold:Int→Int→Bool) (ba bb:Nat) (w:World)
  (hcl:∀ W,Below w.heap.size w W→∀ t s:Int,0≤t→t<20→0≤s→s<2000→Calls Try.prog 84 #[.int .i64 t,.int .i64 s,.pointer (some ⟨ba,0,none⟩),.pointer (some ⟨bb,0,none⟩)] W fun e w'=>e = .returned (.bool (hold t s))∧W=w') :
  Calls Try.prog 83 #[.func (.func 84) #[] #[.pointer (some ⟨ba,0,none⟩),.pointer (some ⟨bb,0,none⟩)]] w fun e w'=>∃ v0_:Value,e = .returned v0_∧Kd.S (Kd.slice 3 (Kd.int .i64)) 22 w' w.heap.size (fun _=>True) v0_ (gr hold)∧Below w.heap.size w w':=by
 have HCL:=am hcl
 have HB:=am (Below.refl w.heap.size w)
 clear hcl
 go_enter Try.func83,Try.ntmps83
 go_wp2_with (first|((with_reducible refine gate_dst (N:=8) rfl ?_);refine Kd.S_lit (Kd.slice 3 (Kd.int .i64)) (w0:=w) w.heap.size 22 rfl (N:=8) rfl (xs:=[]) (inner:=[]) (ok:=fun _=>True) (okp:=fun _=>True) ?hr (Reps.none _ _) (fun _ hk=>hk) trivial HB.out (below_size HB.out) (by simp) ?_;(case hr=>first|(go_simp;done)|(go_simp;rfl));intro v0_ w1 ho hb hg_ hnew_;have HO:=am ho;clear HB;have HB:=am hb;clear ho hb hg_ hnew_))
 go_loopw [3,9] (fun v3 v9 wr=>∃ t:Int,Aside0 (0≤t∧t≤20)∧v9 = .int .i64 t∧Aside0 (Kd.S (Kd.slice 3 (Kd.int .i64)) 22 wr w.heap.size (fun _=>True) v3 (grT hold t.toNat))∧Aside0 (Below w.heap.size w wr)) (fun _ v9 _=>(20 - intOf v9).toNat)
 case atStart=>exact⟨0,⟨by omega⟩,rfl,HO,HB⟩
 case round =>
  clear HO HB
  obtain⟨t,HT0,rfl,HO,HB⟩:=hrel
  by_cases q:t<20
  ·have hq:decide (t<20)=true:=decide_eq_true q
   have HT:=am (show 0≤t∧t<20 from⟨HT0.out.1,q⟩)
   clear q
   go_wp2
   go_loopw [3,5,6] (fun v3 v5 v6 wi=>∃(s fr:Int) (o:List (List Int)),Aside0 (0≤s∧s≤2001)∧v5 = .int .i64 fr∧v6 = .int .i64 s∧Aside0 (grS hold t (grT hold t.toNat) s.toNat=(o,fr))∧Aside0 (Kd.S (Kd.slice 3 (Kd.int .i64)) 22 wi w.heap.size (fun _=>True) v3 o)∧Aside0 (Below w.heap.size w wi)) (fun _ _ v6 _=>(2001 - intOf v6).toNat)
   case atStart=>exact⟨0,-1,grT hold t.toNat,⟨by omega⟩,rfl,rfl,⟨rfl⟩,HO,HB⟩
   case round =>
    clear HO HB hq
    obtain⟨s,fr,o,HS0,rfl,rfl,HE,HO,HB⟩:=hrel
    have HLEN:=am (show o.length≤100000 from by
     have h1:=grS_len hold t (grT hold t.toNat) s.toNat
     have h2:=grT_len hold t.toNat
     rw[HE.out] at h1
     have h3:=HT.out
     have h4:=HS0.out
     simp only at h1
     have h5:t.toNat*2001≤19*2001:=Nat.mul_le_mul_right _ (by omega)
     omega)
    by_cases hs:s≤2000
    ·have hs1:decide (s≤2000)=true:=decide_eq_true hs
     have HLE:=am hs
     by_cases hs2:s<2000
     ·have hs3:decide (s<2000)=true:=decide_eq_true hs2
      have HS:=am (show 0≤s∧s<2000 from⟨HS0.out.1,hs2⟩)
      clear hs hs2
      cases hh:hold t s with
      | true =>
       have HH:=am hh
       clear hh
       by_cases hf:fr<0
       ·have hf1:decide (fr<0)=true:=decide_eq_true hf
        have HF:=am hf
        clear hf
        go_wp2_with (first|(go_at_call 84;refine(HCL.out _ HB.out t s HT.out.1 HT.out.2 HS.out.1 HS.out.2 ).mono ?_;rintro e w_ ⟨rfl,rfl⟩;rw[HH.out]))
        go_roundw
        case rel=>exact⟨s+1,s,o,⟨by have:=HS0.out;have:=HLE.out;omega⟩,(by first|rfl|(simp;done)|(congr 1)),(by first|rfl|(congr 1;have:=HS0.out;have:=HLE.out;unfold wrap64;omega)),⟨by have e:=HS0.out.1;rw[show(s+1).toNat=s.toNat+1 by omega];show grStep hold t (grS hold t (grT hold t.toNat) s.toNat) (s.toNat:Nat)=_;rw[HE.out,show((s.toNat:Nat):Int)=s by omega];unfold grStep;rw[if_pos ⟨HS.out.2,HH.out⟩,if_pos HF.out]⟩,HO,HB⟩
        case measure=>have:=HS0.out;have:=HLE.out;have hw:wrap64 (s+1)=s+1:=(by unfold wrap64;omega);simp [intOf,hw];omega
       ·have hf1:decide (fr<0)=false:=decide_eq_false hf
        have HF:=am hf
        clear hf
        go_wp2_with (first|(go_at_call 84;refine(HCL.out _ HB.out t s HT.out.1 HT.out.2 HS.out.1 HS.out.2 ).mono ?_;rintro e w_ ⟨rfl,rfl⟩;rw[HH.out]))
        go_roundw
        case rel=>exact⟨s+1,fr,o,⟨by have:=HS0.out;have:=HLE.out;omega⟩,(by first|rfl|(simp;done)|(congr 1)),(by first|rfl|(congr 1;have:=HS0.out;have:=HLE.out;unfold wrap64;omega)),⟨by have e:=HS0.out.1;rw[show(s+1).toNat=s.toNat+1 by omega];show grStep hold t (grS hold t (grT hold t.toNat) s.toNat) (s.toNat:Nat)=_;rw[HE.out,show((s.toNat:Nat):Int)=s by omega];unfold grStep;rw[if_pos ⟨HS.out.2,HH.out⟩];have hF:=HF.out;show(o,if fr<0 then s else fr)=(o,fr);rw[if_neg (by omega)]⟩,HO,HB⟩
        case measure=>have:=HS0.out;have:=HLE.out;have hw:wrap64 (s+1)=s+1:=(by unfold wrap64;omega);simp [intOf,hw];omega
      | false =>
       have HH:=am hh
       clear hh
       by_cases hf:0≤fr
       ·have hf1:decide (0≤fr)=true:=decide_eq_true hf
        have HF:=am hf
        clear hf
        obtain⟨Ao,co,eo⟩:=Kd.S_slice HO.out
        subst eo
        go_wp2_with (first|(go_at_call 84;refine(HCL.out _ HB.out t s HT.out.1 HT.out.2 HS.out.1 HS.out.2 ).mono ?_;rintro e w_ ⟨rfl,rfl⟩;rw[HH.out])|((with_reducible refine gate_dst (N:=40) rfl ?_);refine Kd.R_lit (Kd.int .i64) _ 3 ?hg (N:=40) ?hd (xs:=([t,fr,s]:List Int)) (inner:=[.int .i64 t,.int .i64 fr,.int .i64 s]) (ok:=fun _=>True) (okp:=fun _=>True) ?hr ?hp (fun _ hk=>hk) trivial (Below.refl _ _) (Nat.le_refl _) (by simp) ?_;(case hd=>rfl);(case hg=>rfl);(case hr=>first|(go_simp;done)|(go_simp;rfl));(case hp=>exact(Reps.one (show Kd.M (Kd.int .i64) _ _ _ t [.int .i64 t] from rfl) (Reps.one (show Kd.M (Kd.int .i64) _ _ _ fr [.int .i64 fr] from rfl) (Reps.one (show Kd.M (Kd.int .i64) _ _ _ s [.int .i64 s] from rfl) (Reps.none _ _)))));intro v1_ w5 ho5 hb hg_ hnew_;clear hg_ hnew_;replace HO:=am (Kd.S_elder' HO.out (Kd.R_base ho5) hb);have HI:=am (Kd.R_lower ho5 (below_size HB.out));replace HB:=am (below_step HB.out hb);clear hb ho5;obtain⟨Ai,ci,ei⟩:=Kd.R_slice HI.out;subst ei)|((with_reducible refine gate_builtin (b := .append) (xs := #[.tmp 36,.tmp 41]) rfl ?_);at_builtin;refine Kd.S_append (Kd.slice 3 (Kd.int .i64)) (w0:=w) w.heap.size rfl (.tmp 36) (.tmp 41) 71 22 (.slice none 0 0) 24 rfl Try.underlying71 info22 rfl (by decide) (by omega) (.slice Ao o.length co) o [t,fr,s] [.slice Ai ([t,fr,s]:List Int).length ci] (fun _=>True) (fun k_=>some k_=(.slice Ai ([t,fr,s]:List Int).length ci:Value).ownBlock) rfl rfl ?aP (fun k_ hk_=>((Kd.R_mono (ok':=fun k_=>((fun _=>True)) k_∧some k_≠(.slice Ao o.length co:Value).ownBlock) (Kd.R_apart' (HI.out) (Kd.S_typed HO.out) (by decide)) (fun k_ hk=>⟨trivial,hk.2⟩))).1 k_ hk_.symm) ?aF ?aO ?aB ?aS ?aL ?_;(case aP=>exact Kd.M_row (Kd.R_mono (Kd.R_tight rfl (Kd.R_mono (ok':=fun k_=>((fun _=>True)) k_∧some k_≠(.slice Ao o.length co:Value).ownBlock) (Kd.R_apart' (HI.out) (Kd.S_typed HO.out) (by decide)) (fun k_ hk=>⟨trivial,hk.2⟩))) (fun _ h_=>h_)));(case aB=>exact HB.out);(case aF=>exact(fun _ _=>trivial));(case aO=>exact Kd.S_mono HO.out (fun k_ hk=>⟨trivial,fun e_=>hk.2 e_⟩));(case aS=>exact below_size HB.out);(case aL=>have:=HLEN.out;omega);intro v2_ w6 ho hb hg hat;have n0_:=am hb;have n1_:=am ho;clear HB HO HI ho hb hg hat;have HB:=n0_;have HO:=n1_;clear n0_ n1_))
        go_roundw
        case rel=>exact⟨s+1,-1,o ++ [[t,fr,s]],⟨by have:=HS0.out;have:=HLE.out;omega⟩,(by first|rfl|(simp;done)|(congr 1)),(by first|rfl|(congr 1;have:=HS0.out;have:=HLE.out;unfold wrap64;omega)),⟨by have e:=HS0.out.1;rw[show(s+1).toNat=s.toNat+1 by omega];show grStep hold t (grS hold t (grT hold t.toNat) s.toNat) (s.toNat:Nat)=_;rw[HE.out,show((s.toNat:Nat):Int)=s by omega];unfold grStep;rw[if_neg (fun h=>by rw[HH.out] at h;cases h.2),if_pos HF.out]⟩,HO,HB⟩
        case measure=>have:=HS0.out;have:=HLE.out;have hw:wrap64 (s+1)=s+1:=(by unfold wrap64;omega);simp [intOf,hw];omega
       ·have hf1:decide (0≤fr)=false:=decide_eq_false hf
        have HF:=am hf
        clear hf
        go_wp2_with (first|(go_at_call 84;refine(HCL.out _ HB.out t s HT.out.1 HT.out.2 HS.out.1 HS.out.2 ).mono ?_;rintro e w_ ⟨rfl,rfl⟩;rw[HH.out]))
        go_roundw
        case rel=>exact⟨s+1,fr,o,⟨by have:=HS0.out;have:=HLE.out;omega⟩,(by first|rfl|(simp;done)|(congr 1)),(by first|rfl|(congr 1;have:=HS0.out;have:=HLE.out;unfold wrap64;omega)),⟨by have e:=HS0.out.1;rw[show(s+1).toNat=s.toNat+1 by omega];show grStep hold t (grS hold t (grT hold t.toNat) s.toNat) (s.toNat:Nat)=_;rw[HE.out,show((s.toNat:Nat):Int)=s by omega];unfold grStep;rw[if_neg (fun h=>by rw[HH.out] at h;cases h.2)];have hF:=HF.out;show(if 0≤fr then _ else(o,fr))=(o,fr);rw[if_neg (by omega)]⟩,HO,HB⟩
        case measure=>have:=HS0.out;have:=HLE.out;have hw:wrap64 (s+1)=s+1:=(by unfold wrap64;omega);simp [intOf,hw];omega
     ·have hs3:decide (s<2000)=false:=decide_eq_false hs2
      have HS:=am hs2
      clear hs hs2
      by_cases hf:0≤fr
      ·have hf1:decide (0≤fr)=true:=decide_eq_true hf
       have HF:=am hf
       clear hf
       obtain⟨Ao,co,eo⟩:=Kd.S_slice HO.out
       subst eo
       go_wp2_with (first|((with_reducible refine gate_dst (N:=40) rfl ?_);refine Kd.R_lit (Kd.int .i64) _ 3 ?hg (N:=40) ?hd (xs:=([t,fr,s]:List Int)) (inner:=[.int .i64 t,.int .i64 fr,.int .i64 s]) (ok:=fun _=>True) (okp:=fun _=>True) ?hr ?hp (fun _ hk=>hk) trivial (Below.refl _ _) (Nat.le_refl _) (by simp) ?_;(case hd=>rfl);(case hg=>rfl);(case hr=>first|(go_simp;done)|(go_simp;rfl));(case hp=>exact(Reps.one (show Kd.M (Kd.int .i64) _ _ _ t [.int .i64 t] from rfl) (Reps.one (show Kd.M (Kd.int .i64) _ _ _ fr [.int .i64 fr] from rfl) (Reps.one (show Kd.M (Kd.int .i64) _ _ _ s [.int .i64 s] from rfl) (Reps.none _ _)))));intro v1_ w5 ho5 hb hg_ hnew_;clear hg_ hnew_;replace HO:=am (Kd.S_elder' HO.out (Kd.R_base ho5) hb);have HI:=am (Kd.R_lower ho5 (below_size HB.out));replace HB:=am (below_step HB.out hb);clear hb ho5;obtain⟨Ai,ci,ei⟩:=Kd.R_slice HI.out;subst ei)|((with_reducible refine gate_builtin (b := .append) (xs := #[.tmp 36,.tmp 41]) rfl ?_);at_builtin;refine Kd.S_append (Kd.slice 3 (Kd.int .i64)) (w0:=w) w.heap.size rfl (.tmp 36) (.tmp 41) 71 22 (.slice none 0 0) 24 rfl Try.underlying71 info22 rfl (by decide) (by omega) (.slice Ao o.length co) o [t,fr,s] [.slice Ai ([t,fr,s]:List Int).length ci] (fun _=>True) (fun k_=>some k_=(.slice Ai ([t,fr,s]:List Int).length ci:Value).ownBlock) rfl rfl ?aP (fun k_ hk_=>((Kd.R_mono (ok':=fun k_=>((fun _=>True)) k_∧some k_≠(.slice Ao o.length co:Value).ownBlock) (Kd.R_apart' (HI.out) (Kd.S_typed HO.out) (by decide)) (fun k_ hk=>⟨trivial,hk.2⟩))).1 k_ hk_.symm) ?aF ?aO ?aB ?aS ?aL ?_;(case aP=>exact Kd.M_row (Kd.R_mono (Kd.R_tight rfl (Kd.R_mono (ok':=fun k_=>((fun _=>True)) k_∧some k_≠(.slice Ao o.length co:Value).ownBlock) (Kd.R_apart' (HI.out) (Kd.S_typed HO.out) (by decide)) (fun k_ hk=>⟨trivial,hk.2⟩))) (fun _ h_=>h_)));(case aB=>exact HB.out);(case aF=>exact(fun _ _=>trivial));(case aO=>exact Kd.S_mono HO.out (fun k_ hk=>⟨trivial,fun e_=>hk.2 e_⟩));(case aS=>exact below_size HB.out);(case aL=>have:=HLEN.out;omega);intro v2_ w6 ho hb hg hat;have n0_:=am hb;have n1_:=am ho;clear HB HO HI ho hb hg hat;have HB:=n0_;have HO:=n1_;clear n0_ n1_))
       go_roundw
       case rel=>exact⟨s+1,-1,o ++ [[t,fr,s]],⟨by have:=HS0.out;have:=HLE.out;omega⟩,(by first|rfl|(simp;done)|(congr 1)),(by first|rfl|(congr 1;have:=HS0.out;have:=HLE.out;unfold wrap64;omega)),⟨by have e:=HS0.out.1;rw[show(s+1).toNat=s.toNat+1 by omega];show grStep hold t (grS hold t (grT hold t.toNat) s.toNat) (s.toNat:Nat)=_;rw[HE.out,show((s.toNat:Nat):Int)=s by omega];unfold grStep;rw[if_neg (fun h=>by have:=HS.out;have:=h.1;omega),if_pos HF.out]⟩,HO,HB⟩
       case measure=>have:=HS0.out;have:=HLE.out;have hw:wrap64 (s+1)=s+1:=(by unfold wrap64;omega);simp [intOf,hw];omega
      ·have hf1:decide (0≤fr)=false:=decide_eq_false hf
       have HF:=am hf
       clear hf
       go_wp2
       go_roundw
       case rel=>exact⟨s+1,fr,o,⟨by have:=HS0.out;have:=HLE.out;omega⟩,(by first|rfl|(simp;done)|(congr 1)),(by first|rfl|(congr 1;have:=HS0.out;have:=HLE.out;unfold wrap64;omega)),⟨by have e:=HS0.out.1;rw[show(s+1).toNat=s.toNat+1 by omega];show grStep hold t (grS hold t (grT hold t.toNat) s.toNat) (s.toNat:Nat)=_;rw[HE.out,show((s.toNat:Nat):Int)=s by omega];unfold grStep;rw[if_neg (fun h=>by have:=HS.out;have:=h.1;omega)];have hF:=HF.out;show(if 0≤fr then _ else(o,fr))=(o,fr);rw[if_neg (by omega)]⟩,HO,HB⟩
       case measure=>have:=HS0.out;have:=HLE.out;have hw:wrap64 (s+1)=s+1:=(by unfold wrap64;omega);simp [intOf,hw];omega
    ·have hs1:decide (s≤2000)=false:=decide_eq_false hs
     have HLE:=am hs
     clear hs
     go_wp2
     go_roundw
     case rel=>exact⟨t+1,⟨by have:=HT.out;omega⟩,(by first|rfl|(congr 1;have:=HT.out;unfold wrap64;omega)),⟨by
      have h1:=HT.out
      have h2:=HS0.out
      have h3:=HLE.out
      rw[show(t+1).toNat=t.toNat+1 by omega]
      show Kd.S _ _ _ _ _ _ (grS hold (t.toNat:Nat) (grT hold t.toNat) 2001).1
      rw[show((t.toNat:Nat):Int)=t by omega,show 2001=s.toNat by omega,HE.out]
      exact HO.out⟩,HB⟩
     case measure=>have:=HT.out;have hw:wrap64 (t+1)=t+1:=(by unfold wrap64;omega);simp [intOf,hw];omega
  ·have hq:decide (t<20)=false:=decide_eq_false q
   have HQ:=am q
   clear q
   go_wp2
   go_ret
   exact⟨_,rfl,by
    have h1:=HT0.out
    have h2:=HQ.out
    unfold gr
    rw[show 20=t.toNat by omega]
    exact HO.out,HB.out⟩
end grid
namespace grid
set_option maxHeartbeats 8000000 in
set_option maxRecDepth 100000 in
theorem change1.calls (t s:Int) (ba bb ga gb:Nat) (G1 G2:Int→Int→Bool) (w:World) (hba:w.cell? ⟨ba,0,none⟩=some (.pointer (some ⟨ga,0,none⟩))) (hbb:w.cell? ⟨bb,0,none⟩=some (.pointer (some ⟨gb,0,none⟩)))
  (h1:Grid w ga G1) (h2:Grid w gb G2) (t0:0≤t) (t1:t<20) (s0:0≤s) (s1:s<2000) :
  Calls Try.prog 84 #[.int .i64 t,.int .i64 s,.pointer (some ⟨ba,0,none⟩),.pointer (some ⟨bb,0,none⟩)] w fun e w'=>e = .returned (.bool (G1 t s&&!G2 t s))∧w=w':=by
 obtain⟨c1,_⟩:=h1.cell t0 t1 s0 s1
 obtain⟨c2,_⟩:=h2.cell t0 t1 s0 s1
 clear h1 h2
 replace t0:=eq_true t0
 replace t1:=eq_true t1
 replace s0:=eq_true s0
 replace s1:=eq_true s1
 cases hg:G1 t s with
 | true =>
  rw[hg] at c1
  clear hg
  go_enter Try.func84,Try.ntmps84
  go_wp2
  go_ret
  exact⟨by simp,rfl⟩
 | false =>
  rw[hg] at c1
  clear hg
  go_enter Try.func84,Try.ntmps84
  go_wp2
  go_ret
  exact⟨by simp,rfl⟩
def okHB (h:S51):Bool:=decide (0≤h.f0∧h.f0<20∧0≤h.f1∧h.f2≤2000)
theorem okHB_all {l:List S51} (h:l.all okHB=true):∀ x∈l,okH x:=fun x hx=>by
 have:=List.all_eq_true.1 h x hx
 simpa [okHB,okH] using this
end grid
def impl_mustChange.f (l0:List (S51)) (l1:List (S51)):Option (List (List Int)):=if(l0.all grid.okHB&&l1.all grid.okHB)=true then some (grid.gr (fun t s=>grid.openAt l0 t s&&!grid.openAt l1 t s)) else none
set_option maxHeartbeats 8000000 in
set_option maxRecDepth 100000 in
theorem impl_mustChange.calls (A0:Option Addr) (c0:Nat) (l0:List (S51)) (A1:Option Addr) (c1:Nat) (l1:List (S51)) (r:List (List Int)) (w:World) (hr0:Kd.C k51 w A0 l0.length l0) (hc0:l0.length≤c0) (hr1:Kd.C k51 w A1 l1.length l1) (hc1:l1.length≤c1) (h:impl_mustChange.f l0 l1=some r) :
  Calls Try.prog 73 #[.slice A0 l0.length c0,.slice A1 l1.length c1] w fun e w'=>∃ v0_:Value,e = .returned (v0_)∧Kd.S (Kd.slice 3 (Kd.int .i64)) 22 w' w.heap.size (fun _=>True) v0_ r∧Below w.heap.size w w':=by
 have hok:(l0.all grid.okHB&&l1.all grid.okHB)=true:=by
  by_cases c:(l0.all grid.okHB&&l1.all grid.okHB)=true
  ·exact c
  ·rw[impl_mustChange.f,if_neg c] at h;cases h
 rw[impl_mustChange.f,if_pos hok] at h
 obtain rfl:=Option.some.inj h
 clear h
 rw[Bool.and_eq_true] at hok
 have HV0:=am (grid.okHB_all hok.1)
 have HV1:=am (grid.okHB_all hok.2)
 have HR0:=am hr0
 have HR1:=am hr1
 have HC0:=am hc0
 have HC1:=am hc1
 have HB:=am (Below.refl w.heap.size w)
 clear hr0 hr1 hc0 hc1 hok
 have hmf:∀(fn:Fn) (first cap:Array Value) (w:World),(Instr.makeFunc fn first cap).run Try.prog w = .ok (.func fn first cap) w:=fun _ _ _ _=>rfl
 go_enter Try.func73,Try.ntmps73
 go_wp2_with (first|((with_reducible refine gate_callee (f:=74) rfl ?_);refine goesL_ (some 8) rfl rfl Try.func74 (by kernel_rfl) rfl #[.slice A0 l0.length c0] rfl (by(try simp only[List.map_toArray,List.map_cons,List.map_nil]);first|done|rfl) ?_;(with_reducible refine(grid.gridOf.calls _ _ l0 _ ?s1 ?s2 HV0.out).mono ?_);(case s1=>exact Kd.C_below HR0.out HB.out);(case s2=>exact HC0.out);rintro e w1 ⟨ga,rfl,hg,hge,hb⟩;refine⟨_,rfl,?_⟩;have HG1:=am hg;have HA1:=am hge;replace HB:=am (below_step HB.out hb);clear hb hg hge)|((with_reducible refine gate_callee (f:=74) rfl ?_);refine goesL_ (some 10) rfl rfl Try.func74 (by kernel_rfl) rfl #[.slice A1 l1.length c1] rfl (by(try simp only[List.map_toArray,List.map_cons,List.map_nil]);first|done|rfl) ?_;(with_reducible refine(grid.gridOf.calls _ _ l1 _ ?s1 ?s2 HV1.out).mono ?_);(case s1=>exact Kd.C_below HR1.out HB.out);(case s2=>exact HC1.out);rintro e w2 ⟨gb,rfl,hg,hge,hb⟩;refine⟨_,rfl,?_⟩;have HG2:=am hg;replace HB:=am (below_step HB.out hb);replace HG1:=am (HG1.out.below hb);clear hb hg hge)|((with_reducible refine gate_dst (N:=5) rfl ?_);refine box_event ?hg (N:=5) ?hd (cs := #[.pointer none]) (t:=92) ?hr ?_;(case hd=>rfl);(case hg=>rfl);(case hr=>first|(go_simp;done)|(go_simp;rfl));intro ba hg w3 hbox hb;have N1:=am (by rw[hg];exact Nat.ne_of_lt HG1.out.lt:ga≠ba);have N2:=am (by rw[hg];exact Nat.ne_of_lt HG2.out.lt:gb≠ba);have GA:=am (by rw[hg];exact below_size HB.out:w.heap.size≤ba);have BA:=am hbox;replace HB:=am (below_step HB.out hb);replace HG1:=am (HG1.out.below hb);replace HG2:=am (HG2.out.below hb);clear hb hbox hg)|((with_reducible refine gate_dst (N:=6) rfl ?_);refine box_event ?hg (N:=6) ?hd (cs := #[.pointer none]) (t:=92) ?hr ?_;(case hd=>rfl);(case hg=>rfl);(case hr=>first|(go_simp;done)|(go_simp;rfl));intro bb hg w4 hbox hb;have N3:=am (by rw[hg];exact Nat.ne_of_lt HG1.out.lt:ga≠bb);have N4:=am (by rw[hg];exact Nat.ne_of_lt HG2.out.lt:gb≠bb);have N5:=am (by rw[hg];exact Nat.ne_of_lt (blk_lt BA.out):ba≠bb);have GB:=am (by rw[hg];exact below_size HB.out:w.heap.size≤bb);have BB:=am hbox;replace HB:=am (below_step HB.out hb);replace HG1:=am (HG1.out.below hb);replace HG2:=am (HG2.out.below hb);replace BA:=am (blk_below BA.out hb);clear hb hbox hg;have hca_:w4.cell? ⟨ba,0,none⟩=some (.pointer none):=(blk_cell BA.out 0).trans rfl;have hcb_:w4.cell? ⟨bb,0,none⟩=some (.pointer none):=(blk_cell BB.out 0).trans rfl;have hfa_:=blk_frozen BA.out 0;have hfb_:=blk_frozen BB.out 0)|((with_reducible refine gate_store (t:=92) (p:=5) rfl ?_);refine store_event (t:=92) (p:=5) (v:=?v5) (w1:=(w4.setCell ⟨ba,0,none⟩ (.pointer (some ⟨ga,0,none⟩)))) ?hg ?ho ?hn ?hr ?_;(case ho=>rfl);(case hg=>rfl);(case hn=>rfl);(case hr=>first|(go_simp;done)|(go_simp;rfl));intro w5 hw;have n0_:=am (by rw[hw];exact below_set HB.out GA.out:Below w.heap.size w w5);have n1_:=am (HG1.out.move (w1:=w5) (by rw[hw];exact Below.heap_setCell w4 ⟨ba,0,none⟩ _ ga N1.out));have n2_:=am (HG2.out.move (w1:=w5) (by rw[hw];exact Below.heap_setCell w4 ⟨ba,0,none⟩ _ gb N2.out));have n3_:=am (by rw[hw];exact blk_put (cs := #[.pointer none]) BA.out 0 _ rfl:w5.heap[ba]?=some (.cells #[.pointer (some ⟨ga,0,none⟩)] 92 (0,0)));have n4_:=am (by rw[hw];exact(Below.heap_setCell w4 ⟨ba,0,none⟩ _ bb (Ne.symm N5.out)).trans BB.out:w5.heap[bb]?=some (.cells #[.pointer none] 92 (0,0)));clear HB HG1 HG2 BA BB hw;have HB:=n0_;have HG1:=n1_;have HG2:=n2_;have BA:=n3_;have BB:=n4_;clear n0_ n1_ n2_ n3_ n4_;have hca_:w5.cell? ⟨ba,0,none⟩=some (.pointer (some ⟨ga,0,none⟩)):=(blk_cell BA.out 0).trans rfl;have hcb_:w5.cell? ⟨bb,0,none⟩=some (.pointer none):=(blk_cell BB.out 0).trans rfl;have hfb_:=blk_frozen BB.out 0)|((with_reducible refine gate_store (t:=92) (p:=6) rfl ?_);refine store_event (t:=92) (p:=6) (v:=?v6) (w1:=(w5.setCell ⟨bb,0,none⟩ (.pointer (some ⟨gb,0,none⟩)))) ?hg ?ho ?hn ?hr ?_;(case ho=>rfl);(case hg=>rfl);(case hn=>rfl);(case hr=>first|(go_simp;done)|(go_simp;rfl));intro w6 hw;have n0_:=am (by rw[hw];exact below_set HB.out GB.out:Below w.heap.size w w6);have n1_:=am (HG1.out.move (w1:=w6) (by rw[hw];exact Below.heap_setCell w5 ⟨bb,0,none⟩ _ ga N3.out));have n2_:=am (HG2.out.move (w1:=w6) (by rw[hw];exact Below.heap_setCell w5 ⟨bb,0,none⟩ _ gb N4.out));have n3_:=am (by rw[hw];exact blk_put (cs := #[.pointer none]) BB.out 0 _ rfl:w6.heap[bb]?=some (.cells #[.pointer (some ⟨gb,0,none⟩)] 92 (0,0)));have n4_:=am (by rw[hw];exact(Below.heap_setCell w5 ⟨bb,0,none⟩ _ ba N5.out).trans BA.out:w6.heap[ba]?=some (.cells #[.pointer (some ⟨ga,0,none⟩)] 92 (0,0)));clear HB HG1 HG2 BA BB hw;have HB:=n0_;have HG1:=n1_;have HG2:=n2_;have BB:=n3_;have BA:=n4_;clear n0_ n1_ n2_ n3_ n4_;have hca_:w6.cell? ⟨ba,0,none⟩=some (.pointer (some ⟨ga,0,none⟩)):=(blk_cell BA.out 0).trans rfl;have hcb_:w6.cell? ⟨bb,0,none⟩=some (.pointer (some ⟨gb,0,none⟩)):=(blk_cell BB.out 0).trans rfl;have hfb_:=blk_frozen BB.out 0)|(go_at_call 83;refine(grid.gridRanges_change.calls (fun t s=>grid.openAt l0 t s&&!grid.openAt l1 t s) ba bb _ ?hcl).mono ?_;(case hcl=>intro W hbW t s t0 t1 s0 s1;exact grid.change1.calls t s ba bb ga gb _ _ W ((blk_cell (blk_below BA.out hbW) 0).trans rfl) ((blk_cell (blk_below BB.out hbW) 0).trans rfl) (HG1.out.below hbW) (HG2.out.below hbW) t0 t1 s0 s1);rintro e w7 ⟨v0_,rfl,ho,hb⟩;have HO:=am (Kd.S_lower ho (below_size HB.out));have HO2:=am ho;have HB2:=am (below_step HB.out hb);have HLE:=am (below_size HB.out);clear ho hb))
 go_ret
 exact⟨_,rfl,HO.out,HB2.out⟩

namespace grid
theorem gr_okR (h:Int→Int→Bool):∀ r∈gr h,okR r:=by
 have one:∀(t:Nat) (o:List (List Int)),t<20→(∀ r∈o,okR r)→∀ s:Nat,s≤2001→∀ r∈(grS h t o s).1,okR r:=by
  intro t o ht ho s
  induction s with
  | zero=>intro _ r hr;exact ho r hr
  | succ s ih =>
   intro hs r hr
   have e:grS h t o (s+1)=grStep h t (grS h t o s) s:=rfl
   rw[e] at hr
   have h2:=grS_snd h t o s
   have ih:=ih (by omega)
   unfold grStep at hr
   split at hr
   ·exact ih r hr
   ·split at hr
    ·rcases List.mem_append.1 hr with h3|h3
     ·exact ih r h3
     ·rw[List.mem_singleton.1 h3]
      refine⟨rfl,?_,?_,?_,?_,?_,?_⟩
      ·show(0:Int)≤(t:Int);omega
      ·show(t:Int)<20;omega
      ·show(0:Int)≤(grS h t o s).2;omega
      ·show(grS h t o s).2≤2000;omega
      ·show(0:Int)≤(s:Int);omega
      ·show(s:Int)≤2000;omega
    ·exact ih r hr
 have all:∀ n,n≤20→∀ r∈grT h n,okR r:=by
  intro n
  induction n with
  | zero=>intro _ r hr;exact absurd hr List.not_mem_nil
  | succ n ih=>intro hn;exact one n _ (by omega) (ih (by omega)) 2001 (Nat.le_refl _)
 exact all 20 (Nat.le_refl _)
end grid
namespace grid
set_option maxHeartbeats 8000000 in
set_option maxRecDepth 100000 in
theorem allAre.calls (g:Nat) (G:Int→Int→Bool) (op:Bool) (t a b:Int) (w:World) (hG:Grid w g G) (t0:0≤t) (t1:t<20) (a0:0≤a) (b1:b≤2000) :
  Calls Try.prog 82 #[.pointer (some ⟨g,0,none⟩),.bool op,.int .i64 t,.int .i64 a,.int .i64 b] w fun e w'=>e = .returned (.bool (allB G op t a b))∧w=w':=by
 have HG:=am hG
 have HT:=am (show 0≤t∧t<20 from⟨t0,t1⟩)
 have HAB:=am (show 0≤a∧b≤2000 from⟨a0,b1⟩)
 clear hG t0 t1 a0 b1
 go_enter Try.func82,Try.ntmps82
 go_wp2
 go_loopw [11] (fun v wr=>∃ m:Int,v = .int .i64 m∧Aside0 (a≤m)∧Aside0 (allB G op t m b=allB G op t a b)∧w=wr) (fun v _=>(b - intOf v).toNat)
 case atStart=>exact⟨a,rfl,⟨Int.le_refl _⟩,⟨rfl⟩,rfl⟩
 case round =>
  obtain⟨m,rfl,HM,HE,rfl⟩:=hrel
  by_cases q:m<b
  ·have qb:decide (m<b)=true:=decide_eq_true q
   have h2:0≤m:=by have:=HM.out;have:=HAB.out;omega
   have h3:m<2000:=by have:=HAB.out;omega
   obtain⟨hgc,hgf⟩:=HG.out.cell HT.out.1 HT.out.2 h2 h3
   have HS:=am (allB_step (G:=G) (op:=op) (t:=t) q)
   have HQ:=am (show 0≤m∧m<2000∧m<b from⟨h2,h3,q⟩)
   have h0:=eq_true HT.out.1
   have h1:=eq_true HT.out.2
   replace h2:=eq_true h2
   replace h3:=eq_true h3
   clear q hgf
   cases op with
   | true =>
    rcases hv:G t m with _|_
    ·have HV:=am hv
     rw[hv] at hgc
     clear hv
     go_wp2
     go_ret
     refine⟨?_,rfl⟩
     rw[← HE.out,HS.out,HV.out]
     rfl
    ·have HV:=am hv
     rw[hv] at hgc
     clear hv
     go_wp2
     go_roundw
     case rel=>exact⟨m+1,(by first|rfl|(congr 1;have:=HQ.out;unfold wrap64;omega)),⟨by have:=HM.out;omega⟩,⟨by rw[← HE.out,HS.out,HV.out];rfl⟩,(by first|rfl|trivial)⟩
     case measure=>have:=HQ.out;have hw:wrap64 (m+1)=m+1:=(by unfold wrap64;omega);simp [intOf,hw];omega
   | false =>
    rcases hv:G t m with _|_
    ·have HV:=am hv
     rw[hv] at hgc
     clear hv
     go_wp2
     go_roundw
     case rel=>exact⟨m+1,(by first|rfl|(congr 1;have:=HQ.out;unfold wrap64;omega)),⟨by have:=HM.out;omega⟩,⟨by rw[← HE.out,HS.out,HV.out];rfl⟩,(by first|rfl|trivial)⟩
     case measure=>have:=HQ.out;have hw:wrap64 (m+1)=m+1:=(by unfold wrap64;omega);simp [intOf,hw];omega
    ·have HV:=am hv
     rw[hv] at hgc
     clear hv
     go_wp2
     go_ret
     refine⟨?_,rfl⟩
     rw[← HE.out,HS.out,HV.out]
     rfl
  ·have qb:decide (m<b)=false:=decide_eq_false q
   have HQ:=am q
   clear q
   go_wp2
   go_ret
   exact⟨by rw[← HE.out,allB_stop (by have:=HQ.out;omega)];rfl,rfl⟩
end grid
namespace grid
/-- The elements of a row of rows, each by itself: its header, and its own row; f tells whose a block is. -/
theorem S_pool {e:Nat} {W:World} {base n cap g:Nat} {ok:Nat→Prop} {xs:List (List Int)} (h:Kd.S (Kd.slice 3 (Kd.int .i64)) e W base ok (.slice (some ⟨g,0,none⟩) n cap) xs) :
  ∃ f:Nat→Nat,∀ i,i<xs.length→∃ hv,W.cell? ⟨g,i,none⟩=some hv∧Kd.R (Kd.int .i64) 3 W base (fun k=>k<W.heap.size∧k≠g∧f k=i) hv (xs.getD i []):=by
 obtain⟨f,hR⟩:=h
 have hgo:some g=(Value.slice (some ⟨g,0,none⟩) n cap).ownBlock:=by simp [Value.ownBlock]
 obtain⟨hok0,inner,ho,hr⟩:=hR
 refine⟨f,fun i hi=>?_⟩
 have hM:(Kd.slice 3 (Kd.int .i64)).M W base (fun k=>(ok k∧some k≠(Value.slice (some ⟨g,0,none⟩) n cap).ownBlock)∧f k=i) xs[i] ((inner.drop (i*1)).take 1):=hr.2 i (xs[i],i) (Kd.zip_at (List.getElem?_eq_getElem hi))
 obtain⟨hv,he,hrow⟩:=hM
 have hin:inner[i]?=some hv:=by
  have h1:((inner.drop (i*1)).take 1)[0]?=some hv:=by rw[he];rfl
  rw[List.getElem?_take,if_pos (by omega),List.getElem?_drop] at h1
  simpa using h1
 have hc:=ho.cells (g:=g) hgo.symm i hv hin
 rw[add_plain] at hc
 refine⟨hv,hc,?_⟩
 rw[List.getD_eq_getElem?_getD,List.getElem?_eq_getElem hi]
 refine Kd.R_mono (Kd.R_bound hrow) (fun k hk=>⟨hk.2.2.1,fun e=>hk.1.1.2 (by rw[e];exact hgo),hk.1.2⟩)
end grid
namespace grid
def okO (B g:Nat) (f:Nat→Nat) (i:Nat) (k:Nat):Prop:=(k<B∧k≠g∧f k<i)∨B≤k
def Pool (w:World) (base B g:Nat) (f:Nat→Nat) (A:Option Addr) (xs:List (List Int)) (i:Nat):Prop :=
 ∀ j,i≤j→j<xs.length→A=some ⟨g,0,none⟩∧g<B∧∃ hv,w.cell? ⟨g,j,none⟩=some hv∧Kd.R (Kd.int .i64) 3 w base (fun k=>k<B∧k≠g∧f k=j) hv (xs.getD j [])
theorem okO_split {B g:Nat} {f:Nat→Nat} {i k:Nat} (h:okO B g f i k):okO B g f (i+1) k∧¬ (k<B∧k≠g∧f k=i):=by
 rcases h with h|h
 ·exact⟨.inl ⟨h.1,h.2.1,Nat.lt_succ_of_lt h.2.2⟩,fun h2=>by have:=h.2.2;have:=h2.2.2;omega⟩
 ·exact⟨.inr h,fun h2=>by have:=h2.1;omega⟩
theorem cell_move {w w1:World} {p:Addr} (h:w1.heap[p.block]?=w.heap[p.block]?):w1.cell? p=w.cell? p:=by
 simp only[World.cell?,h]
theorem Pool.step {w w1:World} {base B g:Nat} {f:Nat→Nat} {A:Option Addr} {xs:List (List Int)} {i:Nat} (h:Pool w base B g f A xs i) (hm:∀ k,k<B→(k≠g→i≤f k)→w1.heap[k]?=w.heap[k]?):Pool w1 base B g f A xs i:=by
 intro j hj hx
 obtain⟨e,hg,hv,hc,hr⟩:=h j hj hx
 refine⟨e,hg,hv,(cell_move (hm g hg (fun e=>absurd rfl e))).trans hc,Kd.R_step hr (fun k hk _=>hm k hk.1 (fun _=>by rw[hk.2.2];exact hj))⟩
theorem Pool.next {w:World} {base B g:Nat} {f:Nat→Nat} {A:Option Addr} {xs:List (List Int)} {i j:Nat} (h:Pool w base B g f A xs i) (hij:i≤j):Pool w base B g f A xs j:=fun q hq hx=>h q (by omega) hx
theorem pool_start {W:World} {base c0:Nat} {A0:Option Addr} {xs:List (List Int)} (h:Kd.S (Kd.slice 3 (Kd.int .i64)) 22 W base (fun _=>True) (.slice A0 xs.length c0) xs):∃ g f,Pool W base W.heap.size g f A0 xs 0:=by
 rcases A0 with _|ad
 ·refine⟨0,fun _=>0,fun j _ hj=>?_⟩
  obtain⟨g,cap,e,_⟩:=Kd.S_form h (by omega)
  cases e
 ·obtain⟨g,rfl⟩:=Kd.R_head (Kd.S_R h)
  obtain⟨f,hf⟩:=S_pool h
  refine⟨g,f,fun j _ hj=>⟨rfl,?_,hf j hj⟩⟩
  obtain⟨hv,hc,_⟩:=hf j hj
  exact World.block_lt_of_cell? _ _ hc
set_option maxHeartbeats 16000000 in
set_option maxRecDepth 100000 in
theorem joined.calls (b:Nat) (G:Int→Int→Bool) (op:Bool) (fixed each:Int) (v:Value) (xs:List (List Int)) (w0 w:World) (HS:Kd.S (Kd.slice 3 (Kd.int .i64)) 22 w w0.heap.size (fun _=>True) v xs) (hG:Grid w b G) (hok:∀ x∈xs,okR x) (hlen:xs.length≤100000) (hB:Below w0.heap.size w0 w) :
  Calls Try.prog 72 #[v,.pointer (some ⟨b,0,none⟩),.bool op,.int .i64 fixed,.int .i64 each] w fun e w'=>∃ v0_:Value,e = .returned (.tuple #[v0_,.int .i64 (jrCost fixed each (jr G op fixed each xs))])∧Kd.S (Kd.slice 3 (Kd.int .i64)) 22 w' w0.heap.size (fun _=>True) v0_ (jr G op fixed each xs)∧Below w0.heap.size w0 w':=by
 obtain⟨A0,c0,rfl⟩:=Kd.S_slice HS
 obtain⟨g,f,hpool⟩:=pool_start HS
 have HP:=am hpool
 have HG:=am hG
 have HOK:=am hok
 have HL:=am hlen
 have HB:=am hB
 have HGL:=am hG.lt
 obtain⟨Bs,hBs⟩:∃ Bs,Bs=w.heap.size:=⟨_,rfl⟩
 rw[← hBs] at HP HGL
 have HBS:=am hBs
 clear hG hok hlen hB HS hpool hBs
 go_enter Try.func72,Try.ntmps72
 go_wp2_with (first|((with_reducible refine gate_dst (N:=19) rfl ?_);refine Kd.S_lit (Kd.slice 3 (Kd.int .i64)) (w0:=w0) w0.heap.size 22 rfl (N:=19) rfl (xs:=[]) (inner:=[]) (ok:=okO Bs g f 0) (okp:=fun _=>False) ?hr (Reps.none _ _) (fun _ hk=>hk.elim) (.inr (by rw[HBS.out];exact Nat.le_refl _)) HB.out (below_size HB.out) (by simp) ?_;(case hr=>first|(go_simp;done)|(go_simp;rfl));intro v0_ w1 ho hb hg_ hnew_;have HO:=am ho;have n0_:=am (HP.out.step (w1:=w1) (fun k hk _=>hg_.block k (by rw[← HBS.out];exact hk) (by simp)));have n1_:=am (HG.out.move (hg_.block b HG.out.lt (by simp)));have n2_:=am (show Bs≤w1.heap.size from by rw[HBS.out];exact hg_.size);clear HB HP HG;have HB:=am hb;have HP:=n0_;have HG:=n1_;have HSZ:=n2_;clear n0_ n1_ n2_ ho hb hg_ hnew_))
 go_loopw [12,22] (fun v12 v22 wr=>∃(i:Int) (o:List (List Int)),Aside0 (0≤i∧i≤xs.length)∧v22 = .int .i64 i∧Aside0 (o=jr G op fixed each (xs.take i.toNat))∧Aside0 (Kd.S (Kd.slice 3 (Kd.int .i64)) 22 wr w0.heap.size (okO Bs g f i.toNat) v12 o)∧Aside0 (Pool wr w0.heap.size Bs g f A0 xs i.toNat)∧Aside0 (Grid wr b G)∧Aside0 (Bs≤wr.heap.size)∧Aside0 (Below w0.heap.size w0 wr)) (fun _ v22 _=>((xs.length:Int) - intOf v22).toNat)
 case atStart=>exact⟨0,[],⟨by omega⟩,rfl,⟨rfl⟩,HO,HP,HG,HSZ,HB⟩
 case round =>
  clear HO HP HG HSZ HB
  obtain⟨i,o,HI,rfl,HJ,HO,HP,HG,HSZ,HB⟩:=hrel
  by_cases q:i<(xs.length:Int)
  ·have p:0≤i:=HI.out.1
   have hlt:i.toNat<xs.length:=by omega
   have HIL:=am (show 0≤i∧i<xs.length from⟨p,q⟩)
   obtain⟨rfl,hgB,hv,hcv,hrow⟩:=HP.out i.toNat (Nat.le_refl _) hlt
   have hxi:xs[i.toNat]?=some (xs.getD i.toNat []):=by rw[List.getD_eq_getElem?_getD,List.getElem?_eq_getElem hlt];rfl
   obtain⟨x,hx⟩:∃ x,x=xs.getD i.toNat []:=⟨_,rfl⟩
   rw[← hx] at hrow hxi
   have HX:=am hxi
   have HXR:=am (HOK.out x (List.mem_of_getElem? hxi))
   have hxl:=HXR.out.1
   obtain⟨gr,cr,eo,gb,gl,cl⟩:=Kd.R_form hrow (by omega)
   subst eo
   rw[hxl] at hrow hcv
   have HR:=am hrow
   have hr0:wr.cell? ⟨gr,0,none⟩=some (.int .i64 (rd x 0)):=(Kd.R_celln 0 hrow 0 (by omega) (by omega)).1
   have hr1:wr.cell? ⟨gr,1,none⟩=some (.int .i64 (rd x 1)):=(Kd.R_celln 0 hrow 1 (by omega) (by omega)).1
   have hr2:wr.cell? ⟨gr,2,none⟩=some (.int .i64 (rd x 2)):=(Kd.R_celln 0 hrow 2 (by omega) (by omega)).1
   have HGB:=am hgB
   obtain⟨Ao,co,eo⟩:=Kd.S_slice HO.out
   subst eo
   have HOL:=am (show o.length≤100000 from by
    have h1:=(jr_ok (G:=G) (op:=op) (fixed:=fixed) (each:=each) (xs.take i.toNat) (fun y hy=>HOK.out y (List.mem_of_mem_take hy))).2
    rw[← HJ.out,List.length_take] at h1
    have:=HL.out
    omega)
   clear gb gl cl hrow hgB hlt hxi hx hxl
   have qb:decide (i<(xs.length:Int))=true:=decide_eq_true q
   replace p:=eq_true p
   replace q:=eq_true q
   have HN:=am (show ∀ k,k<Bs→(k≠g→i.toNat≤f k)→some k≠(Value.slice Ao o.length co).ownBlock from fun k hk hf e=>by
    rcases(Kd.S_R HO.out).1 k e.symm with h|h
    ·have:=hf h.2.1;have:=h.2.2;omega
    ·omega)
   have HNB:=am (show some b≠(Value.slice Ao o.length co).ownBlock from by
    obtain⟨cs,hcs⟩:=HG.out.block
    exact Kd.S_ne HO.out hcs (by decide))
   by_cases ho0:o.length=0
   ·have hg1:decide (0≤wrap64 ((o.length:Int) - 1))=false:=decide_eq_false (by rw[ho0];unfold wrap64;omega)
    have HO0:=am ho0
    clear ho0
    skip
    go_wp2
    iterate 2 ((try go_quiet (fail));(try go_wp2_with (first|((with_reducible refine gate_builtin (b := .append) (xs := #[.tmp 84,.tmp 86]) rfl ?_);at_builtin;refine Kd.S_append (Kd.slice 3 (Kd.int .i64)) (w0:=w0) w0.heap.size rfl (.tmp 84) (.tmp 86) 71 22 (.slice none 0 0) 24 rfl Try.underlying71 info22 rfl (by decide) (by omega) (.slice Ao o.length co) o x [.slice (some ⟨gr,0,none⟩) 3 cr] (okO Bs g f (i.toNat+1)) (fun k=>k<Bs∧k≠g∧f k=i.toNat) rfl rfl ?aP (fun k hk=>⟨.inl ⟨hk.1,hk.2.1,by have:=hk.2.2;omega⟩,fun e=>HN.out k hk.1 (fun _=>by have:=hk.2.2;omega) e⟩) ?aF ?aO ?aB ?aS ?aL ?_;(case aP=>exact Kd.M_row (rup (HR.out)));(case aF=>exact fun k hk => .inr (Nat.le_trans HSZ.out hk));(case aO=>exact Kd.S_mono (ok:=okO Bs g f i.toNat) (by(with_reducible repeat(first|apply Kd.S_alloc|apply Kd.S_drewN|apply Kd.S_drew));exact HO.out) (fun k hk=>okO_split hk));(case aB=>exact(by repeat(first|exact HB.out|apply below_alloc|apply pw_below_drewN|apply below_drew1)));(case aS=>exact below_size (by repeat(first|exact HB.out|apply below_alloc|apply pw_below_drewN|apply below_drew1)));(case aL=>have:=HOL.out;omega);intro v1_ w6 ho hb hg_ hat;have n0_:=am (show Pool w6 w0.heap.size Bs g f (some ⟨g,0,none⟩) xs (i.toNat+1) from(HP.out.next (Nat.le_succ _)).step (fun k hk hf=>hg_.block k (Nat.lt_of_lt_of_le hk HSZ.out) (fun e=>HN.out k hk (fun h=>by have:=hf h;omega) e)));have n1_:=am (HG.out.move (hg_.block b HG.out.lt HNB.out));have n2_:=am (Nat.le_trans HSZ.out hg_.size);clear HB HO HP HG HSZ;have HB:=am hb;have HO:=am ho;have HP:=n0_;have HG:=n1_;have HSZ:=n2_;clear n0_ n1_ n2_ hat hb ho hg_))))
    go_roundw
    case rel=>exact⟨i+1,o ++ [x],⟨by have:=HIL.out;omega⟩,(by first|rfl|(congr 1;have:=HIL.out;have:=HL.out;unfold wrap64;omega)),⟨by have h0:=HIL.out.1;rw[show(i+1).toNat=i.toNat+1 by omega,List.take_add_one,HX.out];show _=jr G op fixed each (xs.take i.toNat ++ [x]);rw[jr_snoc,← HJ.out];unfold jrStep;rw[if_neg (fun h=>by have:=HO0.out;omega)]⟩,⟨by have h0:=HIL.out.1;rw[show(i+1).toNat=i.toNat+1 by omega];exact HO.out⟩,⟨by have h0:=HIL.out.1;rw[show(i+1).toNat=i.toNat+1 by omega];exact HP.out⟩,HG,HSZ,HB⟩
    case measure=>have h1:=HIL.out;have h2:=HL.out;have hw:wrap64 (i+1)=i+1:=(by unfold wrap64;omega);simp [intOf,hw];omega
   ·have hL:wrap64 ((o.length:Int) - 1)=(o.length:Int) - 1:=by have:=HOL.out;unfold wrap64;omega
    obtain⟨go,co',eo,_⟩:=Kd.S_form HO.out (by omega)
    cases eo
    have p1:0≤wrap64 ((o.length:Int) - 1):=by omega
    have q1:wrap64 ((o.length:Int) - 1)<(o.length:Int):=by omega
    obtain⟨oki,c,hcl,hM,hcc,hoki,hback⟩:=Kd.S_borrow HO.out [] (wrap64 ((o.length:Int) - 1)) p1 q1
    have hy:o.getD (wrap64 ((o.length:Int) - 1)).toNat []=jrY o:=by unfold jrY;congr 1;omega
    rw[hy] at hM
    have HYR:=am (show okR (jrY o) from(jr_ok (xs.take i.toNat) (fun y hy=>HOK.out y (List.mem_of_mem_take hy))).1 _ (by
     rw[← HJ.out]
     unfold jrY
     rw[List.getD_eq_getElem?_getD,List.getElem?_eq_getElem (by omega)]
     exact List.getElem_mem _))
    have hyl:=HYR.out.1
    obtain⟨hv',ec,hrowy⟩:=hM
    have hcy:=hcc 0 hv' (by rw[ec];rfl)
    rw[add_plain,show(wrap64 ((o.length:Int) - 1)).toNat*(Kd.slice 3 (Kd.int .i64)).sz+0=(wrap64 ((o.length:Int) - 1)).toNat from by rw[show(Kd.slice 3 (Kd.int .i64)).sz=1 from rfl];omega] at hcy
    obtain⟨gy,cy,ey,gyb,gyl,cyl⟩:=Kd.R_form hrowy (by omega)
    subst ey
    rw[hyl] at hrowy hcy ec
    have hy0:wr.cell? ⟨gy,0,none⟩=some (.int .i64 (rd (jrY o) 0)):=(Kd.R_celln 0 hrowy 0 (by omega) (by omega)).1
    have hy1:wr.cell? ⟨gy,1,none⟩=some (.int .i64 (rd (jrY o) 1)):=(Kd.R_celln 0 hrowy 1 (by omega) (by omega)).1
    have hy2:wr.cell? ⟨gy,2,none⟩=some (.int .i64 (rd (jrY o) 2)):=(Kd.R_celln 0 hrowy 2 (by omega) (by omega)).1
    have hyf:wr.frozen? ⟨gy,2,none⟩=false:=(Kd.R_celln 0 hrowy 2 (by omega) (by omega)).2
    have HYY:=am hrowy
    have HGY:=am gyb
    have HBK:=am @hback
    have HLL:=am (show(wrap64 ((o.length:Int) - 1)).toNat=o.length - 1 from by omega)
    have HGI:=am (show oki gy from hrowy.1 gy (by simp [Value.ownBlock]))
    have HEC:=am ec
    have HNY:=am (show ∀ k,k<Bs→(k≠g→i.toNat≤f k)→some k≠some gy from fun k hk hf e=>by
     cases e
     rcases(hoki gy HGI.out).1 with h|h
     ·have:=hf h.2.1;have:=h.2.2;omega
     ·omega)
    have HNC:=am (show some b≠some gy from by
     obtain⟨cs,hcs⟩:=HG.out.block
     exact Kd.R_ne hrowy hcs (by decide))
    have HO0:=am (show 0<o.length by omega)
    have hg1:decide (0≤wrap64 ((o.length:Int) - 1))=true:=decide_eq_true p1
    replace p1:=eq_true p1
    replace q1:=eq_true q1
    clear ho0 hL hcl hcc hoki hback hy hyl hrowy gyb gyl cyl ec
    by_cases hc1:rd (jrY o) 0=rd x 0
    ·have hd1:decide (rd (jrY o) 0=rd x 0)=true:=decide_eq_true hc1
     have hd1':(rd (jrY o) 0 == rd x 0)=true:=beq_iff_eq.2 hc1
     by_cases hc2:wrap64 (wrap64 (rd x 1 - rd (jrY o) 2)*each)<fixed
     ·have hd2:decide (wrap64 (wrap64 (rd x 1 - rd (jrY o) 2)*each)<fixed)=true:=decide_eq_true hc2
      rcases hal:allB G op (rd x 0) (rd (jrY o) 2) (rd x 1) with _|_
      ·have HAL:=am hal
       have HNJ:=am (show ¬ (0<o.length∧jrJoins G op fixed each (jrY o) x) from fun h=>by rw[h.2.2.2] at hal;cases hal)
       clear hc1 hc2 hal
       go_wp2
       iterate 2 ((try go_quiet (first|(go_at_call 82;refine(allAre.calls b G op (rd x 0) (rd (jrY o) 2) (rd x 1) _ (by first|exact HG.out|exact HG.out.move rfl|exact HG.out.move (by simp)) HXR.out.2.1 HXR.out.2.2.1 HYR.out.2.2.2.2.2.1 HXR.out.2.2.2.2.1).mono ?_;rintro e w_ ⟨rfl,rfl⟩;exact⟨congrArg (fun z=>Ending.returned (.bool z)) HAL.out,_,rfl⟩)));(try go_wp2_with (first|((with_reducible refine gate_builtin (b := .append) (xs := #[.tmp 84,.tmp 86]) rfl ?_);at_builtin;refine Kd.S_append (Kd.slice 3 (Kd.int .i64)) (w0:=w0) w0.heap.size rfl (.tmp 84) (.tmp 86) 71 22 (.slice none 0 0) 24 rfl Try.underlying71 info22 rfl (by decide) (by omega) (.slice (some ⟨go,0,none⟩) o.length co) o x [.slice (some ⟨gr,0,none⟩) 3 cr] (okO Bs g f (i.toNat+1)) (fun k=>k<Bs∧k≠g∧f k=i.toNat) rfl rfl ?aP (fun k hk=>⟨.inl ⟨hk.1,hk.2.1,by have:=hk.2.2;omega⟩,fun e=>HN.out k hk.1 (fun _=>by have:=hk.2.2;omega) e⟩) ?aF ?aO ?aB ?aS ?aL ?_;(case aP=>exact Kd.M_row (rup (HR.out)));(case aF=>exact fun k hk => .inr (Nat.le_trans HSZ.out hk));(case aO=>exact Kd.S_mono (ok:=okO Bs g f i.toNat) (by(with_reducible repeat(first|apply Kd.S_alloc|apply Kd.S_drewN|apply Kd.S_drew));exact HO.out) (fun k hk=>okO_split hk));(case aB=>exact(by repeat(first|exact HB.out|apply below_alloc|apply pw_below_drewN|apply below_drew1)));(case aS=>exact below_size (by repeat(first|exact HB.out|apply below_alloc|apply pw_below_drewN|apply below_drew1)));(case aL=>have:=HOL.out;omega);intro v1_ w6 ho hb hg_ hat;have n0_:=am (show Pool w6 w0.heap.size Bs g f (some ⟨g,0,none⟩) xs (i.toNat+1) from(HP.out.next (Nat.le_succ _)).step (fun k hk hf=>hg_.block k (Nat.lt_of_lt_of_le hk HSZ.out) (fun e=>HN.out k hk (fun h=>by have:=hf h;omega) e)));have n1_:=am (HG.out.move (hg_.block b HG.out.lt HNB.out));have n2_:=am (Nat.le_trans HSZ.out hg_.size);clear HB HO HP HG HSZ;have HB:=am hb;have HO:=am ho;have HP:=n0_;have HG:=n1_;have HSZ:=n2_;clear n0_ n1_ n2_ hat hb ho hg_))))
       go_roundw
       case rel=>exact⟨i+1,o ++ [x],⟨by have:=HIL.out;omega⟩,(by first|rfl|(congr 1;have:=HIL.out;have:=HL.out;unfold wrap64;omega)),⟨by have h0:=HIL.out.1;rw[show(i+1).toNat=i.toNat+1 by omega,List.take_add_one,HX.out];show _=jr G op fixed each (xs.take i.toNat ++ [x]);rw[jr_snoc,← HJ.out];unfold jrStep;rw[if_neg HNJ.out]⟩,⟨by have h0:=HIL.out.1;rw[show(i+1).toNat=i.toNat+1 by omega];exact HO.out⟩,⟨by have h0:=HIL.out.1;rw[show(i+1).toNat=i.toNat+1 by omega];exact HP.out⟩,HG,HSZ,HB⟩
       case measure=>have h1:=HIL.out;have h2:=HL.out;have hw:wrap64 (i+1)=i+1:=(by unfold wrap64;omega);simp [intOf,hw];omega
      ·have HAL:=am hal
       have HJJ:=am (show 0<o.length∧jrJoins G op fixed each (jrY o) x from⟨HO0.out,hc1,hc2,hal⟩)
       clear hc1 hc2 hal
       go_wp2
       go_quiet (first|(go_at_call 82;refine(allAre.calls b G op (rd x 0) (rd (jrY o) 2) (rd x 1) _ (by first|exact HG.out|exact HG.out.move rfl|exact HG.out.move (by simp)) HXR.out.2.1 HXR.out.2.2.1 HYR.out.2.2.2.2.2.1 HXR.out.2.2.2.2.1).mono ?_;rintro e w_ ⟨rfl,rfl⟩;exact⟨congrArg (fun z=>Ending.returned (.bool z)) HAL.out,_,rfl⟩))
       go_wp2
       go_region
       have HPU:=am (Kd.R_putg (Kd.R_drewN HYY.out (nq+1)) 2 (rd x 2))
       have HGW:=am (show wr.grownBy ((wr.drewN (nq+1)).setCell ⟨gy,2,none⟩ (.int .i64 (rd x 2))) (some gy) from⟨HPU.out.2.os,HPU.out.2.tape,HPU.out.2.output,HPU.out.2.size,HPU.out.2.block⟩)
       have HO2:=am (HBK.out (w1:=(wr.drewN (nq+1)).setCell ⟨gy,2,none⟩ (.int .i64 (rd x 2))) HGW.out (fun k hk=>by cases hk;exact HGI.out) (x':=(jrY o).set 2 (rd x 2)) ⟨_,HEC.out,HPU.out.1⟩)
       have HP2:=am ((HP.out.next (Nat.le_succ i.toNat)).step (w1:=(wr.drewN (nq+1)).setCell ⟨gy,2,none⟩ (.int .i64 (rd x 2))) (fun k hk hf=>HGW.out.block k (Nat.lt_of_lt_of_le hk HSZ.out) (HNY.out k hk (fun h=>by have:=hf h;omega))))
       have HG2:=am (HG.out.move (w1:=(wr.drewN (nq+1)).setCell ⟨gy,2,none⟩ (.int .i64 (rd x 2))) (HGW.out.block b (Nat.lt_of_lt_of_le HGL.out HSZ.out) HNC.out))
       have HSZ2:=am (Nat.le_trans HSZ.out HGW.out.size)
       have HB2:=am (show Below w0.heap.size w0 ((wr.drewN (nq+1)).setCell ⟨gy,2,none⟩ (.int .i64 (rd x 2))) from below_set (pw_below_drewN HB.out (nq+1)) HGY.out)
       clear HPU HGW
       obtain⟨w6,hw6⟩:∃ w6,w6=(wr.drewN (nq+1)).setCell ⟨gy,2,none⟩ (.int .i64 (rd x 2)):=⟨_,rfl⟩
       rw[← hw6] at HO2 HP2 HG2 HSZ2 HB2 ⊢
       clear hw6 HO HP HG HSZ HB HBK HYY HEC hcv hr0 hr1 hr2 hcy hy0 hy1 hy2 hyf HR
       go_wp2
       go_roundw
       case rel=>exact⟨i+1,o.set (o.length - 1) ((jrY o).set 2 (rd x 2)),⟨by have:=HIL.out;omega⟩,(by first|rfl|(congr 1;have:=HIL.out;have:=HL.out;unfold wrap64;omega)),⟨by have h0:=HIL.out.1;rw[show(i+1).toNat=i.toNat+1 by omega,List.take_add_one,HX.out];show _=jr G op fixed each (xs.take i.toNat ++ [x]);rw[jr_snoc,← HJ.out];unfold jrStep;rw[if_pos HJJ.out]⟩,⟨by have h0:=HIL.out.1;rw[show(i+1).toNat=i.toNat+1 by omega];have:=HO2.out;rw[HLL.out] at this;exact Kd.S_mono this (fun k hk=>(okO_split hk).1)⟩,⟨by have h0:=HIL.out.1;rw[show(i+1).toNat=i.toNat+1 by omega];exact HP2.out⟩,HG2,HSZ2,HB2⟩
       case measure=>have h1:=HIL.out;have h2:=HL.out;have hw:wrap64 (i+1)=i+1:=(by unfold wrap64;omega);simp [intOf,hw];omega
     ·have hd2:decide (wrap64 (wrap64 (rd x 1 - rd (jrY o) 2)*each)<fixed)=false:=decide_eq_false hc2
      have HNJ:=am (show ¬ (0<o.length∧jrJoins G op fixed each (jrY o) x) from fun h=>hc2 h.2.2.1)
      clear hc1 hc2
      go_wp2
      iterate 2 ((try go_quiet (fail));(try go_wp2_with (first|((with_reducible refine gate_builtin (b := .append) (xs := #[.tmp 84,.tmp 86]) rfl ?_);at_builtin;refine Kd.S_append (Kd.slice 3 (Kd.int .i64)) (w0:=w0) w0.heap.size rfl (.tmp 84) (.tmp 86) 71 22 (.slice none 0 0) 24 rfl Try.underlying71 info22 rfl (by decide) (by omega) (.slice (some ⟨go,0,none⟩) o.length co) o x [.slice (some ⟨gr,0,none⟩) 3 cr] (okO Bs g f (i.toNat+1)) (fun k=>k<Bs∧k≠g∧f k=i.toNat) rfl rfl ?aP (fun k hk=>⟨.inl ⟨hk.1,hk.2.1,by have:=hk.2.2;omega⟩,fun e=>HN.out k hk.1 (fun _=>by have:=hk.2.2;omega) e⟩) ?aF ?aO ?aB ?aS ?aL ?_;(case aP=>exact Kd.M_row (rup (HR.out)));(case aF=>exact fun k hk => .inr (Nat.le_trans HSZ.out hk));(case aO=>exact Kd.S_mono (ok:=okO Bs g f i.toNat) (by(with_reducible repeat(first|apply Kd.S_alloc|apply Kd.S_drewN|apply Kd.S_drew));exact HO.out) (fun k hk=>okO_split hk));(case aB=>exact(by repeat(first|exact HB.out|apply below_alloc|apply pw_below_drewN|apply below_drew1)));(case aS=>exact below_size (by repeat(first|exact HB.out|apply below_alloc|apply pw_below_drewN|apply below_drew1)));(case aL=>have:=HOL.out;omega);intro v1_ w6 ho hb hg_ hat;have n0_:=am (show Pool w6 w0.heap.size Bs g f (some ⟨g,0,none⟩) xs (i.toNat+1) from(HP.out.next (Nat.le_succ _)).step (fun k hk hf=>hg_.block k (Nat.lt_of_lt_of_le hk HSZ.out) (fun e=>HN.out k hk (fun h=>by have:=hf h;omega) e)));have n1_:=am (HG.out.move (hg_.block b HG.out.lt HNB.out));have n2_:=am (Nat.le_trans HSZ.out hg_.size);clear HB HO HP HG HSZ;have HB:=am hb;have HO:=am ho;have HP:=n0_;have HG:=n1_;have HSZ:=n2_;clear n0_ n1_ n2_ hat hb ho hg_))))
      go_roundw
      case rel=>exact⟨i+1,o ++ [x],⟨by have:=HIL.out;omega⟩,(by first|rfl|(congr 1;have:=HIL.out;have:=HL.out;unfold wrap64;omega)),⟨by have h0:=HIL.out.1;rw[show(i+1).toNat=i.toNat+1 by omega,List.take_add_one,HX.out];show _=jr G op fixed each (xs.take i.toNat ++ [x]);rw[jr_snoc,← HJ.out];unfold jrStep;rw[if_neg HNJ.out]⟩,⟨by have h0:=HIL.out.1;rw[show(i+1).toNat=i.toNat+1 by omega];exact HO.out⟩,⟨by have h0:=HIL.out.1;rw[show(i+1).toNat=i.toNat+1 by omega];exact HP.out⟩,HG,HSZ,HB⟩
      case measure=>have h1:=HIL.out;have h2:=HL.out;have hw:wrap64 (i+1)=i+1:=(by unfold wrap64;omega);simp [intOf,hw];omega
    ·have hd1:decide (rd (jrY o) 0=rd x 0)=false:=decide_eq_false hc1
     have hd1':(rd (jrY o) 0 == rd x 0)=false:=beq_eq_false_iff_ne.2 hc1
     have HNJ:=am (show ¬ (0<o.length∧jrJoins G op fixed each (jrY o) x) from fun h=>hc1 h.2.1)
     clear hc1
     go_wp2
     iterate 2 ((try go_quiet (fail));(try go_wp2_with (first|((with_reducible refine gate_builtin (b := .append) (xs := #[.tmp 84,.tmp 86]) rfl ?_);at_builtin;refine Kd.S_append (Kd.slice 3 (Kd.int .i64)) (w0:=w0) w0.heap.size rfl (.tmp 84) (.tmp 86) 71 22 (.slice none 0 0) 24 rfl Try.underlying71 info22 rfl (by decide) (by omega) (.slice (some ⟨go,0,none⟩) o.length co) o x [.slice (some ⟨gr,0,none⟩) 3 cr] (okO Bs g f (i.toNat+1)) (fun k=>k<Bs∧k≠g∧f k=i.toNat) rfl rfl ?aP (fun k hk=>⟨.inl ⟨hk.1,hk.2.1,by have:=hk.2.2;omega⟩,fun e=>HN.out k hk.1 (fun _=>by have:=hk.2.2;omega) e⟩) ?aF ?aO ?aB ?aS ?aL ?_;(case aP=>exact Kd.M_row (rup (HR.out)));(case aF=>exact fun k hk => .inr (Nat.le_trans HSZ.out hk));(case aO=>exact Kd.S_mono (ok:=okO Bs g f i.toNat) (by(with_reducible repeat(first|apply Kd.S_alloc|apply Kd.S_drewN|apply Kd.S_drew));exact HO.out) (fun k hk=>okO_split hk));(case aB=>exact(by repeat(first|exact HB.out|apply below_alloc|apply pw_below_drewN|apply below_drew1)));(case aS=>exact below_size (by repeat(first|exact HB.out|apply below_alloc|apply pw_below_drewN|apply below_drew1)));(case aL=>have:=HOL.out;omega);intro v1_ w6 ho hb hg_ hat;have n0_:=am (show Pool w6 w0.heap.size Bs g f (some ⟨g,0,none⟩) xs (i.toNat+1) from(HP.out.next (Nat.le_succ _)).step (fun k hk hf=>hg_.block k (Nat.lt_of_lt_of_le hk HSZ.out) (fun e=>HN.out k hk (fun h=>by have:=hf h;omega) e)));have n1_:=am (HG.out.move (hg_.block b HG.out.lt HNB.out));have n2_:=am (Nat.le_trans HSZ.out hg_.size);clear HB HO HP HG HSZ;have HB:=am hb;have HO:=am ho;have HP:=n0_;have HG:=n1_;have HSZ:=n2_;clear n0_ n1_ n2_ hat hb ho hg_))))
     go_roundw
     case rel=>exact⟨i+1,o ++ [x],⟨by have:=HIL.out;omega⟩,(by first|rfl|(congr 1;have:=HIL.out;have:=HL.out;unfold wrap64;omega)),⟨by have h0:=HIL.out.1;rw[show(i+1).toNat=i.toNat+1 by omega,List.take_add_one,HX.out];show _=jr G op fixed each (xs.take i.toNat ++ [x]);rw[jr_snoc,← HJ.out];unfold jrStep;rw[if_neg HNJ.out]⟩,⟨by have h0:=HIL.out.1;rw[show(i+1).toNat=i.toNat+1 by omega];exact HO.out⟩,⟨by have h0:=HIL.out.1;rw[show(i+1).toNat=i.toNat+1 by omega];exact HP.out⟩,HG,HSZ,HB⟩
     case measure=>have h1:=HIL.out;have h2:=HL.out;have hw:wrap64 (i+1)=i+1:=(by unfold wrap64;omega);simp [intOf,hw];omega
  ·have qb:decide (i<(xs.length:Int))=false:=decide_eq_false q
   have hJ:o=jr G op fixed each xs:=by
    have h1:=HI.out
    have h2:=HJ.out
    rw[show i.toNat=xs.length by omega,List.take_length] at h2
    exact h2
   obtain⟨Ao,co,eo⟩:=Kd.S_slice HO.out
   subst eo
   have HO:=am (Kd.S_mono (ok':=fun _=>True) HO.out (fun _ _=>trivial))
   have hok2:=jr_ok (G:=G) (op:=op) (fixed:=fixed) (each:=each) xs HOK.out
   rw[← hJ] at hok2
   have HOK2:=am hok2.1
   have HOL:=am (Nat.le_trans hok2.2 HL.out)
   have HJ2:=am hJ
   clear q hJ HP HG HSZ HJ hok2 HI
   go_wp2
   go_loopw [16,91] (fun v16 v91 wq=>∃ m c:Int,Aside0 (0≤m∧m≤o.length)∧v16 = .int .i64 c∧v91 = .int .i64 m∧Aside0 (c=jrCost fixed each (o.take m.toNat))∧Aside0 (Kd.S (Kd.slice 3 (Kd.int .i64)) 22 wq w0.heap.size (fun _=>True) (.slice Ao o.length co) o)∧Aside0 (Below w0.heap.size w0 wq)) (fun _ v91 _=>((o.length:Int) - intOf v91).toNat)
   case atStart=>exact⟨0,0,⟨by omega⟩,rfl,rfl,⟨rfl⟩,HO,HB⟩
   case round =>
    clear HO HB
    obtain⟨m,c,HM,rfl,rfl,HC,HO,HB⟩:=hrel
    by_cases q:m<(o.length:Int)
    ·have p:0≤m:=HM.out.1
     have HML:=am (show 0≤m∧m<o.length from⟨p,q⟩)
     have hlt:m.toNat<o.length:=by omega
     obtain⟨go,co',eo,_⟩:=Kd.S_form HO.out (by omega)
     cases eo
     obtain⟨oki,c1,hcl,hM,hcc,hoki,hback⟩:=Kd.S_borrow HO.out [] m p q
     have hy:o[m.toNat]?=some (o.getD m.toNat []):=by rw[List.getD_eq_getElem?_getD,List.getElem?_eq_getElem hlt];rfl
     obtain⟨y,ey⟩:∃ y,y=o.getD m.toNat []:=⟨_,rfl⟩
     rw[← ey] at hM hy
     have HY:=am hy
     have hyl:=(HOK2.out y (List.mem_of_getElem? hy)).1
     obtain⟨hv',ec,hrowy⟩:=hM
     have hcy:=hcc 0 hv' (by rw[ec];rfl)
     rw[add_plain,show m.toNat*(Kd.slice 3 (Kd.int .i64)).sz+0=m.toNat from by rw[show(Kd.slice 3 (Kd.int .i64)).sz=1 from rfl];omega] at hcy
     obtain⟨gy,cy,ey',gyb,gyl,cyl⟩:=Kd.R_form hrowy (by omega)
     subst ey'
     rw[hyl] at hrowy hcy
     have hy1:wr.cell? ⟨gy,1,none⟩=some (.int .i64 (rd y 1)):=(Kd.R_celln 0 hrowy 1 (by omega) (by omega)).1
     have hy2:wr.cell? ⟨gy,2,none⟩=some (.int .i64 (rd y 2)):=(Kd.R_celln 0 hrowy 2 (by omega) (by omega)).1
     have qb:decide (m<(o.length:Int))=true:=decide_eq_true q
     replace p:=eq_true p
     replace q:=eq_true q
     clear hcl hcc hoki hback hy hyl hrowy gyb gyl cyl ec hlt ey
     go_wp2
     go_quiet (fail)
     go_wp2
     go_roundw
     case rel=>exact⟨m+1,jrOne fixed each c y,⟨by have:=HML.out;omega⟩,rfl,(by first|rfl|(congr 1;have:=HML.out;have:=HOL.out;unfold wrap64;omega)),⟨by have h0:=HML.out.1;rw[show(m+1).toNat=m.toNat+1 by omega,List.take_add_one,HY.out];show _=jrCost fixed each (o.take m.toNat ++ [y]);unfold jrCost;rw[List.foldl_append];show _=jrOne fixed each (jrCost fixed each (o.take m.toNat)) y;rw[← HC.out]⟩,⟨by first|exact HO.out|exact Kd.S_drewN HO.out _⟩,⟨by first|exact HB.out|exact pw_below_drewN HB.out _⟩⟩
     case measure=>have h1:=HML.out;have h2:=HOL.out;have hw:wrap64 (m+1)=m+1:=(by unfold wrap64;omega);simp [intOf,hw];omega
    ·have qb:decide (m<(o.length:Int))=false:=decide_eq_false q
     have HE:=am (show jrCost fixed each (jr G op fixed each xs)=c from by
      have h1:=HM.out
      rw[HC.out,show m.toNat=o.length by omega,List.take_length,← HJ2.out])
     clear q
     go_wp2
     go_ret2
     rw[HE.out,← HJ2.out]
     exact⟨_,rfl,HO.out,HB.out⟩
end grid
def impl_PatchesFor.f (k:Nat) (l0:List (S51)) (l1:List (S51)) (a2:Int) (a3:Int):Option (List (List Int)×Int×Bool):=(impl_canRepair.f k l0 l1 a2 a3).bind fun q=>if q=true then((impl_mustChange.f l0 l1).bind fun xs=>if xs.length≤100000∧l1.all grid.okHB=true then some (grid.jr (grid.openAt l1) false a2 a3 xs,grid.jrCost a2 a3 (grid.jr (grid.openAt l1) false a2 a3 xs),true) else none) else some ([],0,false)
set_option maxHeartbeats 8000000 in
set_option maxRecDepth 100000 in
theorem impl_PatchesFor.calls (k:Nat) (A0:Option Addr) (c0:Nat) (l0:List (S51)) (A1:Option Addr) (c1:Nat) (l1:List (S51)) (a2:Int) (a3:Int) (r1:List (List Int)) (r2:Int) (r3:Bool) (w:World) (hr0:Kd.C k51 w A0 l0.length l0) (hc0:l0.length≤c0) (hr1:Kd.C k51 w A1 l1.length l1) (hc1:l1.length≤c1) (h:impl_PatchesFor.f k l0 l1 a2 a3=some (r1,r2,r3)) :
  Calls Try.prog 52 #[.slice A0 l0.length c0,.slice A1 l1.length c1,.int .i64 a2,.int .i64 a3] w fun e w'=>∃ v0_:Value,e = .returned (.tuple #[v0_,.int .i64 r2,.bool r3])∧Kd.S (Kd.slice 3 (Kd.int .i64)) 22 w' w.heap.size (fun _=>True) v0_ r1∧Below w.heap.size w w':=by
 unfold impl_PatchesFor.f at h
 obtain⟨q,hq,h⟩:=Option.bind_eq_some_iff.1 h
 have HR0:=am hr0
 have HR1:=am hr1
 have HC0:=am hc0
 have HC1:=am hc1
 have HQ:=am hq
 clear hr0 hr1 hc0 hc1 hq
 cases q with
 | false =>
  rw[if_neg (by decide)] at h
  cases h
  go_enter Try.func52,Try.ntmps52
  go_wp2_with (first|(go_at_call 26;(with_reducible refine(impl_canRepair.calls k _ _ l0 _ _ l1 a2 a3 false _ ?s1 ?s2 ?s3 ?s4 HQ.out).mono ?_);(case s1=>exact HR0.out);(case s2=>exact HC0.out);(case s3=>exact HR1.out);(case s4=>exact HC1.out);rintro e w1 ⟨rfl,hb⟩;have HB:=am hb;clear hb))
  go_ret3
  exact⟨_,rfl,Kd.S_nil _ _ _ _ _,HB.out⟩
 | true =>
  rw[if_pos rfl] at h
  obtain⟨xs,hxs,h⟩:=Option.bind_eq_some_iff.1 h
  by_cases hv:xs.length≤100000∧l1.all grid.okHB=true
  ·rw[if_pos hv] at h
   cases h
   have HXS:=am hxs
   have HXL:=am hv.1
   have HV:=am (grid.okHB_all hv.2)
   have HOK:=am (show ∀ x∈xs,grid.okR x from by
    have h2:=hxs
    unfold impl_mustChange.f at h2
    split at h2
    ·cases h2;exact grid.gr_okR _
    ·cases h2)
   clear hxs hv
   go_enter Try.func52,Try.ntmps52
   go_wp2_with (first|(go_at_call 26;(with_reducible refine(impl_canRepair.calls k _ _ l0 _ _ l1 a2 a3 true _ ?s1 ?s2 ?s3 ?s4 HQ.out).mono ?_);(case s1=>exact HR0.out);(case s2=>exact HC0.out);(case s3=>exact HR1.out);(case s4=>exact HC1.out);rintro e w1 ⟨rfl,hb⟩;have HB:=am hb;clear hb)|((with_reducible refine gate_callee (f:=73) rfl ?_);refine goesL_ (some 22) rfl rfl Try.func73 (by kernel_rfl) rfl #[.slice A0 l0.length c0,.slice A1 l1.length c1] rfl (by(try simp only[List.map_toArray,List.map_cons,List.map_nil]);first|done|rfl) ?_;(with_reducible refine(impl_mustChange.calls _ _ l0 _ _ l1 xs _ ?s1 ?s2 ?s3 ?s4 HXS.out).mono ?_);(case s1=>exact Kd.C_below HR0.out HB.out);(case s2=>exact HC0.out);(case s3=>exact Kd.C_below HR1.out HB.out);(case s4=>exact HC1.out);rintro e w2 ⟨v2,rfl,ho,hb⟩;refine⟨_,rfl,?_⟩;have HO:=am (Kd.S_lower ho (below_size HB.out));replace HB:=am (below_step HB.out hb);clear hb ho)|((with_reducible refine gate_callee (f:=74) rfl ?_);refine goesL_ (some 24) rfl rfl Try.func74 (by kernel_rfl) rfl #[.slice A1 l1.length c1] rfl (by(try simp only[List.map_toArray,List.map_cons,List.map_nil]);first|done|rfl) ?_;(with_reducible refine(grid.gridOf.calls _ _ l1 _ ?s1 ?s2 HV.out).mono ?_);(case s1=>exact Kd.C_below HR1.out HB.out);(case s2=>exact HC1.out);rintro e w3 ⟨gb,rfl,hg,hge,hb⟩;refine⟨_,rfl,?_⟩;have HG:=am hg;have HO3:=am (Kd.S_below HO.out hb);replace HB:=am (below_step HB.out hb);clear hb hg hge HO)|((with_reducible refine gate_callee (f:=72) rfl ?_);refine goesL_ (some 27) rfl rfl Try.func72 (by kernel_rfl) rfl #[v2,.pointer (some ⟨gb,0,none⟩),.bool false,.int .i64 a2,.int .i64 a3] rfl (by(try simp only[List.map_toArray,List.map_cons,List.map_nil]);first|done|rfl) ?_;(with_reducible refine(grid.joined.calls gb (grid.openAt l1) false a2 a3 v2 xs w _ ?s1 HG.out HOK.out HXL.out ?s2).mono ?_);(case s1=>exact HO3.out);(case s2=>exact HB.out);rintro e w4 ⟨v4,rfl,ho,hb⟩;refine⟨_,rfl,?_⟩;have HO4:=am ho;have HB4:=am hb;clear ho hb))
   go_ret3
   exact⟨_,rfl,HO4.out,HB4.out⟩
  ·rw[if_neg hv] at h;cases h

end Go.Proofs.Ythmpginbaafbhaa.PFnExactRepairToPlay
