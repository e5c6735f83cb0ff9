/- sort.SliceStable: the walks of what it calls, at elements of k cells. No conditions beyond the row's length and what is asked of the two closures. -/
import Derived.Test.YtipklbjbgbbgpaaGreatVShiftToPass
import Derived.Shelf.GgSortMore.Stable
import Derived.Shelf.SlSortFuncK.SWK
import Derived.Shelf.Lay
import Derived.Test.YtipklbjbgbbgpaaGreatSShiftToPassStabP
namespace Go.Proofs.YtipklbjbgbbgpaaGreat.PStab
open Go Go.RowKit Go.Proofs.YtipklbjbgbbgpaaGreatW.PrintWords Go.Proofs.YtipklbjbgbbgpaaGreatW.PrintLast Go.Proofs.YtipklbjbgbbgpaaGreatW.PrintMore
set_option linter.unusedVariables false
set_option linter.unusedSimpArgs false
set_option linter.unusedSectionVars false
namespace stab
open Go.Shelf Go.Sort Go.Lib Go.RowKit
variable {α:Type} [Inhabited α] {enc:α→List Value} {k:Nat} {lt:α→α→Bool} {g:Nat} {lb:Array Value} {sf:Nat} {sb:Array Value} {blk off n:Nat}
/-- What the sort is handed: a closure that compares, one that swaps, and a row of n elements of k cells. -/
structure Dat (enc:α→List Value) (k:Nat) (lt:α→α→Bool) (g:Nat) (lb:Array Value) (sf:Nat) (sb:Array Value) (blk off n:Nat) (W:World):Prop where
 hk:∀ x,(enc x).length=k
 eg:∀ args w,(callFunc g args).run Tryz.prog w = .ok (.enter g args) w
 less:∀(W':World) (dk:Array α),SWK enc k W blk off dk W'→dk.size=n→∀ i j:Nat,i<n→j<n→Calls Tryz.prog g (#[.int .i64 i,.int .i64 j] ++ lb) W' fun e w'=>e = .returned (.bool (lt dk[i]! dk[j]!))∧SWK enc k W' blk off dk w'
 swap:SwapSwapsK Tryz.prog sf sb enc k blk off n
 hblk:blk<W.heap.size
 small:n<1099511627776
theorem swk_comp {w0 W W':World} {d d':Array α} (h:SWK enc k w0 blk off d W) (hblk:blk<w0.heap.size) (h':SWK enc k W blk off d' W') (hs:d'.size=d.size):SWK enc k w0 blk off d' W':=by
 obtain⟨m,os,rfl⟩:=h'
 exact h.on hblk m d' os hs
theorem Dat.on {W W':World} {d:Array α} (D:Dat enc k lt g lb sf sb blk off n W) (h:SWK enc k W blk off d W') (hs:d.size=n):Dat enc k lt g lb sf sb blk off n W':=⟨D.hk,D.eg,fun W'' dk h' hk i j hi hj=>D.less W'' dk (swk_comp h D.hblk h' (hk.trans hs.symm)) hk i j hi hj,D.swap,h.lt D.hblk,D.small⟩
theorem swk_cell {W W':World} {d:Array α} (h:SWK enc k W blk off d W') (a:Addr) (ha:a.block<W.heap.size) (hn:a.block≠blk):W'.cell? a=W.cell? a:=by
 obtain⟨m,os,rfl⟩:=h
 unfold sortWorldK
 rw[cell?_grow _ _ _ (by rw[size_putRowK];exact ha),cell?_putRowK_other enc k _ blk off d a hn]
 rfl
def box (g:Nat) (lb:Array Value) (sf:Nat) (sb:Array Value) (W:World):World:=W.alloc (.cells #[.func (.func g) #[] lb,.func (.func sf) #[] sb] 108)
theorem box_cells {W wr:World} {d:Array α} (hblk:blk<W.heap.size) (h:SWK enc k (box g lb sf sb W) blk off d wr):wr.cell? ⟨W.heap.size,0,none⟩=some (.func (.func g) #[] lb)∧wr.cell? ⟨W.heap.size,1,none⟩=some (.func (.func sf) #[] sb):=by
 have hs:W.heap.size<(box g lb sf sb W).heap.size:=by unfold box;rw[alloc_eq_grow,size_grow];simp
 constructor
 ·rw[swk_cell h _ hs (by show W.heap.size≠blk;omega)];simp [box]
 ·rw[swk_cell h _ hs (by show W.heap.size≠blk;omega)];simp [box]
theorem box_swk {W:World} {d:Array α} (hH:HoldsK enc k W blk off d):SWK enc k W blk off d (box g lb sf sb W):=(SWK.start hH).alloc _
set_option maxHeartbeats 8000000 in
set_option maxRecDepth 100000 in
theorem swapRange.calls {W:World} {d:Array α} (D:Dat enc k lt g lb sf sb blk off n W) (hH:HoldsK enc k W blk off d) (hn:d.size=n) (a b c:Nat) (hab:a+c≤b) (hb:b+c≤n) :
  Calls Tryz.prog 110 #[.agg #[.func (.func g) #[] lb,.func (.func sf) #[] sb],.int .i64 a,.int .i64 b,.int .i64 c] W fun e w'=>e = .returned (.tuple #[])∧∃ d',SWK enc k W blk off d' w'∧SwapR a b c d d'∧PermIn a (b+c) d d':=by
 have hsmall:=D.small
 have H1:SWK enc k W blk off d (box g lb sf sb W):=box_swk hH
 have HH:=am (H1.holds D.hblk hH rfl)
 have HB:=am (H1.lt D.hblk)
 have HD:=am (D.on H1 hn)
 have H0:=am (SWK.start HH.out)
 have HW:=am H1
 have HBK:=am D.hblk
 clear H1 D hH
 have hu:=Tryz.underlying108
 go_enter Tryz.func110,Tryz.ntmps110
 go_wp2
 go_loopw [8] (fun v wr=>∃(i:Nat) (dk:Array α),v = .int .i64 i∧i≤c∧Aside0 (SWK enc k (box g lb sf sb W) blk off dk wr)∧Aside0 (SwapR a b i d dk)∧Aside0 (PermIn a (b+c) d dk)) (fun v _=>c - (intOf v).toNat)
 case atStart=>exact⟨0,d,by go_num,by omega,H0,⟨swapR_zero _ _ _⟩,⟨permIn_refl _ _ _⟩⟩
 case round =>
  clear H0
  obtain⟨i,dk,rfl,hi,HS,HR,HP⟩:=hrel
  have hds:dk.size=n:=HP.out.1.trans hn
  obtain⟨c0,c1⟩:=box_cells HBK.out HS.out
  by_cases hlt:i<c
  ·have hs:=HD.out.swap wr dk (HS.out.holds HB.out HH.out (by omega)) hds (a+i) (b+i) (by omega) (by omega)
   have hw:=HS.out.swap HD.out.hk HB.out (a+i) (b+i) (by omega) (by omega)
   obtain⟨w2,hw2⟩:∃ w2,w2=(wr.setCells blk (off+(a+i)*k) (enc dk[b+i]!)).setCells blk (off+(b+i)*k) (enc dk[a+i]!):=⟨_,rfl⟩
   rw[← hw2] at hs hw
   have HS2:=am hw
   clear hw hw2
   rw[show((a+i:Nat):Int)=(a:Int)+(i:Int) by omega,show((b+i:Nat):Int)=(b:Int)+(i:Int) by omega] at hs
   have hlt':(i:Int)<(c:Int):=by omega
   go_wp2
   go_roundw
   case rel=>exact⟨i+1,_,by congr 1,by omega,HS2,⟨swapR_step HR.out (by omega) (by omega)⟩,⟨permIn_trans _ _ _ _ _ HP.out (swp_permIn _ _ _ _ _ (by omega) (by omega) (by omega) (by omega) (by omega))⟩⟩
   case measure=>simp [intOf];omega
  ·have hlt':¬ ((i:Int)<(c:Int)):=by omega
   go_wp2
   go_end0
   have e:i=c:=by omega
   subst e
   exact⟨rfl,dk,swk_comp HW.out HBK.out HS.out (by omega),HR.out,HP.out⟩
set_option maxHeartbeats 8000000 in
set_option maxRecDepth 100000 in
theorem insSort.calls (hO:SWO lt) {W:World} {d:Array α} (D:Dat enc k lt g lb sf sb blk off n W) (hH:HoldsK enc k W blk off d) (hn:d.size=n) (a b:Nat) (hab:a≤b) (hb:b≤n) :
  Calls Tryz.prog 100 #[.agg #[.func (.func g) #[] lb,.func (.func sf) #[] sb],.int .i64 a,.int .i64 b] W fun e w'=>e = .returned (.tuple #[])∧∃ d',SWK enc k W blk off d' w'∧PermIn a b d d'∧SortedIn lt a b d':=by
 have hsmall:=D.small
 have eg:=D.eg
 have H1:SWK enc k W blk off d (box g lb sf sb W):=box_swk hH
 have HH:=am (H1.holds D.hblk hH rfl)
 have HB:=am (H1.lt D.hblk)
 have HD:=am (D.on H1 hn)
 have H0:=am (SWK.start HH.out)
 have HW:=am H1
 have HBK:=am D.hblk
 clear H1 D hH
 have hu:=Tryz.underlying108
 go_enter Tryz.func100,Tryz.ntmps100
 go_wp2
 go_loopw [6] (fun v wr=>∃(i:Nat) (dk:Array α),v = .int .i64 i∧a<i∧i≤b+1∧Aside0 (SWK enc k (box g lb sf sb W) blk off dk wr)∧Aside0 (SortedIn lt a (min i b) dk)∧Aside0 (PermIn a b d dk)) (fun v _=>b+1 - (intOf v).toNat)
 case atStart=>exact⟨a+1,d,by first|rfl|(congr 1;done)|(congr 1;omega),by omega,by omega,H0,⟨fun i j _ _ _=>by omega⟩,⟨permIn_refl _ _ _⟩⟩
 case round =>
  clear H0
  obtain⟨i,dk,rfl,hai,hib,HS,HR,HP⟩:=hrel
  have hds:dk.size=n:=HP.out.1.trans hn
  by_cases hlt:i<b
  ·have hltz:(i:Int)<(b:Int):=by omega
   have HSO:=am (show SortedIn lt a i dk from by have h:=HR.out;rwa [Nat.min_eq_left (by omega)] at h)
   clear HR
   go_wp2
   go_loopw [7] (fun v wq=>∃(j:Nat) (dj:Array α),v = .int .i64 j∧a≤j∧j≤i∧Aside0 (SWK enc k (box g lb sf sb W) blk off dj wq)∧Aside0 (Down i j dk dj)∧Aside0 (∀ t,j≤t→t<i→lt dk[i]! dk[t]! = true)∧Aside0 (PermIn a b d dj)) (fun v _=>(intOf v).toNat)
   case atStart=>exact⟨i,dk,rfl,by omega,by omega,HS,⟨down_zero i dk⟩,⟨fun t _ _=>by omega⟩,HP⟩
   case round =>
    clear HS HP
    obtain⟨j,dj,rfl,haj,hji,HS,HU,HL,HP⟩:=hrel
    have hdj:dj.size=n:=HP.out.1.trans hn
    obtain⟨c0,c1⟩:=box_cells HBK.out HS.out
    by_cases hja:a<j
    ·have hjaz:(a:Int)<(j:Int):=by omega
     obtain⟨j',rfl⟩:∃ j',j=j'+1:=⟨j - 1,by omega⟩
     have hl:=HD.out.less wr dj HS.out hdj (j'+1) j' (by omega) (by omega)
     rw[show((j'+1:Nat):Int)=(j':Int)+1 by omega] at hl
     have e1:dj[j'+1]! = dk[i]! := by rw[HU.out.2,if_pos rfl]
     have e2:dj[j']! = dk[j']! := by rw[HU.out.2,if_neg (by omega),if_neg (by omega)]
     rw[e1,e2] at hl
     clear e1 e2
     cases hlv:lt dk[i]! dk[j']! with
     | true =>
      rw[hlv] at hl
      have HLV:=am hlv
      clear hlv
      go_wp2_with (go_at_fn g;refine hl.mono ?_;rintro e w' ⟨rfl,hq⟩;have hS':=swk_comp HS.out HB.out hq rfl;obtain⟨y0,y1⟩:=box_cells HBK.out hS';have hs:=HD.out.swap w' dj (hS'.holds HB.out HH.out (by omega)) hdj (j'+1) j' (by omega) (by omega);have hw:=hS'.swap HD.out.hk HB.out (j'+1) j' (by omega) (by omega);obtain⟨w2,hw2⟩:∃ w2,w2=(w'.setCells blk (off+(j'+1)*k) (enc dj[j']!)).setCells blk (off+j'*k) (enc dj[j'+1]!):=⟨_,rfl⟩;rw[← hw2] at hs hw;have HS2:=am hw;clear hw hw2 hq hS';rw[show((j'+1:Nat):Int)=(j':Int)+1 by omega] at hs)
      go_roundw
      case rel=>exact⟨j',_,by first|rfl|(congr 1;done)|(congr 1;omega),by omega,by omega,HS2,⟨down_step HU.out (by omega) (by omega)⟩,⟨fun t h1 h2=>by
       by_cases e:t=j'
       ·rw[e];exact HLV.out
       ·exact HL.out t (by omega) h2⟩,⟨permIn_trans _ _ _ _ _ HP.out (swp_permIn _ _ _ _ _ (by omega) (by omega) (by omega) (by omega) (by omega))⟩⟩
      case measure=>first|(simp [intOf];done)|(simp [intOf];omega)
     | false =>
      rw[hlv] at hl
      have HLV:=am hlv
      clear hlv
      go_wp2_with (go_at_fn g;refine hl.mono ?_;rintro e w' ⟨rfl,hq⟩;have HQ:=am (swk_comp HS.out HB.out hq rfl);clear hq)
      go_roundw
      case rel=>exact⟨i+1,dj,by first|rfl|(congr 1;done)|(congr 1;omega),by omega,by omega,HQ,⟨by
       rw[Nat.min_eq_left (by omega)]
       refine down_sorted hO HSO.out ⟨haj,Nat.le_refl _,hji,fun t h1 h2=>?_,HL.out⟩ HU.out
       by_cases e:t=j'
       ·rw[e];exact HLV.out
       ·exact hO.ntrans _ _ _ HLV.out (HSO.out t j' h1 (by omega) (by omega))⟩,HP⟩
      case measure=>first|(simp [intOf];done)|(simp [intOf];omega)
    ·have hjaz:¬ ((a:Int)<(j:Int)):=by omega
     have ej:j=a:=by omega
     subst ej
     go_wp2
     go_roundw
     case rel=>exact⟨i+1,dj,by first|rfl|(congr 1;done)|(congr 1;omega),by omega,by omega,HS,⟨by
      rw[Nat.min_eq_left (by omega)]
      exact down_sorted hO HSO.out ⟨haj,Nat.le_refl _,hji,fun t h1 h2=>by omega,HL.out⟩ HU.out⟩,HP⟩
     case measure=>first|(simp [intOf];done)|(simp [intOf];omega)
  ·have hltz:¬ ((i:Int)<(b:Int)):=by omega
   go_wp2
   go_end0
   exact⟨rfl,dk,swk_comp HW.out HBK.out HS.out (by omega),HP.out,by have h:=HR.out;rwa [Nat.min_eq_right (by omega)] at h⟩
set_option maxHeartbeats 8000000 in
set_option maxRecDepth 100000 in
theorem rotate.calls {W:World} {d:Array α} (D:Dat enc k lt g lb sf sb blk off n W) (hH:HoldsK enc k W blk off d) (hn:d.size=n) (a m b:Nat) (ham:a<m) (hmb:m<b) (hb:b≤n) :
  Calls Tryz.prog 108 #[.agg #[.func (.func g) #[] lb,.func (.func sf) #[] sb],.int .i64 a,.int .i64 m,.int .i64 b] W fun e w'=>e = .returned (.tuple #[])∧∃ d',SWK enc k W blk off d' w'∧Rot a m b d d'∧PermIn a b d d':=by
 have hsmall:=D.small
 have H1:SWK enc k W blk off d (box g lb sf sb W):=box_swk hH
 have HH:=am (H1.holds D.hblk hH rfl)
 have HB:=am (H1.lt D.hblk)
 have HD:=am (D.on H1 hn)
 have H0:=am (SWK.start HH.out)
 have HW:=am H1
 have HBK:=am D.hblk
 clear H1 D hH
 have hu:=Tryz.underlying108
 go_enter Tryz.func108,Tryz.ntmps108
 go_wp2
 go_loopw [8,9] (fun v v9 wr=>∃(i j:Nat) (dk:Array α),v = .int .i64 i∧v9 = .int .i64 j∧1≤i∧1≤j∧i≤m - a∧j≤b - m∧Aside0 (SWK enc k (box g lb sf sb W) blk off dk wr)∧Aside0 (∀ e':Array α,Rot (m - i) m (m+j) dk e'→Rot a m b d e')∧Aside0 (PermIn a b d dk)) (fun v v9 _=>(intOf v).toNat+(intOf v9).toNat)
 case atStart=>exact⟨m - a,b - m,d,by congr 1;omega,by congr 1;omega,by omega,by omega,by omega,by omega,H0,⟨fun e' h=>by rwa [show m - (m - a)=a by omega,show m+(b - m)=b by omega] at h⟩,⟨permIn_refl _ _ _⟩⟩
 case round =>
  clear H0
  obtain⟨i,j,dk,rfl,rfl,hi,hj,hia,hjb,HS,HR,HP⟩:=hrel
  have hds:dk.size=n:=HP.out.1.trans hn
  obtain⟨c0,c1⟩:=box_cells HBK.out HS.out
  have D2:=HD.out.on HS.out hds
  have H2:=HS.out.holds HB.out HH.out (by omega)
  by_cases e:i=j
  ·have hc:=swapRange.calls D2 H2 hds (m - i) m i (by omega) (by omega)
   rw[show((m - i:Nat):Int)=(m:Int) - (i:Int) by omega] at hc
   have HC:=am hc
   clear hc D2 H2
   have e1:(i:Int)=(j:Int):=by omega
   subst e
   go_wp2_with (go_at_call 110;refine HC.out.mono ?_;rintro e w1 ⟨rfl,d1,q1,q2,q3⟩)
   go_end0
   exact⟨rfl,d1,swk_comp HW.out HBK.out (swk_comp HS.out HB.out q1 q3.1) (by rw[q3.1];omega),HR.out _ (rot_last (by omega) rfl q2),permIn_trans _ _ _ _ _ HP.out (permIn_mono _ _ _ _ _ _ (by omega) (by omega) (by omega) q3)⟩
  ·by_cases e2:j<i
   ·have hc:=swapRange.calls D2 H2 hds (m - i) m j (by omega) (by omega)
    rw[show((m - i:Nat):Int)=(m:Int) - (i:Int) by omega] at hc
    have HC:=am hc
    clear hc D2 H2
    have e1:¬ ((i:Int)=(j:Int)):=by omega
    have e3:(j:Int)<(i:Int):=by omega
    go_wp2_with (go_at_call 110;refine HC.out.mono ?_;rintro e w1 ⟨rfl,d1,q1,q2,q3⟩)
    go_roundw
    case rel=>exact⟨i - j,j,d1,by congr 1;omega,rfl,by omega,by omega,by omega,by omega,⟨swk_comp HS.out HB.out q1 q3.1⟩,⟨fun e' h=>HR.out e' (rot_left (j:=j) rfl (by omega) q2 (by rwa [show m - i+j=m - (i - j) by omega]))⟩,⟨permIn_trans _ _ _ _ _ HP.out (permIn_mono _ _ _ _ _ _ (by omega) (by omega) (by omega) q3)⟩⟩
    case measure=>simp [intOf];omega
   ·have hc:=swapRange.calls D2 H2 hds (m - i) (m+j - i) i (by omega) (by omega)
    rw[show((m - i:Nat):Int)=(m:Int) - (i:Int) by omega,show((m+j - i:Nat):Int)=(m:Int)+(j:Int) - (i:Int) by omega] at hc
    have HC:=am hc
    clear hc D2 H2
    have e1:¬ ((i:Int)=(j:Int)):=by omega
    have e3:¬ ((j:Int)<(i:Int)):=by omega
    go_wp2_with (go_at_call 110;refine HC.out.mono ?_;rintro e w1 ⟨rfl,d1,q1,q2,q3⟩)
    go_roundw
    case rel=>exact⟨i,j - i,d1,rfl,by congr 1;omega,by omega,by omega,by omega,by omega,⟨swk_comp HS.out HB.out q1 q3.1⟩,⟨fun e' h=>HR.out e' (rot_right (i:=i) (by omega) (by omega) q2 (by rwa [show m+j - i=m+(j - i) by omega]))⟩,⟨permIn_trans _ _ _ _ _ HP.out (permIn_mono _ _ _ _ _ _ (by omega) (by omega) (by omega) q3)⟩⟩
    case measure=>simp [intOf];omega
end stab
end Go.Proofs.YtipklbjbgbbgpaaGreat.PStab
