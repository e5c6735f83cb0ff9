/- The walks of functions that FnDrums reaches: what they return is what the plain functions of the same names say. Made by a program of this session after the kit's print. No conditions beyond the arguments' being read. -/
import Derived.Test.YtlhjjpdlfddflacSFnDrums0
namespace Go.Proofs.Ytlhjjpdlfddflac.PFnDrums
open Go.RowKit Go.Proofs.YtlhjjpdlfddflacW.PrintWords Go.Proofs.YtlhjjpdlfddflacW.PrintLast Go.Proofs.YtlhjjpdlfddflacW.PrintMore
attribute [local go_sem] max2_int min2_int max_two min_two max_three min_three max_four min_four   -- for this text's walks alone
set_option linter.unusedVariables false
set_option linter.unusedSimpArgs false

/-! ### laws_big: function 4 -/
def laws_big.f (l0:List Int) (l1:List Int):Option (Bool):=if(l0.length:Int)>1048576 then(some true) else(some (decide ((l1.length:Int)>(wrap64 (1048576 - (l0.length:Int))))))
set_option maxHeartbeats 8000000 in
set_option maxRecDepth 100000 in
theorem laws_big.calls (A0:Option Addr) (c0:Nat) (l0:List Int) (A1:Option Addr) (c1:Nat) (l1:List Int) (r:Bool) (w:World) (hr0:Kd.C (Kd.int .u8) w A0 l0.length l0) (hc0:l0.length≤c0) (hr1:Kd.C (Kd.int .u8) w A1 l1.length l1) (hc1:l1.length≤c1) (h:laws_big.f l0 l1=some r) :
  Calls Try.prog 4 #[.slice A0 l0.length c0,.slice A1 l1.length c1] w fun e w'=>e = .returned (.bool r)∧Drawn0 w w':=by
 have HR0:=am hr0
 have HC0:=am hc0
 clear hr0 hc0
 have HR1:=am hr1
 have HC1:=am hc1
 clear hr1 hc1
 have H:(if(l0.length:Int)>1048576 then(some true) else(some (decide ((l1.length:Int)>(wrap64 (1048576 - (l0.length:Int)))))))=some r:=h
 clear h
 by_cases c3:(l0.length:Int)>1048576
 ·rw[if_pos c3] at H
  have c3b0:decide (1048576<(l0.length:Int))=true:=decide_eq_true c3
  have c3b1:decide (1048576<l0.length)=true:=decide_eq_true (by omega)
  clear c3
  obtain rfl:=Option.some.inj H
  go_enter Try.func4,Try.ntmps4
  go_wp2
  go_ret
  exact⟨by first|rfl|(simp;done)|(simp [*];done),by repeat(first|exact Drawn0.refl _|apply Drawn0.step)⟩
 ·rw[if_neg c3] at H
  have c3b0:decide (1048576<(l0.length:Int))=false:=decide_eq_false c3
  have c3b1:decide (1048576<l0.length)=false:=decide_eq_false (by omega)
  clear c3
  obtain rfl:=Option.some.inj H
  go_enter Try.func4,Try.ntmps4
  go_wp2
  go_ret
  exact⟨by first|rfl|(simp;done)|(simp [*];done),by repeat(first|exact Drawn0.refl _|apply Drawn0.step)⟩

/-- A state of type 45 at block g of W; what its slices lead to came in by w0. -/
def IsS45 (w0 W:World) (g:Nat) (f0:List Int) (f1:Int) (f2:Int):Prop:=∃ A0 c0,W.heap[g]?=some (.cells #[.slice A0 f0.length c0,.int .i64 f1,.int .u64 f2] 45 (0,0))∧w0.heap.size≤g∧Kd.C (Kd.int .u8) w0 A0 f0.length f0
theorem IsS45.grown {w0 W:World} {g:Nat} {f0:List Int} {f1:Int} {f2:Int} {W1:World} {row:Option Nat} (h:IsS45 w0 W g f0 f1 f2) (hw:W.grownBy W1 row) (hne:some g≠row):IsS45 w0 W1 g f0 f1 f2:=by
 obtain⟨A0,c0,hb,hg,hr0⟩:=h
 exact⟨A0,c0,blk_grown hb hw hne,hg,hr0⟩
theorem IsS45.own_neN {w0 W:World} {g:Nat} {f0:List Int} {f1:Int} {f2:Int} {α:Type} {d:Kd α} {e:Nat} {base:Nat} {ok:Nat→Prop} {v:Value} {xs:List α} (h:IsS45 w0 W g f0 f1 f2) (ho:Kd.N d e W base ok v xs) (ht:e≠45):some g≠v.ownBlock:=by
 obtain⟨A0,c0,hb,hg,hr0⟩:=h
 exact Kd.N_ne ho hb ht
theorem IsS45.fresh {w0 W:World} {g:Nat} {f0:List Int} {f1:Int} {f2:Int} (h:IsS45 w0 W g f0 f1 f2):∀ k,W.heap.size≤k→k≠g:=by
 obtain⟨A0,c0,hb,hg,hr0⟩:=h
 exact Kd.freshB hb
theorem IsS45.kept {w0 W:World} {g:Nat} {f0:List Int} {f1:Int} {f2:Int} {W1:World} {S:Nat→Prop} (h:IsS45 w0 W g f0 f1 f2) (hk:Kept W W1 S) (hne:¬ S g):IsS45 w0 W1 g f0 f1 f2:=by
 obtain⟨A0,c0,hb,hg,hr0⟩:=h
 exact⟨A0,c0,blk_kept hb hk hne,hg,hr0⟩
theorem IsS45.below {w0 W:World} {g:Nat} {f0:List Int} {f1:Int} {f2:Int} {W1:World} (h:IsS45 w0 W g f0 f1 f2) (hw:Below W.heap.size W W1):IsS45 w0 W1 g f0 f1 f2:=h.grown (grown_of_below hw none) (by simp)
theorem IsS45.alloc {w0 W:World} {g:Nat} {f0:List Int} {f1:Int} {f2:Int} (h:IsS45 w0 W g f0 f1 f2) (o:Obj):IsS45 w0 (W.alloc o) g f0 f1 f2:=h.below (below_alloc (Below.refl _ _) o)
theorem IsS45.drewN {w0 W:World} {g:Nat} {f0:List Int} {f1:Int} {f2:Int} (h:IsS45 w0 W g f0 f1 f2) (m:Nat):IsS45 w0 (W.drewN m) g f0 f1 f2:=h
theorem IsS45.drew {w0 W:World} {g:Nat} {f0:List Int} {f1:Int} {f2:Int} (h:IsS45 w0 W g f0 f1 f2):IsS45 w0 W.drew g f0 f1 f2:=h
theorem IsS45.at_ {w0 W:World} {g:Nat} {f0:List Int} {f1:Int} {f2:Int} {w':World} {m:Nat} (hq:W.drewN m=w') (h:IsS45 w0 W g f0 f1 f2):IsS45 w0 w' g f0 f1 f2:=by subst hq;exact IsS45.drewN h m
theorem IsS45.apart {w0 W:World} {g:Nat} {f0:List Int} {f1:Int} {f2:Int} {α:Type} {d:Kd α} {e:Nat} {base:Nat} {ok:Nat→Prop} {v:Value} {xs:List α} (h:IsS45 w0 W g f0 f1 f2) (ho:d.R e W base ok v xs) (ht:∀ q,q∈e :: d.E→q≠45):d.R e W base (fun k=>ok k∧k≠g) v xs:=by
 obtain⟨A0,c0,hb,hg,hr0⟩:=h
 exact Kd.R_types ho hb ht
theorem IsS45.own_ne {w0 W:World} {g:Nat} {f0:List Int} {f1:Int} {f2:Int} {α:Type} {d:Kd α} {e:Nat} {base:Nat} {ok:Nat→Prop} {v:Value} {xs:List α} (h:IsS45 w0 W g f0 f1 f2) (ho:d.R e W base ok v xs) (ht:e≠45):some g≠v.ownBlock:=by
 obtain⟨A0,c0,hb,hg,hr0⟩:=h
 exact Kd.R_ne ho hb ht
theorem IsS45.apartQ {w0 W:World} {g:Nat} {f0:List Int} {f1:Int} {f2:Int} {α:Type} {d:Kd α} {e:Nat} {base:Nat} {ok:Nat→Prop} {v:Value} {xs:List α} (h:IsS45 w0 W g f0 f1 f2) (ho:d.Q e W base ok v xs) (ht:∀ q,q∈e :: d.E→q≠45):d.Q e W base (fun k=>ok k∧k≠g) v xs:=by
 obtain⟨A0,c0,hb,hg,hr0⟩:=h
 exact Kd.Q_types ho hb ht
theorem IsS45.own_neQ {w0 W:World} {g:Nat} {f0:List Int} {f1:Int} {f2:Int} {α:Type} {d:Kd α} {e:Nat} {base:Nat} {ok:Nat→Prop} {v:Value} {xs:List α} (h:IsS45 w0 W g f0 f1 f2) (ho:d.Q e W base ok v xs) (ht:e≠45):some g≠v.ownBlock:=by
 obtain⟨A0,c0,hb,hg,hr0⟩:=h
 exact Kd.Q_ne ho hb ht
theorem IsS45.apartS {w0 W:World} {g:Nat} {f0:List Int} {f1:Int} {f2:Int} {α:Type} {d:Kd α} {e:Nat} {base:Nat} {ok:Nat→Prop} {v:Value} {xs:List α} (h:IsS45 w0 W g f0 f1 f2) (ho:d.S e W base ok v xs) (ht:∀ q,q∈e :: d.E→q≠45):d.S e W base (fun k=>ok k∧k≠g) v xs:=by
 obtain⟨A0,c0,hb,hg,hr0⟩:=h
 exact Kd.S_types ho hb ht
theorem IsS45.own_neS {w0 W:World} {g:Nat} {f0:List Int} {f1:Int} {f2:Int} {α:Type} {d:Kd α} {e:Nat} {base:Nat} {ok:Nat→Prop} {v:Value} {xs:List α} (h:IsS45 w0 W g f0 f1 f2) (ho:d.S e W base ok v xs) (ht:e≠45):some g≠v.ownBlock:=by
 obtain⟨A0,c0,hb,hg,hr0⟩:=h
 exact Kd.S_ne ho hb ht
theorem IsS45.lt {w0 W:World} {g:Nat} {f0:List Int} {f1:Int} {f2:Int} (h:IsS45 w0 W g f0 f1 f2):g<W.heap.size:=by
 obtain⟨A0,c0,hb,hg,hr0⟩:=h
 exact blk_lt hb
theorem IsS45.ge {w0 W:World} {g:Nat} {f0:List Int} {f1:Int} {f2:Int} (h:IsS45 w0 W g f0 f1 f2):w0.heap.size≤g:=by
 obtain⟨A0,c0,hb,hg,hr0⟩:=h
 exact hg
theorem IsS45.ne_blk {w0 W:World} {g:Nat} {f0:List Int} {f1:Int} {f2:Int} {a:Nat} {cs:Array Value} {t:TypeId} {fr:Nat×Nat} (h:IsS45 w0 W g f0 f1 f2) (hb2:W.heap[a]?=some (.cells cs t fr)) (ht:t≠45):g≠a:=by
 obtain⟨A0,c0,hb,hg,hr0⟩:=h
 rintro rfl
 rw[hb] at hb2
 injection hb2 with hb2
 injection hb2 with _ ht2
 exact ht ht2.symm
theorem IsS45.far {w0 W:World} {g:Nat} {f0:List Int} {f1:Int} {f2:Int} {p:Addr} (h:IsS45 w0 W g f0 f1 f2) (hne:g≠p.block) (u:Value):IsS45 w0 (W.setCell p u) g f0 f1 f2:=by
 obtain⟨A0,c0,hb,hg,hr0⟩:=h
 exact⟨A0,c0,blk_far hb hne u,hg,hr0⟩
theorem cellS45_0 {W:World} {g:Nat} {A0:Option Addr} {c0:Nat} {f0:List Int} {f1:Int} {f2:Int} (h:W.heap[g]?=some (.cells #[.slice A0 f0.length c0,.int .i64 f1,.int .u64 f2] 45 (0,0))):W.cell? ⟨g,0,none⟩=some (.slice A0 f0.length c0):=(blk_cell h 0).trans rfl
theorem cellS45_1 {W:World} {g:Nat} {A0:Option Addr} {c0:Nat} {f0:List Int} {f1:Int} {f2:Int} (h:W.heap[g]?=some (.cells #[.slice A0 f0.length c0,.int .i64 f1,.int .u64 f2] 45 (0,0))):W.cell? ⟨g,1,none⟩=some (.int .i64 f1):=(blk_cell h 1).trans rfl
theorem IsS45.set_1 {w0 W:World} {g:Nat} {f0:List Int} {f1:Int} {f2:Int} (h:IsS45 w0 W g f0 f1 f2) (x:Int):IsS45 w0 (W.setCell ⟨g,1,none⟩ (.int .i64 x)) g f0 x f2:=by
 obtain⟨A0,c0,hb,hg,hr0⟩:=h
 exact⟨A0,c0,by simpa using blk_set hb 1 (.int .i64 x),hg,hr0⟩
theorem cellS45_2 {W:World} {g:Nat} {A0:Option Addr} {c0:Nat} {f0:List Int} {f1:Int} {f2:Int} (h:W.heap[g]?=some (.cells #[.slice A0 f0.length c0,.int .i64 f1,.int .u64 f2] 45 (0,0))):W.cell? ⟨g,2,none⟩=some (.int .u64 f2):=(blk_cell h 2).trans rfl
theorem IsS45.set_2 {w0 W:World} {g:Nat} {f0:List Int} {f1:Int} {f2:Int} (h:IsS45 w0 W g f0 f1 f2) (x:Int):IsS45 w0 (W.setCell ⟨g,2,none⟩ (.int .u64 x)) g f0 f1 x:=by
 obtain⟨A0,c0,hb,hg,hr0⟩:=h
 exact⟨A0,c0,by simpa using blk_set hb 2 (.int .u64 x),hg,hr0⟩
theorem IsS45.new (w0 W:World) (A0:Option Addr) (c0:Nat) (f0:List Int) (f1:Int) (f2:Int) (hB:Below w0.heap.size w0 W) (hr0:Kd.C (Kd.int .u8) w0 A0 f0.length f0):IsS45 w0 (W.alloc (.cells #[.slice A0 f0.length c0,.int .i64 f1,.int .u64 f2] 45)) W.heap.size f0 f1 f2:=⟨A0,c0,by simpa using heap_alloc_new W _,hB.size,hr0⟩

/-! ### spec_l1Cur_next: function 44 -/
def spec_l1Cur_next.f (s0_0:List Int) (s0_1:Int) (s0_2:Int):Option (Int×Int×Int):=if s0_1<(s0_0.length:Int) then(if 0≤s0_1 then(if(wrap64 (s0_1+1))≤(s0_0.length:Int) then(some (wrap64 (rd s0_0 s0_1),wrap64 (s0_1+1),IntKind.u64.wrap ((IntKind.u64.wrap ((IntKind.u64.wrap (s0_2*6364136223846793005))+(IntKind.u64.wrap (wrap64 (rd s0_0 s0_1)))))+1442695040888963407))) else(some (wrap64 (Go.bits .and .u64 ((IntKind.u64.wrap ((IntKind.u64.wrap ((IntKind.u64.wrap (s0_2*6364136223846793005))+(IntKind.u64.wrap (wrap64 (rd s0_0 s0_1)))))+1442695040888963407)) / 1099511627776) 255),wrap64 (s0_1+1),IntKind.u64.wrap ((IntKind.u64.wrap ((IntKind.u64.wrap (s0_2*6364136223846793005))+(IntKind.u64.wrap (wrap64 (rd s0_0 s0_1)))))+1442695040888963407)))) else(none)) else(if(wrap64 (s0_1+1))≤(s0_0.length:Int) then(some (0,wrap64 (s0_1+1),IntKind.u64.wrap ((IntKind.u64.wrap (IntKind.u64.wrap (s0_2*6364136223846793005)))+1442695040888963407))) else(some (wrap64 (Go.bits .and .u64 ((IntKind.u64.wrap ((IntKind.u64.wrap (IntKind.u64.wrap (s0_2*6364136223846793005)))+1442695040888963407)) / 1099511627776) 255),wrap64 (s0_1+1),IntKind.u64.wrap ((IntKind.u64.wrap (IntKind.u64.wrap (s0_2*6364136223846793005)))+1442695040888963407))))
set_option maxHeartbeats 8000000 in
set_option maxRecDepth 100000 in
theorem spec_l1Cur_next.calls (g:Nat) (s0_0:List Int) (s0_1:Int) (s0_2:Int) (r1:Int) (r2:Int) (r3:Int) (w0 w:World) (hI:IsS45 w0 w g s0_0 s0_1 s0_2) (hB:Below w0.heap.size w0 w) (h:spec_l1Cur_next.f s0_0 s0_1 s0_2=some (r1,r2,r3)) :
  Calls Try.prog 44 #[.pointer (some ⟨g,0,none⟩)] w fun e w'=>e = .returned (.int .i64 r1)∧IsS45 w0 w' g s0_0 r2 r3∧Below w0.heap.size w0 w'∧KeepBut w w' g none:=by
 have HI0:=am hI
 have HK:=am (KeepBut.refl w g none)
 have HL:=am hB.size
 clear hI
 have HW0:=am hB.size
 have HB:=am hB
 clear hB
 have H:(if s0_1<(s0_0.length:Int) then(if 0≤s0_1 then(if(wrap64 (s0_1+1))≤(s0_0.length:Int) then(some (wrap64 (rd s0_0 s0_1),wrap64 (s0_1+1),IntKind.u64.wrap ((IntKind.u64.wrap ((IntKind.u64.wrap (s0_2*6364136223846793005))+(IntKind.u64.wrap (wrap64 (rd s0_0 s0_1)))))+1442695040888963407))) else(some (wrap64 (Go.bits .and .u64 ((IntKind.u64.wrap ((IntKind.u64.wrap ((IntKind.u64.wrap (s0_2*6364136223846793005))+(IntKind.u64.wrap (wrap64 (rd s0_0 s0_1)))))+1442695040888963407)) / 1099511627776) 255),wrap64 (s0_1+1),IntKind.u64.wrap ((IntKind.u64.wrap ((IntKind.u64.wrap (s0_2*6364136223846793005))+(IntKind.u64.wrap (wrap64 (rd s0_0 s0_1)))))+1442695040888963407)))) else(none)) else(if(wrap64 (s0_1+1))≤(s0_0.length:Int) then(some (0,wrap64 (s0_1+1),IntKind.u64.wrap ((IntKind.u64.wrap (IntKind.u64.wrap (s0_2*6364136223846793005)))+1442695040888963407))) else(some (wrap64 (Go.bits .and .u64 ((IntKind.u64.wrap ((IntKind.u64.wrap (IntKind.u64.wrap (s0_2*6364136223846793005)))+1442695040888963407)) / 1099511627776) 255),wrap64 (s0_1+1),IntKind.u64.wrap ((IntKind.u64.wrap (IntKind.u64.wrap (s0_2*6364136223846793005)))+1442695040888963407)))))=some (r1,r2,r3):=h
 clear h
 by_cases c2:s0_1<(s0_0.length:Int)
 ·rw[if_pos c2] at H
  have c2b0:decide (s0_1<(s0_0.length:Int))=true:=decide_eq_true c2
  clear c2
  by_cases c3:0≤s0_1
  ·rw[if_pos c3] at H
   have c3b0:decide (0≤s0_1)=true:=decide_eq_true c3
   clear c3
   by_cases c4:(wrap64 (s0_1+1))≤(s0_0.length:Int)
   ·rw[if_pos c4] at H
    have c4b0:decide ((wrap64 (s0_1+1))≤(s0_0.length:Int))=true:=decide_eq_true c4
    clear c4
    simp only[Option.some.injEq,Prod.mk.injEq] at H
    obtain⟨rfl,rfl,rfl⟩:=H
    obtain⟨ASz5_0,cSz5_0,HGz5,hgz5,HSz5_0⟩:=HI0.out
    have hcz5_0:=cellS45_0 HGz5
    have hcz5_1:=cellS45_1 HGz5
    have hcz5_2:=cellS45_2 HGz5
    have hfz5_1:=blk_frozen HGz5 1
    have hfz5_2:=blk_frozen HGz5 2
    clear HGz5 hgz5
    have p101:0≤(s0_1:Int):=od
    have q101:s0_1<(s0_0.length:Int):=od
    obtain⟨ad101,e101,hx101_0⟩:=Kd.at_int HSz5_0 s0_1 p101 q101
    cases e101
    replace hx101_0:=pw_cell_below HB.out hx101_0
    replace p101:=eq_true p101
    replace q101:=eq_true q101
    go_enter Try.func44,Try.ntmps44
    go_wp2
    repeat(go_quiet (fail);try go_wp2)
    go_ret
    exact⟨fin1,by repeat(first|(with_reducible first|exact HI0.out|apply IsS45.alloc|apply IsS45.drewN|apply IsS45.drew|apply IsS45.set_1|apply IsS45.set_2)|exact HI0.out),by repeat(first|(with_reducible first|exact HB.out|apply below_alloc|apply pw_below_drewN|apply below_drew1|refine below_set ?_ (IsS45.ge HI0.out))|exact HB.out),by repeat(first|(with_reducible first|exact HK.out|apply KeepBut.set_|apply keep_drewN|apply keep_drew|apply keep_alloc)|exact HK.out)⟩
   ·rw[if_neg c4] at H
    have c4b0:decide ((wrap64 (s0_1+1))≤(s0_0.length:Int))=false:=decide_eq_false c4
    clear c4
    simp only[Option.some.injEq,Prod.mk.injEq] at H
    obtain⟨rfl,rfl,rfl⟩:=H
    obtain⟨ASz6_0,cSz6_0,HGz6,hgz6,HSz6_0⟩:=HI0.out
    have hcz6_0:=cellS45_0 HGz6
    have hcz6_1:=cellS45_1 HGz6
    have hcz6_2:=cellS45_2 HGz6
    have hfz6_1:=blk_frozen HGz6 1
    have hfz6_2:=blk_frozen HGz6 2
    clear HGz6 hgz6
    have p101:0≤(s0_1:Int):=od
    have q101:s0_1<(s0_0.length:Int):=od
    obtain⟨ad101,e101,hx101_0⟩:=Kd.at_int HSz6_0 s0_1 p101 q101
    cases e101
    replace hx101_0:=pw_cell_below HB.out hx101_0
    replace p101:=eq_true p101
    replace q101:=eq_true q101
    go_enter Try.func44,Try.ntmps44
    go_wp2
    repeat(go_quiet (fail);try go_wp2)
    go_ret
    exact⟨fin1,by repeat(first|(with_reducible first|exact HI0.out|apply IsS45.alloc|apply IsS45.drewN|apply IsS45.drew|apply IsS45.set_1|apply IsS45.set_2)|exact HI0.out),by repeat(first|(with_reducible first|exact HB.out|apply below_alloc|apply pw_below_drewN|apply below_drew1|refine below_set ?_ (IsS45.ge HI0.out))|exact HB.out),by repeat(first|(with_reducible first|exact HK.out|apply KeepBut.set_|apply keep_drewN|apply keep_drew|apply keep_alloc)|exact HK.out)⟩
  ·rw[if_neg c3] at H
   exact absurd H (by simp)
 ·rw[if_neg c2] at H
  have c2b0:decide (s0_1<(s0_0.length:Int))=false:=decide_eq_false c2
  clear c2
  by_cases c7:(wrap64 (s0_1+1))≤(s0_0.length:Int)
  ·rw[if_pos c7] at H
   have c7b0:decide ((wrap64 (s0_1+1))≤(s0_0.length:Int))=true:=decide_eq_true c7
   clear c7
   simp only[Option.some.injEq,Prod.mk.injEq] at H
   obtain⟨rfl,rfl,rfl⟩:=H
   obtain⟨ASz8_0,cSz8_0,HGz8,hgz8,HSz8_0⟩:=HI0.out
   have hcz8_0:=cellS45_0 HGz8
   have hcz8_1:=cellS45_1 HGz8
   have hcz8_2:=cellS45_2 HGz8
   have hfz8_1:=blk_frozen HGz8 1
   have hfz8_2:=blk_frozen HGz8 2
   clear HGz8 hgz8
   go_enter Try.func44,Try.ntmps44
   go_wp2
   repeat(go_quiet (fail);try go_wp2)
   go_ret
   exact⟨fin1,by repeat(first|(with_reducible first|exact HI0.out|apply IsS45.alloc|apply IsS45.drewN|apply IsS45.drew|apply IsS45.set_1|apply IsS45.set_2)|exact HI0.out),by repeat(first|(with_reducible first|exact HB.out|apply below_alloc|apply pw_below_drewN|apply below_drew1|refine below_set ?_ (IsS45.ge HI0.out))|exact HB.out),by repeat(first|(with_reducible first|exact HK.out|apply KeepBut.set_|apply keep_drewN|apply keep_drew|apply keep_alloc)|exact HK.out)⟩
  ·rw[if_neg c7] at H
   have c7b0:decide ((wrap64 (s0_1+1))≤(s0_0.length:Int))=false:=decide_eq_false c7
   clear c7
   simp only[Option.some.injEq,Prod.mk.injEq] at H
   obtain⟨rfl,rfl,rfl⟩:=H
   obtain⟨ASz9_0,cSz9_0,HGz9,hgz9,HSz9_0⟩:=HI0.out
   have hcz9_0:=cellS45_0 HGz9
   have hcz9_1:=cellS45_1 HGz9
   have hcz9_2:=cellS45_2 HGz9
   have hfz9_1:=blk_frozen HGz9 1
   have hfz9_2:=blk_frozen HGz9 2
   clear HGz9 hgz9
   go_enter Try.func44,Try.ntmps44
   go_wp2
   repeat(go_quiet (fail);try go_wp2)
   go_ret
   exact⟨fin1,by repeat(first|(with_reducible first|exact HI0.out|apply IsS45.alloc|apply IsS45.drewN|apply IsS45.drew|apply IsS45.set_1|apply IsS45.set_2)|exact HI0.out),by repeat(first|(with_reducible first|exact HB.out|apply below_alloc|apply pw_below_drewN|apply below_drew1|refine below_set ?_ (IsS45.ge HI0.out))|exact HB.out),by repeat(first|(with_reducible first|exact HK.out|apply KeepBut.set_|apply keep_drewN|apply keep_drew|apply keep_alloc)|exact HK.out)⟩

/-! ### spec_l1Cur_pick: function 36 -/
def spec_l1Cur_pick.f (s0_0:List Int) (s0_1:Int) (s0_2:Int) (a1:Int):Option (Int×Int×Int):=if a1≤1 then(some (0,s0_1,s0_2)) else((spec_l1Cur_next.f s0_0 s0_1 s0_2).bind fun bt102=>(if a1>200 then((spec_l1Cur_next.f s0_0 bt102.2.1 bt102.2.2).bind fun bt105=>(if a1=0 then(none) else(some (Int.tmod (wrap64 ((wrap64 (bt102.1*256))+bt105.1)) a1,bt105.2.1,bt105.2.2)))) else(if a1=0 then(none) else(some (Int.tmod bt102.1 a1,bt102.2.1,bt102.2.2)))))
set_option maxHeartbeats 8000000 in
set_option maxRecDepth 100000 in
theorem spec_l1Cur_pick.calls (g:Nat) (s0_0:List Int) (s0_1:Int) (s0_2:Int) (a1:Int) (r1:Int) (r2:Int) (r3:Int) (w0 w:World) (hI:IsS45 w0 w g s0_0 s0_1 s0_2) (hB:Below w0.heap.size w0 w) (h:spec_l1Cur_pick.f s0_0 s0_1 s0_2 a1=some (r1,r2,r3)) :
  Calls Try.prog 36 #[.pointer (some ⟨g,0,none⟩),.int .i64 a1] w fun e w'=>e = .returned (.int .i64 r1)∧IsS45 w0 w' g s0_0 r2 r3∧Below w0.heap.size w0 w'∧KeepBut w w' g none:=by
 have HI0:=am hI
 have HK:=am (KeepBut.refl w g none)
 have HL:=am hB.size
 clear hI
 have HW0:=am hB.size
 have HB:=am hB
 clear hB
 have H:(if a1≤1 then(some (0,s0_1,s0_2)) else((spec_l1Cur_next.f s0_0 s0_1 s0_2).bind fun bt102=>(if a1>200 then((spec_l1Cur_next.f s0_0 bt102.2.1 bt102.2.2).bind fun bt105=>(if a1=0 then(none) else(some (Int.tmod (wrap64 ((wrap64 (bt102.1*256))+bt105.1)) a1,bt105.2.1,bt105.2.2)))) else(if a1=0 then(none) else(some (Int.tmod bt102.1 a1,bt102.2.1,bt102.2.2))))))=some (r1,r2,r3):=h
 clear h
 by_cases c3:a1≤1
 ·rw[if_pos c3] at H
  have c3b0:decide (a1≤1)=true:=decide_eq_true c3
  clear c3
  simp only[Option.some.injEq,Prod.mk.injEq] at H
  obtain⟨rfl,rfl,rfl⟩:=H
  go_enter Try.func36,Try.ntmps36
  go_wp2
  go_ret
  exact⟨fin1,by repeat(first|(with_reducible first|exact HI0.out|apply IsS45.alloc|apply IsS45.drewN|apply IsS45.drew|apply IsS45.set_1|apply IsS45.set_2)|exact HI0.out),by repeat(first|(with_reducible first|exact HB.out|apply below_alloc|apply pw_below_drewN|apply below_drew1|refine below_set ?_ (IsS45.ge HI0.out))|exact HB.out),by repeat(first|(with_reducible first|exact HK.out|apply KeepBut.set_|apply keep_drewN|apply keep_drew|apply keep_alloc)|exact HK.out)⟩
 ·rw[if_neg c3] at H
  have c3b0:decide (a1≤1)=false:=decide_eq_false c3
  clear c3
  replace H:=Option.bind_eq_some_iff.mp H
  obtain⟨⟨t102,t103,t104⟩,A40,H⟩:=H
  replace H:(if a1>200 then((spec_l1Cur_next.f s0_0 t103 t104).bind fun bt105=>(if a1=0 then(none) else(some (Int.tmod (wrap64 ((wrap64 (t102*256))+bt105.1)) a1,bt105.2.1,bt105.2.2)))) else(if a1=0 then(none) else(some (Int.tmod t102 a1,t103,t104))))=some (r1,r2,r3):=H
  have A4:=am A40
  clear A40
  by_cases c5:a1>200
  ·rw[if_pos c5] at H
   have c5b0:decide (200<a1)=true:=decide_eq_true c5
   clear c5
   replace H:=Option.bind_eq_some_iff.mp H
   obtain⟨⟨t105,t106,t107⟩,A60,H⟩:=H
   replace H:(if a1=0 then(none) else(some (Int.tmod (wrap64 ((wrap64 (t102*256))+t105)) a1,t106,t107)))=some (r1,r2,r3):=H
   have A6:=am A60
   clear A60
   by_cases c7:a1=0
   ·rw[if_pos c7] at H
    exact absurd H (by simp)
   ·rw[if_neg c7] at H
    have c7b0:(a1 == 0)=false:=beq_eq_false_iff_ne.mpr c7
    have c7b1:(a1 != 0)=true:=bne_iff_ne.mpr c7
    simp only[Option.some.injEq,Prod.mk.injEq] at H
    obtain⟨rfl,rfl,rfl⟩:=H
    go_enter Try.func36,Try.ntmps36
    go_wp2_with (first|((with_reducible refine gate_callee (f:=44) rfl ?_);refine goesL_ (some 9) rfl rfl Try.func44 (by kernel_rfl) rfl #[.pointer (some ⟨g,0,none⟩)] rfl tl ?_;(with_reducible refine(spec_l1Cur_next.calls g s0_0 s0_1 s0_2 t102 t103 t104 w0 _ ?side1 ?side2 A4.out).mono ?_);(case side1=>repeat(first|(with_reducible first|exact HI0.out|apply IsS45.alloc|apply IsS45.drewN|apply IsS45.drew|apply IsS45.set_1|apply IsS45.set_2)|exact HI0.out));(case side2=>repeat(first|(with_reducible first|exact HB.out|apply below_alloc|apply pw_below_drewN|apply below_drew1|refine below_set ?_ (IsS45.ge HI0.out))|exact HB.out));rintro e w8 ⟨rfl,hi,hb,hk⟩;refine⟨_,rfl,?_⟩;have n0_:=am (KeepBut.trans (by repeat(first|(with_reducible first|exact HK.out|apply KeepBut.set_|apply keep_drewN|apply keep_drew|apply keep_alloc)|exact HK.out)) hk (.inl rfl));have n1_:=am (hb);have n2_:=am (hi);clear HK HB HI0;have HK:=n0_;have HB:=n1_;have HI0:=n2_;clear n0_ n1_ n2_;(try clear hb);(try clear hb2);(try clear hk);(try clear hi))|((with_reducible refine gate_callee (f:=44) rfl ?_);refine goesL_ (some 15) rfl rfl Try.func44 (by kernel_rfl) rfl #[.pointer (some ⟨g,0,none⟩)] rfl tl ?_;(with_reducible refine(spec_l1Cur_next.calls g s0_0 t103 t104 t105 t106 t107 w0 _ ?side1 ?side2 A6.out).mono ?_);(case side1=>repeat(first|(with_reducible first|exact HI0.out|apply IsS45.alloc|apply IsS45.drewN|apply IsS45.drew|apply IsS45.set_1|apply IsS45.set_2)|exact HI0.out));(case side2=>repeat(first|(with_reducible first|exact HB.out|apply below_alloc|apply pw_below_drewN|apply below_drew1|refine below_set ?_ (IsS45.ge HI0.out))|exact HB.out));rintro e w9 ⟨rfl,hi,hb,hk⟩;refine⟨_,rfl,?_⟩;have n0_:=am (KeepBut.trans (by repeat(first|(with_reducible first|exact HK.out|apply KeepBut.set_|apply keep_drewN|apply keep_drew|apply keep_alloc)|exact HK.out)) hk (.inl rfl));have n1_:=am (hb);have n2_:=am (hi);clear HK HB HI0;have HK:=n0_;have HB:=n1_;have HI0:=n2_;clear n0_ n1_ n2_;(try clear hb);(try clear hb2);(try clear hk);(try clear hi)))
    go_ret
    exact⟨fin1,by repeat(first|(with_reducible first|exact HI0.out|apply IsS45.alloc|apply IsS45.drewN|apply IsS45.drew|apply IsS45.set_1|apply IsS45.set_2)|exact HI0.out),by repeat(first|(with_reducible first|exact HB.out|apply below_alloc|apply pw_below_drewN|apply below_drew1|refine below_set ?_ (IsS45.ge HI0.out))|exact HB.out),by repeat(first|(with_reducible first|exact HK.out|apply KeepBut.set_|apply keep_drewN|apply keep_drew|apply keep_alloc)|exact HK.out)⟩
  ·rw[if_neg c5] at H
   have c5b0:decide (200<a1)=false:=decide_eq_false c5
   clear c5
   by_cases c10:a1=0
   ·rw[if_pos c10] at H
    exact absurd H (by simp)
   ·rw[if_neg c10] at H
    have c10b0:(a1 == 0)=false:=beq_eq_false_iff_ne.mpr c10
    have c10b1:(a1 != 0)=true:=bne_iff_ne.mpr c10
    simp only[Option.some.injEq,Prod.mk.injEq] at H
    obtain⟨rfl,rfl,rfl⟩:=H
    go_enter Try.func36,Try.ntmps36
    go_wp2_with (first|((with_reducible refine gate_callee (f:=44) rfl ?_);refine goesL_ (some 9) rfl rfl Try.func44 (by kernel_rfl) rfl #[.pointer (some ⟨g,0,none⟩)] rfl tl ?_;(with_reducible refine(spec_l1Cur_next.calls g s0_0 s0_1 s0_2 t102 t103 t104 w0 _ ?side1 ?side2 A4.out).mono ?_);(case side1=>repeat(first|(with_reducible first|exact HI0.out|apply IsS45.alloc|apply IsS45.drewN|apply IsS45.drew|apply IsS45.set_1|apply IsS45.set_2)|exact HI0.out));(case side2=>repeat(first|(with_reducible first|exact HB.out|apply below_alloc|apply pw_below_drewN|apply below_drew1|refine below_set ?_ (IsS45.ge HI0.out))|exact HB.out));rintro e w11 ⟨rfl,hi,hb,hk⟩;refine⟨_,rfl,?_⟩;have n0_:=am (KeepBut.trans (by repeat(first|(with_reducible first|exact HK.out|apply KeepBut.set_|apply keep_drewN|apply keep_drew|apply keep_alloc)|exact HK.out)) hk (.inl rfl));have n1_:=am (hb);have n2_:=am (hi);clear HK HB HI0;have HK:=n0_;have HB:=n1_;have HI0:=n2_;clear n0_ n1_ n2_;(try clear hb);(try clear hb2);(try clear hk);(try clear hi)))
    go_ret
    exact⟨fin1,by repeat(first|(with_reducible first|exact HI0.out|apply IsS45.alloc|apply IsS45.drewN|apply IsS45.drew|apply IsS45.set_1|apply IsS45.set_2)|exact HI0.out),by repeat(first|(with_reducible first|exact HB.out|apply below_alloc|apply pw_below_drewN|apply below_drew1|refine below_set ?_ (IsS45.ge HI0.out))|exact HB.out),by repeat(first|(with_reducible first|exact HK.out|apply KeepBut.set_|apply keep_drewN|apply keep_drew|apply keep_alloc)|exact HK.out)⟩

/-! ### spec_l1Cur_among: function 21 -/
def spec_l1Cur_among.f (s0_0:List Int) (s0_1:Int) (s0_2:Int) (l1:List Int):Option (Int×Int×Int):=(spec_l1Cur_pick.f s0_0 s0_1 s0_2 (l1.length:Int)).bind fun bt108=>(if 0≤bt108.1 then(if bt108.1<(l1.length:Int) then(some (rd l1 bt108.1,bt108.2.1,bt108.2.2)) else(none)) else(none))
set_option maxHeartbeats 8000000 in
set_option maxRecDepth 100000 in
theorem spec_l1Cur_among.calls (g:Nat) (s0_0:List Int) (s0_1:Int) (s0_2:Int) (A1:Option Addr) (c1:Nat) (l1:List Int) (r1:Int) (r2:Int) (r3:Int) (w0 w:World) (hI:IsS45 w0 w g s0_0 s0_1 s0_2) (hB:Below w0.heap.size w0 w) (hr1:Kd.C (Kd.int .i64) w A1 l1.length l1) (hc1:l1.length≤c1) (hf1:∀ ad,A1=some ad→0<l1.length→ad.block≠g) (h:spec_l1Cur_among.f s0_0 s0_1 s0_2 l1=some (r1,r2,r3)) :
  Calls Try.prog 21 #[.pointer (some ⟨g,0,none⟩),.slice A1 l1.length c1] w fun e w'=>e = .returned (.int .i64 r1)∧IsS45 w0 w' g s0_0 r2 r3∧Below w0.heap.size w0 w'∧KeepBut w w' g none:=by
 have HR1:=am hr1
 have HC1:=am hc1
 clear hr1 hc1
 have HI0:=am hI
 have HK:=am (KeepBut.refl w g none)
 have HL:=am hB.size
 clear hI
 have HW0:=am hB.size
 have HB:=am hB
 clear hB
 have H:((spec_l1Cur_pick.f s0_0 s0_1 s0_2 (l1.length:Int)).bind fun bt108=>(if 0≤bt108.1 then(if bt108.1<(l1.length:Int) then(some (rd l1 bt108.1,bt108.2.1,bt108.2.2)) else(none)) else(none)))=some (r1,r2,r3):=h
 clear h
 replace H:=Option.bind_eq_some_iff.mp H
 obtain⟨⟨t108,t109,t110⟩,A30,H⟩:=H
 replace H:(if 0≤t108 then(if t108<(l1.length:Int) then(some (rd l1 t108,t109,t110)) else(none)) else(none))=some (r1,r2,r3):=H
 have A3:=am A30
 clear A30
 by_cases c4:0≤t108
 ·rw[if_pos c4] at H
  have c4b0:decide (0≤t108)=true:=decide_eq_true c4
  clear c4
  by_cases c5:t108<(l1.length:Int)
  ·rw[if_pos c5] at H
   have c5b0:decide (t108<(l1.length:Int))=true:=decide_eq_true c5
   clear c5
   simp only[Option.some.injEq,Prod.mk.injEq] at H
   obtain⟨rfl,rfl,rfl⟩:=H
   go_enter Try.func21,Try.ntmps21
   go_wp2_with (first|((with_reducible refine gate_callee (f:=36) rfl ?_);refine goesL_ (some 9) rfl rfl Try.func36 (by kernel_rfl) rfl #[.pointer (some ⟨g,0,none⟩),.int .i64 (l1.length:Int)] rfl tl ?_;(with_reducible refine(spec_l1Cur_pick.calls g s0_0 s0_1 s0_2 (l1.length:Int) t108 t109 t110 w0 _ ?side1 ?side2 A3.out).mono ?_);(case side1=>repeat(first|(with_reducible first|exact HI0.out|apply IsS45.alloc|apply IsS45.drewN|apply IsS45.drew|apply IsS45.set_1|apply IsS45.set_2)|exact HI0.out));(case side2=>repeat(first|(with_reducible first|exact HB.out|apply below_alloc|apply pw_below_drewN|apply below_drew1|refine below_set ?_ (IsS45.ge HI0.out))|exact HB.out));rintro e w6 ⟨rfl,hi,hb,hk⟩;refine⟨_,rfl,?_⟩;have n0_:=am (KeepBut.trans (by repeat(first|(with_reducible first|exact HK.out|apply KeepBut.set_|apply keep_drewN|apply keep_drew|apply keep_alloc)|exact HK.out)) hk (.inl rfl));have n1_:=am (hb);have n2_:=am (hi);clear HK HB HI0;have HK:=n0_;have HB:=n1_;have HI0:=n2_;clear n0_ n1_ n2_;(try clear hb);(try clear hb2);(try clear hk);(try clear hi);have p111:0≤(t108:Int):=od;have q111:t108<(l1.length:Int):=od;obtain⟨ad111,e111,hx111_0⟩:=Kd.at_int HR1.out t108 p111 q111;cases e111;replace hx111_0:=keep_cell HK.out hx111_0 (by first|(rw[add_block];exact hf1 _ rfl (by omega))|exact hf1 _ rfl (by omega)|exact hf1 ad111 rfl (by omega));replace p111:=eq_true p111;replace q111:=eq_true q111))
   go_ret
   exact⟨fin1,by repeat(first|(with_reducible first|exact HI0.out|apply IsS45.alloc|apply IsS45.drewN|apply IsS45.drew|apply IsS45.set_1|apply IsS45.set_2)|exact HI0.out),by repeat(first|(with_reducible first|exact HB.out|apply below_alloc|apply pw_below_drewN|apply below_drew1|refine below_set ?_ (IsS45.ge HI0.out))|exact HB.out),by repeat(first|(with_reducible first|exact HK.out|apply KeepBut.set_|apply keep_drewN|apply keep_drew|apply keep_alloc)|exact HK.out)⟩
  ·rw[if_neg c5] at H
   exact absurd H (by simp)
 ·rw[if_neg c4] at H
  exact absurd H (by simp)

/-! ### spec_l1Cur_one: function 35 -/
def spec_l1Cur_one.f (s0_0:List Int) (s0_1:Int) (s0_2:Int) (a1:Int):Option (Bool×Int×Int):=(spec_l1Cur_pick.f s0_0 s0_1 s0_2 a1).bind fun bt112=>(some ((bt112.1 == 0),bt112.2.1,bt112.2.2))
set_option maxHeartbeats 8000000 in
set_option maxRecDepth 100000 in
theorem spec_l1Cur_one.calls (g:Nat) (s0_0:List Int) (s0_1:Int) (s0_2:Int) (a1:Int) (r1:Bool) (r2:Int) (r3:Int) (w0 w:World) (hI:IsS45 w0 w g s0_0 s0_1 s0_2) (hB:Below w0.heap.size w0 w) (h:spec_l1Cur_one.f s0_0 s0_1 s0_2 a1=some (r1,r2,r3)) :
  Calls Try.prog 35 #[.pointer (some ⟨g,0,none⟩),.int .i64 a1] w fun e w'=>e = .returned (.bool r1)∧IsS45 w0 w' g s0_0 r2 r3∧Below w0.heap.size w0 w'∧KeepBut w w' g none:=by
 have HI0:=am hI
 have HK:=am (KeepBut.refl w g none)
 have HL:=am hB.size
 clear hI
 have HW0:=am hB.size
 have HB:=am hB
 clear hB
 have H:((spec_l1Cur_pick.f s0_0 s0_1 s0_2 a1).bind fun bt112=>(some ((bt112.1 == 0),bt112.2.1,bt112.2.2)))=some (r1,r2,r3):=h
 clear h
 replace H:=Option.bind_eq_some_iff.mp H
 obtain⟨⟨t112,t113,t114⟩,A30,H⟩:=H
 replace H:(some ((t112 == 0),t113,t114))=some (r1,r2,r3):=H
 have A3:=am A30
 clear A30
 simp only[Option.some.injEq,Prod.mk.injEq] at H
 obtain⟨rfl,rfl,rfl⟩:=H
 go_enter Try.func35,Try.ntmps35
 go_wp2_with (first|((with_reducible refine gate_callee (f:=36) rfl ?_);refine goesL_ (some 7) rfl rfl Try.func36 (by kernel_rfl) rfl #[.pointer (some ⟨g,0,none⟩),.int .i64 a1] rfl tl ?_;(with_reducible refine(spec_l1Cur_pick.calls g s0_0 s0_1 s0_2 a1 t112 t113 t114 w0 _ ?side1 ?side2 A3.out).mono ?_);(case side1=>repeat(first|(with_reducible first|exact HI0.out|apply IsS45.alloc|apply IsS45.drewN|apply IsS45.drew|apply IsS45.set_1|apply IsS45.set_2)|exact HI0.out));(case side2=>repeat(first|(with_reducible first|exact HB.out|apply below_alloc|apply pw_below_drewN|apply below_drew1|refine below_set ?_ (IsS45.ge HI0.out))|exact HB.out));rintro e w4 ⟨rfl,hi,hb,hk⟩;refine⟨_,rfl,?_⟩;have n0_:=am (KeepBut.trans (by repeat(first|(with_reducible first|exact HK.out|apply KeepBut.set_|apply keep_drewN|apply keep_drew|apply keep_alloc)|exact HK.out)) hk (.inl rfl));have n1_:=am (hb);have n2_:=am (hi);clear HK HB HI0;have HK:=n0_;have HB:=n1_;have HI0:=n2_;clear n0_ n1_ n2_;(try clear hb);(try clear hb2);(try clear hk);(try clear hi)))
 go_ret
 exact⟨fin1,by repeat(first|(with_reducible first|exact HI0.out|apply IsS45.alloc|apply IsS45.drewN|apply IsS45.drew|apply IsS45.set_1|apply IsS45.set_2)|exact HI0.out),by repeat(first|(with_reducible first|exact HB.out|apply below_alloc|apply pw_below_drewN|apply below_drew1|refine below_set ?_ (IsS45.ge HI0.out))|exact HB.out),by repeat(first|(with_reducible first|exact HK.out|apply KeepBut.set_|apply keep_drewN|apply keep_drew|apply keep_alloc)|exact HK.out)⟩

/-! ### spec_l1Cur_pattern: function 20 -/
def spec_l1Cur_pattern.l0:Nat→Int→Int→List Int→Int→Int→Int→List Int→Option (Int×List Int×Int×Int)
 | 0,_,_,_,_,_,_,_=>none
 | k+1,x4,x5,x1000,x1001,x1002,x123000,x123001=>if x5<x123000 then((spec_l1Cur_one.f x1000 x1001 x1002 x4).bind fun bt129=>(if bt129.1=true then(if x123001.length<17592186044416 then(spec_l1Cur_pattern.l0 k x4 (wrap64 (x5+1)) x1000 bt129.2.1 bt129.2.2 x123000 (x123001 ++ [x5])) else(none)) else(spec_l1Cur_pattern.l0 k x4 (wrap64 (x5+1)) x1000 bt129.2.1 bt129.2.2 x123000 x123001))) else((spec_l1Cur_pick.f x1000 x1001 x1002 30).bind fun bt135=>(if bt135.1=0 then((spec_l1Cur_among.f x1000 bt135.2.1 bt135.2.2 (([0,25,(-1)]:List Int))).bind fun bt141=>(some (bt141.1,x123001,bt141.2.1,bt141.2.2))) else(if bt135.1=1 then((spec_l1Cur_among.f x1000 bt135.2.1 bt135.2.2 (([(-1),0,x123000]:List Int))).bind fun bt147=>(if x123001.length<17592186044416 then(some (x123000,(x123001 ++ [bt147.1]),bt147.2.1,bt147.2.2)) else(none))) else(some (x123000,x123001,bt135.2.1,bt135.2.2)))))
def spec_l1Cur_pattern.f (k:Nat) (s0_0:List Int) (s0_1:Int) (s0_2:Int):Option (Int×List Int×Int×Int):=(spec_l1Cur_among.f s0_0 s0_1 s0_2 (([1,2,3,4,5,6,8,8,12,16,24]:List Int))).bind fun bt119=>((spec_l1Cur_among.f s0_0 bt119.2.1 bt119.2.2 (([2,3]:List Int))).bind fun bt126=>(spec_l1Cur_pattern.l0 k bt126.1 0 s0_0 bt126.2.1 bt126.2.2 bt119.1 ([]:List Int)))
def spec_l1Cur_pattern.T12:Bool×List (List Nat×List Nat):=(true,[([],[]),([0],[0]),([],[]),([],[]),([3],[3]),([4],[4]),([2,5],[2,5]),([6],[6]),([1,7,6],[1,7]),([0,1,2,3,4,5,6,7,8],[]),([9,8,8,0,1,2,3,4,5,6,7,8],[8,9])])
def spec_l1Cur_pattern.B12:List Nat:=[0,1,0,0,8,24,60,124,255,511,1023]
theorem spec_l1Cur_pattern.tab12:rtab .any (opsOf Try.f20 12)=spec_l1Cur_pattern.T12:=by kernel_rfl
theorem spec_l1Cur_pattern.bits12:waitsOk spec_l1Cur_pattern.T12.2 spec_l1Cur_pattern.B12=true:=by kernel_rfl
set_option maxHeartbeats 8000000 in
set_option maxRecDepth 100000 in
theorem spec_l1Cur_pattern.calls (k:Nat) (g:Nat) (s0_0:List Int) (s0_1:Int) (s0_2:Int) (r1:Int) (r2:List Int) (r3:Int) (r4:Int) (w0 w:World) (hI:IsS45 w0 w g s0_0 s0_1 s0_2) (hB:Below w0.heap.size w0 w) (h:spec_l1Cur_pattern.f k s0_0 s0_1 s0_2=some (r1,r2,r3,r4)) :
  Calls Try.prog 20 #[.pointer (some ⟨g,0,none⟩)] w fun e w'=>∃ v1_:Value,e = .returned (.agg #[.int .i64 r1,v1_])∧Kd.R (Kd.int .i64) 3 w' w.heap.size (fun _=>True) v1_ r2∧IsS45 w0 w' g s0_0 r3 r4∧Below w0.heap.size w0 w'∧KeepBut w w' g none:=by
 have hu26:=Try.underlying26
 have HI0:=am hI
 have HK:=am (KeepBut.refl w g none)
 have HL:=am hB.size
 clear hI
 have HW0:=am hB.size
 have HB:=am hB
 clear hB
 have H:((spec_l1Cur_among.f s0_0 s0_1 s0_2 (([1,2,3,4,5,6,8,8,12,16,24]:List Int))).bind fun bt119=>((spec_l1Cur_among.f s0_0 bt119.2.1 bt119.2.2 (([2,3]:List Int))).bind fun bt126=>(spec_l1Cur_pattern.l0 k bt126.1 0 s0_0 bt126.2.1 bt126.2.2 bt119.1 ([]:List Int))))=some (r1,r2,r3,r4):=h
 clear h
 obtain⟨y116,hy116⟩:∃ y_:List Int,y_=(([1,2,3,4,5,6,8,8,12,16,24]:List Int)):=⟨_,rfl⟩
 replace H:((spec_l1Cur_among.f s0_0 s0_1 s0_2 y116).bind fun bt119=>((spec_l1Cur_among.f s0_0 bt119.2.1 bt119.2.2 (([2,3]:List Int))).bind fun bt126=>(spec_l1Cur_pattern.l0 k bt126.1 0 s0_0 bt126.2.1 bt126.2.2 bt119.1 ([]:List Int))))=some (r1,r2,r3,r4):=by first|(rw[hy116];with_reducible exact H)|(have H2_:=(Option.bind_some _ _).symm.trans H;rw[hy116];with_reducible exact H2_)|(have H2_:=(Option.bind_some _ _).symm.trans H;with_reducible exact H2_)|with_reducible exact H|(rw[hy116];exact H)|exact H
 have Ny116:=am hy116
 clear hy116
 replace H:=Option.bind_eq_some_iff.mp H
 obtain⟨⟨t119,t120,t121⟩,A20,H⟩:=H
 replace H:((spec_l1Cur_among.f s0_0 t120 t121 (([2,3]:List Int))).bind fun bt126=>(spec_l1Cur_pattern.l0 k bt126.1 0 s0_0 bt126.2.1 bt126.2.2 t119 ([]:List Int)))=some (r1,r2,r3,r4):=H
 have A2:=am A20
 clear A20
 obtain⟨y123,hy123⟩:∃ y_:List Int,y_=(([2,3]:List Int)):=⟨_,rfl⟩
 replace H:((spec_l1Cur_among.f s0_0 t120 t121 y123).bind fun bt126=>(spec_l1Cur_pattern.l0 k bt126.1 0 s0_0 bt126.2.1 bt126.2.2 t119 ([]:List Int)))=some (r1,r2,r3,r4):=by first|(rw[hy123];with_reducible exact H)|(have H2_:=(Option.bind_some _ _).symm.trans H;rw[hy123];with_reducible exact H2_)|(have H2_:=(Option.bind_some _ _).symm.trans H;with_reducible exact H2_)|with_reducible exact H|(rw[hy123];exact H)|exact H
 have Ny123:=am hy123
 clear hy123
 replace H:=Option.bind_eq_some_iff.mp H
 obtain⟨⟨t126,t127,t128⟩,A30,H⟩:=H
 replace H:(spec_l1Cur_pattern.l0 k t126 0 s0_0 t127 t128 t119 ([]:List Int))=some (r1,r2,r3,r4):=H
 have A3:=am A30
 clear A30
 have H':=am H
 clear H
 go_enter Try.func20,Try.ntmps20
 go_wp2_with (first|((with_reducible refine gate_dst (N:=2) rfl ?_);refine box_event ?hg (N:=2) ?hd (cs := #[.int .i64 0,.slice none 0 0]) (t:=26) ?hr ?_;(case hd=>rfl);(case hg=>rfl);(case hr=>first|(go_simp;done)|(go_simp;rfl));intro gb115 hg w4 hbox hb;have n0_:=am (IsS45.below (by repeat(first|(with_reducible first|exact HI0.out|apply IsS45.alloc|apply IsS45.drewN|apply IsS45.drew|apply IsS45.set_1|apply IsS45.set_2)|exact HI0.out)) hb);have n1_:=am (KeepBut.trans (by repeat(first|(with_reducible first|exact HK.out|apply KeepBut.set_|apply keep_drewN|apply keep_drew|apply keep_alloc)|exact HK.out)) (KeepBut.of_below hb g none) (.inl rfl));have n2_:=am (below_step (by repeat(first|(with_reducible first|exact HB.out|apply below_alloc|apply pw_below_drewN|apply below_drew1|refine below_set ?_ (IsS45.ge HI0.out))|exact HB.out)) hb);have n3_:=am (hbox);have n4_:=am ((by rw[hg];exact(keep_size (w:=w) (g:=g) (row:=none) (by repeat(first|(with_reducible first|exact HK.out|apply KeepBut.set_|apply keep_drewN|apply keep_drew|apply keep_alloc)|exact HK.out))):w.heap.size≤gb115));have n5_:=am ((Nat.le_trans HW0.out (by rw[hg];exact(keep_size (w:=w) (g:=g) (row:=none) (by repeat(first|(with_reducible first|exact HK.out|apply KeepBut.set_|apply keep_drewN|apply keep_drew|apply keep_alloc)|exact HK.out))):w.heap.size≤gb115):w0.heap.size≤gb115));have n6_:=am ((by rw[hg];exact Nat.ne_of_lt (IsS45.lt (show IsS45 w0 _ g s0_0 s0_1 s0_2 from by repeat(first|(with_reducible first|exact HI0.out|apply IsS45.alloc|apply IsS45.drewN|apply IsS45.drew|apply IsS45.set_1|apply IsS45.set_2)|exact HI0.out))):g≠gb115));have n7_:=am ((by rw[hg];exact Nat.ne_of_gt (IsS45.lt (show IsS45 w0 _ g s0_0 s0_1 s0_2 from by repeat(first|(with_reducible first|exact HI0.out|apply IsS45.alloc|apply IsS45.drewN|apply IsS45.drew|apply IsS45.set_1|apply IsS45.set_2)|exact HI0.out))):gb115≠g));clear HI0 HK HB;have HI0:=n0_;have HK:=n1_;have HB:=n2_;have BK115:=n3_;have GW115:=n4_;have GE115:=n5_;have NB0_115:=n6_;have NB115_0:=n7_;clear n0_ n1_ n2_ n3_ n4_ n5_ n6_ n7_ hb hbox hg)|((with_reducible refine gate_dst (N:=7) rfl ?_);refine Kd.R_lit (Kd.int .i64) _ 3 ?hg (N:=7) ?hd (xs:=([1,2,3,4,5,6,8,8,12,16,24]:List Int)) (inner:=[.int .i64 1,.int .i64 2,.int .i64 3,.int .i64 4,.int .i64 5,.int .i64 6,.int .i64 8,.int .i64 8,.int .i64 12,.int .i64 16,.int .i64 24]) (ok:=fun _=>True) (okp:=fun _=>True) ?hr ?hp (fun _ hk=>hk) trivial (Below.refl _ _) (Nat.le_refl _) (by simp) ?_;(case hd=>rfl);(case hg=>rfl);(case hr=>first|(go_simp;done)|(go_simp;rfl));(case hp=>exact(Reps.one (show Kd.M (Kd.int .i64) _ _ _ 1 [.int .i64 1] from rfl) (Reps.one (show Kd.M (Kd.int .i64) _ _ _ 2 [.int .i64 2] from rfl) (Reps.one (show Kd.M (Kd.int .i64) _ _ _ 3 [.int .i64 3] from rfl) (Reps.one (show Kd.M (Kd.int .i64) _ _ _ 4 [.int .i64 4] from rfl) (Reps.one (show Kd.M (Kd.int .i64) _ _ _ 5 [.int .i64 5] from rfl) (Reps.one (show Kd.M (Kd.int .i64) _ _ _ 6 [.int .i64 6] from rfl) (Reps.one (show Kd.M (Kd.int .i64) _ _ _ 8 [.int .i64 8] from rfl) (Reps.one (show Kd.M (Kd.int .i64) _ _ _ 8 [.int .i64 8] from rfl) (Reps.one (show Kd.M (Kd.int .i64) _ _ _ 12 [.int .i64 12] from rfl) (Reps.one (show Kd.M (Kd.int .i64) _ _ _ 16 [.int .i64 16] from rfl) (Reps.one (show Kd.M (Kd.int .i64) _ _ _ 24 [.int .i64 24] from rfl) (Reps.none _ _)))))))))))));intro v117 w5 ho6 hb hg_ hnew_;clear hg_ hnew_;(first|rw[← Ny116.out] at ho6|(simp only[Int.reduceToNat] at ho6;rw[← Ny116.out] at ho6));have n0_:=am (Kd.R_lower ho6 (keep_size (w:=w) (g:=g) (row:=none) (by repeat(first|(with_reducible first|exact HK.out|apply KeepBut.set_|apply keep_drewN|apply keep_drew|apply keep_alloc|refine keep_far ?_ GW115.out _)|exact HK.out))));have n1_:=am (IsS45.below (by repeat(first|(with_reducible first|exact HI0.out|apply IsS45.alloc|apply IsS45.drewN|apply IsS45.drew|apply IsS45.set_1|apply IsS45.set_2|refine IsS45.far ?_ NB0_115.out _)|exact HI0.out)) hb);have n2_:=am (blk_below (bup BK115.out) hb);have n3_:=am (KeepBut.trans (by repeat(first|(with_reducible first|exact HK.out|apply KeepBut.set_|apply keep_drewN|apply keep_drew|apply keep_alloc|refine keep_far ?_ GW115.out _)|exact HK.out)) (KeepBut.of_below hb g none) (.inl rfl));have n4_:=am (below_step (by repeat(first|(with_reducible first|exact HB.out|apply below_alloc|apply pw_below_drewN|apply below_drew1|refine below_set ?_ (IsS45.ge HI0.out)|refine below_set ?_ GE115.out)|exact HB.out)) hb);clear HI0 BK115 HK HB;have HO118:=n0_;have HI0:=n1_;have BK115:=n2_;have HK:=n3_;have HB:=n4_;clear n0_ n1_ n2_ n3_ n4_ hb ho6;obtain⟨Ao7,co7,eo7⟩:=Kd.R_slice HO118.out;subst eo7)|((with_reducible refine gate_callee (f:=21) rfl ?_);refine goesL_ (some 8) rfl rfl Try.func21 (by kernel_rfl) rfl #[.pointer (some ⟨g,0,none⟩),.slice Ao7 y116.length co7] rfl tl ?_;(with_reducible refine(spec_l1Cur_among.calls g s0_0 s0_1 s0_2 _ _ y116 t119 t120 t121 w0 _ ?side1 ?side2 ?side3 ?side4 ?side5 A2.out).mono ?_);(case side1=>repeat(first|(with_reducible first|exact HI0.out|apply IsS45.alloc|apply IsS45.drewN|apply IsS45.drew|apply IsS45.set_1|apply IsS45.set_2|refine IsS45.far ?_ NB0_115.out _)|exact HI0.out));(case side2=>repeat(first|(with_reducible first|exact HB.out|apply below_alloc|apply pw_below_drewN|apply below_drew1|refine below_set ?_ (IsS45.ge HI0.out)|refine below_set ?_ GE115.out)|exact HB.out));(case side3=>repeat(first|exact(Kd.R_reads' HO118.out).2.2|(with_reducible refine Kd.C_alloc ?_ _)|(with_reducible refine Kd.C_drewN ?_ _)|(with_reducible refine Kd.C_drew ?_)));(case side4=>exact(Kd.R_reads' HO118.out).2.1);(case side5=>exact far_slice (IsS45.own_ne HI0.out HO118.out (by decide)));rintro e w8 ⟨rfl,hi,hb,hk⟩;refine⟨_,rfl,?_⟩;have n0_:=am (KeepBut.blk hk (g':=gb115) (o := .cells #[.int .i64 0,.slice none 0 0] 26 (0,0)) (bup BK115.out) NB115_0.out (by simp));have n1_:=am (Kd.R_mono (Kd.R_keep (IsS45.apart (show IsS45 w0 _ g s0_0 s0_1 s0_2 from by repeat(first|(with_reducible first|exact HI0.out|apply IsS45.alloc|apply IsS45.drewN|apply IsS45.drew|apply IsS45.set_1|apply IsS45.set_2|refine IsS45.far ?_ NB0_115.out _)|exact HI0.out)) (rup HO118.out) (by decide)) hk (fun _ h=>h.2)) (fun _ h=>h.1));have n2_:=am (KeepBut.trans (by repeat(first|(with_reducible first|exact HK.out|apply KeepBut.set_|apply keep_drewN|apply keep_drew|apply keep_alloc|refine keep_far ?_ GW115.out _)|exact HK.out)) hk (.inl rfl));have n3_:=am (hb);have n4_:=am (hi);clear BK115 HO118 HK HB HI0;have BK115:=n0_;have HO118:=n1_;have HK:=n2_;have HB:=n3_;have HI0:=n4_;clear n0_ n1_ n2_ n3_ n4_;(try clear hb);(try clear hb2);(try clear hk);(try clear hi))|((with_reducible refine gate_dst (N:=3) rfl ?_);refine box_event ?hg (N:=3) ?hd (cs := #[.int .i64 0,.slice none 0 0]) (t:=26) ?hr ?_;(case hd=>rfl);(case hg=>rfl);(case hr=>first|(go_simp;done)|(go_simp;rfl));intro gb122 hg w9 hbox hb;have n0_:=am (Kd.R_below (rup HO118.out) hb);have n1_:=am (IsS45.below (by repeat(first|(with_reducible first|exact HI0.out|apply IsS45.alloc|apply IsS45.drewN|apply IsS45.drew|apply IsS45.set_1|apply IsS45.set_2|refine IsS45.far ?_ NB0_115.out _)|exact HI0.out)) hb);have n2_:=am (blk_below (bup BK115.out) hb);have n3_:=am (KeepBut.trans (by repeat(first|(with_reducible first|exact HK.out|apply KeepBut.set_|apply keep_drewN|apply keep_drew|apply keep_alloc|refine keep_far ?_ GW115.out _)|exact HK.out)) (KeepBut.of_below hb g none) (.inl rfl));have n4_:=am (below_step (by repeat(first|(with_reducible first|exact HB.out|apply below_alloc|apply pw_below_drewN|apply below_drew1|refine below_set ?_ (IsS45.ge HI0.out)|refine below_set ?_ GE115.out)|exact HB.out)) hb);have n5_:=am (hbox);have n6_:=am ((by rw[hg];exact(keep_size (w:=w) (g:=g) (row:=none) (by repeat(first|(with_reducible first|exact HK.out|apply KeepBut.set_|apply keep_drewN|apply keep_drew|apply keep_alloc|refine keep_far ?_ GW115.out _)|exact HK.out))):w.heap.size≤gb122));have n7_:=am ((Nat.le_trans HW0.out (by rw[hg];exact(keep_size (w:=w) (g:=g) (row:=none) (by repeat(first|(with_reducible first|exact HK.out|apply KeepBut.set_|apply keep_drewN|apply keep_drew|apply keep_alloc|refine keep_far ?_ GW115.out _)|exact HK.out))):w.heap.size≤gb122):w0.heap.size≤gb122));have n8_:=am (nl (bup BK115.out) hg);have n9_:=am (ng (bup BK115.out) hg);have n10_:=am ((by rw[hg];exact Nat.ne_of_lt (IsS45.lt (show IsS45 w0 _ g s0_0 t120 t121 from by repeat(first|(with_reducible first|exact HI0.out|apply IsS45.alloc|apply IsS45.drewN|apply IsS45.drew|apply IsS45.set_1|apply IsS45.set_2|refine IsS45.far ?_ NB0_115.out _)|exact HI0.out))):g≠gb122));have n11_:=am ((by rw[hg];exact Nat.ne_of_gt (IsS45.lt (show IsS45 w0 _ g s0_0 t120 t121 from by repeat(first|(with_reducible first|exact HI0.out|apply IsS45.alloc|apply IsS45.drewN|apply IsS45.drew|apply IsS45.set_1|apply IsS45.set_2|refine IsS45.far ?_ NB0_115.out _)|exact HI0.out))):gb122≠g));clear HO118 HI0 BK115 HK HB;have HO118:=n0_;have HI0:=n1_;have BK115:=n2_;have HK:=n3_;have HB:=n4_;have BK122:=n5_;have GW122:=n6_;have GE122:=n7_;have NB115_122:=n8_;have NB122_115:=n9_;have NB0_122:=n10_;have NB122_0:=n11_;clear n0_ n1_ n2_ n3_ n4_ n5_ n6_ n7_ n8_ n9_ n10_ n11_ hb hbox hg;have hnb10:=NB122_115.out;have hnc10:=NB115_122.out;have hnb11:=NB122_0.out;have hnc11:=NB0_122.out;have hcz12_0:w9.cell? ⟨gb122,0,none⟩=some (.int .i64 0):=(blk_cell BK122.out 0).trans rfl;have hcz12_1:w9.cell? ⟨gb122,1,none⟩=some (.slice none 0 0):=(blk_cell BK122.out 1).trans rfl;have hfz12_0:=blk_frozen BK122.out 0;have hfz12_1:=blk_frozen BK122.out 1)|((with_reducible refine gate_dst (N:=11) rfl ?_);refine Kd.R_lit (Kd.int .i64) _ 3 ?hg (N:=11) ?hd (xs:=([2,3]:List Int)) (inner:=[.int .i64 2,.int .i64 3]) (ok:=fun _=>True) (okp:=fun _=>True) ?hr ?hp (fun _ hk=>hk) trivial (Below.refl _ _) (Nat.le_refl _) (by simp) ?_;(case hd=>rfl);(case hg=>rfl);(case hr=>first|(go_simp;done)|(go_simp;rfl));(case hp=>exact(Reps.one (show Kd.M (Kd.int .i64) _ _ _ 2 [.int .i64 2] from rfl) (Reps.one (show Kd.M (Kd.int .i64) _ _ _ 3 [.int .i64 3] from rfl) (Reps.none _ _))));intro v124 w13 ho14 hb hg_ hnew_;clear hg_ hnew_;(first|rw[← Ny123.out] at ho14|(simp only[Int.reduceToNat] at ho14;rw[← Ny123.out] at ho14));have n0_:=am (Kd.R_elder' (by(with_reducible repeat(first|apply Kd.R_alloc|apply Kd.R_drewN|apply Kd.R_drew));exact(Kd.R_mono (Kd.R_far (p:=⟨gb122,1,none⟩) (Kd.R_far (p:=⟨gb122,0,none⟩) (Kd.R_types HO118.out BK122.out (by decide)) (fun _ hk=>hk.2) (.int .i64 t119)) (fun _ hk=>hk.2) (.slice none 0 0)) (fun _ h_=>h_.1))) (Kd.R_base ho14) hb);have n1_:=am (Kd.R_lower (Kd.R_new' ho14 (Kd.R_lt (by(with_reducible repeat(first|apply Kd.R_alloc|apply Kd.R_drewN|apply Kd.R_drew));exact(Kd.R_mono (Kd.R_far (p:=⟨gb122,1,none⟩) (Kd.R_far (p:=⟨gb122,0,none⟩) (Kd.R_types HO118.out BK122.out (by decide)) (fun _ hk=>hk.2) (.int .i64 t119)) (fun _ hk=>hk.2) (.slice none 0 0)) (fun _ h_=>h_.1))))) (keep_size (w:=w) (g:=g) (row:=none) (by repeat(first|(with_reducible first|exact HK.out|apply KeepBut.set_|apply keep_drewN|apply keep_drew|apply keep_alloc|refine keep_far ?_ GW115.out _|refine keep_far ?_ GW122.out _)|exact HK.out))));have n2_:=am (IsS45.below (show IsS45 w0 ((w9.setCell ⟨gb122,0,none⟩ (.int .i64 t119)).setCell ⟨gb122,1,none⟩ (.slice none 0 0)) g s0_0 t120 t121 from by repeat(first|(with_reducible first|exact HI0.out|apply IsS45.alloc|apply IsS45.drewN|apply IsS45.drew|apply IsS45.set_1|apply IsS45.set_2|refine IsS45.far ?_ NB0_115.out _|refine IsS45.far ?_ NB0_122.out _)|exact HI0.out)) hb);have n3_:=am (blk_below (g:=gb115) (o := .cells #[.int .i64 0,.slice none 0 0] 26 (0,0)) (by(with_reducible repeat(first|refine bN_ ?_ _|refine bD_ ?_|refine bA_ ?_ _));refine blk_far ?_ NB115_122.out _;(with_reducible repeat(first|refine bN_ ?_ _|refine bD_ ?_|refine bA_ ?_ _));refine blk_far ?_ NB115_122.out _;exact bup BK115.out) hb);have n4_:=am (blk_below (g:=gb122) (o := .cells #[.int .i64 t119,.slice none 0 0] 26 (0,0)) (by(with_reducible repeat(first|refine bN_ ?_ _|refine bD_ ?_|refine bA_ ?_ _));refine blk_put (cs := #[.int .i64 t119,.slice none 0 0]) ?_ 1 _ rfl;(with_reducible repeat(first|refine bN_ ?_ _|refine bD_ ?_|refine bA_ ?_ _));refine blk_put (cs := #[.int .i64 0,.slice none 0 0]) ?_ 0 _ rfl;exact bup BK122.out) hb);have n5_:=am (KeepBut.trans (by repeat(first|(with_reducible first|exact HK.out|apply KeepBut.set_|apply keep_drewN|apply keep_drew|apply keep_alloc|refine keep_far ?_ GW115.out _|refine keep_far ?_ GW122.out _)|exact HK.out)) (KeepBut.of_below hb g none) (.inl rfl));have n6_:=am (below_step (by repeat(first|(with_reducible first|exact HB.out|apply below_alloc|apply pw_below_drewN|apply below_drew1|refine below_set ?_ (IsS45.ge HI0.out)|refine below_set ?_ GE115.out|refine below_set ?_ GE122.out)|exact HB.out)) hb);clear HO118 HI0 BK115 BK122 HK HB;have HO118:=n0_;have HO125:=n1_;have HI0:=n2_;have BK115:=n3_;have BK122:=n4_;have HK:=n5_;have HB:=n6_;clear n0_ n1_ n2_ n3_ n4_ n5_ n6_ hb ho14;obtain⟨Ao15,co15,eo15⟩:=Kd.R_slice HO125.out;subst eo15)|((with_reducible refine gate_callee (f:=21) rfl ?_);refine goesL_ (some 12) rfl rfl Try.func21 (by kernel_rfl) rfl #[.pointer (some ⟨g,0,none⟩),.slice Ao15 y123.length co15] rfl tl ?_;(with_reducible refine(spec_l1Cur_among.calls g s0_0 t120 t121 _ _ y123 t126 t127 t128 w0 _ ?side1 ?side2 ?side3 ?side4 ?side5 A3.out).mono ?_);(case side1=>repeat(first|(with_reducible first|exact HI0.out|apply IsS45.alloc|apply IsS45.drewN|apply IsS45.drew|apply IsS45.set_1|apply IsS45.set_2|refine IsS45.far ?_ NB0_115.out _|refine IsS45.far ?_ NB0_122.out _)|exact HI0.out));(case side2=>repeat(first|(with_reducible first|exact HB.out|apply below_alloc|apply pw_below_drewN|apply below_drew1|refine below_set ?_ (IsS45.ge HI0.out)|refine below_set ?_ GE115.out|refine below_set ?_ GE122.out)|exact HB.out));(case side3=>repeat(first|exact(Kd.R_reads' HO125.out).2.2|(with_reducible refine Kd.C_alloc ?_ _)|(with_reducible refine Kd.C_drewN ?_ _)|(with_reducible refine Kd.C_drew ?_)));(case side4=>exact(Kd.R_reads' HO125.out).2.1);(case side5=>exact far_slice (IsS45.own_ne HI0.out HO125.out (by decide)));rintro e w16 ⟨rfl,hi,hb,hk⟩;refine⟨_,rfl,?_⟩;have n0_:=am (KeepBut.blk hk (g':=gb115) (o := .cells #[.int .i64 0,.slice none 0 0] 26 (0,0)) (bup BK115.out) NB115_0.out (by simp));have n1_:=am (Kd.R_mono (Kd.R_keep (IsS45.apart (show IsS45 w0 _ g s0_0 t120 t121 from by repeat(first|(with_reducible first|exact HI0.out|apply IsS45.alloc|apply IsS45.drewN|apply IsS45.drew|apply IsS45.set_1|apply IsS45.set_2|refine IsS45.far ?_ NB0_115.out _|refine IsS45.far ?_ NB0_122.out _)|exact HI0.out)) (rup HO118.out) (by decide)) hk (fun _ h=>h.2)) (fun _ h=>h.1));have n2_:=am (KeepBut.blk hk (g':=gb122) (o := .cells #[.int .i64 t119,.slice none 0 0] 26 (0,0)) (bup BK122.out) NB122_0.out (by simp));have n3_:=am (Kd.R_mono (Kd.R_keep (IsS45.apart (show IsS45 w0 _ g s0_0 t120 t121 from by repeat(first|(with_reducible first|exact HI0.out|apply IsS45.alloc|apply IsS45.drewN|apply IsS45.drew|apply IsS45.set_1|apply IsS45.set_2|refine IsS45.far ?_ NB0_115.out _|refine IsS45.far ?_ NB0_122.out _)|exact HI0.out)) (rup HO125.out) (by decide)) hk (fun _ h=>h.2)) (fun _ h=>h.1));have n4_:=am (KeepBut.trans (by repeat(first|(with_reducible first|exact HK.out|apply KeepBut.set_|apply keep_drewN|apply keep_drew|apply keep_alloc|refine keep_far ?_ GW115.out _|refine keep_far ?_ GW122.out _)|exact HK.out)) hk (.inl rfl));have n5_:=am (hb);have n6_:=am (hi);clear BK115 HO118 BK122 HO125 HK HB HI0;have BK115:=n0_;have HO118:=n1_;have BK122:=n2_;have HO125:=n3_;have HK:=n4_;have HB:=n5_;have HI0:=n6_;clear n0_ n1_ n2_ n3_ n4_ n5_ n6_;(try clear hb);(try clear hb2);(try clear hk);(try clear hi)))
 go_loopg [5] k (fun kq v5 w'=>∃(x5_1:Int) (x1001_1:Int) (x1002_1:Int) (x123001_1:List Int) (u123001:Value),v5 = .int .i64 x5_1∧Aside0 (spec_l1Cur_pattern.l0 kq t126 x5_1 s0_0 x1001_1 x1002_1 t119 x123001_1=some (r1,r2,r3,r4))∧Aside0 (kq≤k)∧Aside0 (Kd.R (Kd.int .i64) 3 w' w.heap.size (fun _=>True) u123001 x123001_1)∧Aside0 (w'.heap[gb115]?=some (.cells #[.int .i64 0,(.slice none 0 0)] 26 (0,0)))∧Aside0 (w'.heap[gb122]?=some (.cells #[.int .i64 t119,u123001] 26 (0,0)))∧Aside0 (IsS45 w0 w' g s0_0 x1001_1 x1002_1)∧Aside0 (KeepBut w w' g none)∧Aside0 (Below w0.heap.size w0 w'))
 case atStart=>exact⟨(0),(t127),(t128),(([]:List Int)),(.slice none 0 0),fin2,H',⟨Nat.le_refl _⟩,⟨by first|exact Kd.R_nil _ _ _ _ _|exact Kd.N_nil _ _ _ _ _|exact Kd.V_nil _ _ _ _ _|exact Kd.Q_nil _ _ _ _ _|exact Kd.S_nil _ _ _ _ _⟩,⟨bup BK115.out⟩,⟨bup BK122.out⟩,⟨by repeat(first|(with_reducible first|exact HI0.out|apply IsS45.alloc|apply IsS45.drewN|apply IsS45.drew|apply IsS45.set_1|apply IsS45.set_2|refine IsS45.far ?_ NB0_115.out _|refine IsS45.far ?_ NB0_122.out _)|exact HI0.out)⟩,⟨by repeat(first|(with_reducible first|exact HK.out|apply KeepBut.set_|apply keep_drewN|apply keep_drew|apply keep_alloc|refine keep_far ?_ GW115.out _|refine keep_far ?_ GW122.out _)|exact HK.out)⟩,⟨by repeat(first|(with_reducible first|exact HB.out|apply below_alloc|apply pw_below_drewN|apply below_drew1|refine below_set ?_ (IsS45.ge HI0.out)|refine below_set ?_ GE115.out|refine below_set ?_ GE122.out)|exact HB.out)⟩⟩
 case round =>
  clear H'
  try clear c1
  try clear c2
  try clear p2
  try clear c10
  try clear c11
  try clear hcz12_0
  try clear hcz12_1
  try clear hfz12_0
  try clear hfz12_1
  obtain⟨x5_1,x1001_1,x1002_1,x123001_1,u123001,rfl,HA,HK1,HO_123001,BK115,BK122,HI0,HK,HB⟩:=hrel
  cases gk with
  | zero=>exact absurd HA.out (by simp [spec_l1Cur_pattern.l0])
  | succ k1 =>
   have H:=HA.out
   clear HA
   simp only[spec_l1Cur_pattern.l0] at H
   by_cases c17:x5_1<t119
   ·rw[if_pos c17] at H
    have c17b0:decide (x5_1<t119)=true:=decide_eq_true c17
    clear c17
    replace H:=Option.bind_eq_some_iff.mp H
    obtain⟨⟨t129,t130,t131⟩,A180,H⟩:=H
    replace H:(if t129=true then(if x123001_1.length<17592186044416 then(spec_l1Cur_pattern.l0 k1 t126 (wrap64 (x5_1+1)) s0_0 t130 t131 t119 (x123001_1 ++ [x5_1])) else(none)) else(spec_l1Cur_pattern.l0 k1 t126 (wrap64 (x5_1+1)) s0_0 t130 t131 t119 x123001_1))=some (r1,r2,r3,r4):=H
    have A18:=am A180
    clear A180
    by_cases c19:t129=true
    ·subst c19
     have H1:(if x123001_1.length<17592186044416 then(spec_l1Cur_pattern.l0 k1 t126 (wrap64 (x5_1+1)) s0_0 t130 t131 t119 (x123001_1 ++ [x5_1])) else(none))=some (r1,r2,r3,r4):=by rw[if_pos rfl] at H;exact H
     clear H
     have H:=H1
     clear H1
     by_cases c20:x123001_1.length<17592186044416
     ·rw[if_pos c20] at H
      have LMc20:=am c20
      clear c20
      obtain⟨y132,hy132⟩:∃ y_:List Int,y_=(x123001_1 ++ [x5_1]):=⟨_,rfl⟩
      replace H:(spec_l1Cur_pattern.l0 k1 t126 (wrap64 (x5_1+1)) s0_0 t130 t131 t119 y132)=some (r1,r2,r3,r4):=by first|(rw[hy132];with_reducible exact H)|(have H2_:=(Option.bind_some _ _).symm.trans H;rw[hy132];with_reducible exact H2_)|(have H2_:=(Option.bind_some _ _).symm.trans H;with_reducible exact H2_)|with_reducible exact H|(rw[hy132];exact H)|exact H
      have Ny132:=am hy132
      clear hy132
      have H':=am H
      clear H
      have hnb21:=NB122_115.out
      have hnc21:=NB115_122.out
      have hnb22:=NB122_0.out
      have hnc22:=NB0_122.out
      have hcz23_0:wr.cell? ⟨gb122,0,none⟩=some (.int .i64 t119):=(blk_cell BK122.out 0).trans rfl
      have hcz23_1:wr.cell? ⟨gb122,1,none⟩=some (u123001):=(blk_cell BK122.out 1).trans rfl
      have hfz23_0:=blk_frozen BK122.out 0
      have hfz23_1:=blk_frozen BK122.out 1
      go_wp2_with (first|((with_reducible refine gate_callee (f:=35) rfl ?_);refine goesL_ (some 21) rfl rfl Try.func35 (by kernel_rfl) rfl #[.pointer (some ⟨g,0,none⟩),.int .i64 t126] rfl tl ?_;(with_reducible refine(spec_l1Cur_one.calls g s0_0 x1001_1 x1002_1 t126 true t130 t131 w0 _ ?side1 ?side2 A18.out).mono ?_);(case side1=>repeat(first|(with_reducible first|exact HI0.out|apply IsS45.alloc|apply IsS45.drewN|apply IsS45.drew|apply IsS45.set_1|apply IsS45.set_2|refine IsS45.far ?_ NB0_115.out _|refine IsS45.far ?_ NB0_122.out _)|exact HI0.out));(case side2=>repeat(first|(with_reducible first|exact HB.out|apply below_alloc|apply pw_below_drewN|apply below_drew1|refine below_set ?_ (IsS45.ge HI0.out)|refine below_set ?_ GE115.out|refine below_set ?_ GE122.out)|exact HB.out));rintro e w24 ⟨rfl,hi,hb,hk⟩;refine⟨_,rfl,?_⟩;have n0_:=am (Kd.R_mono (Kd.R_keep (IsS45.apart (show IsS45 w0 _ g s0_0 x1001_1 x1002_1 from by repeat(first|(with_reducible first|exact HI0.out|apply IsS45.alloc|apply IsS45.drewN|apply IsS45.drew|apply IsS45.set_1|apply IsS45.set_2|refine IsS45.far ?_ NB0_115.out _|refine IsS45.far ?_ NB0_122.out _)|exact HI0.out)) (rup HO_123001.out) (by decide)) hk (fun _ h=>h.2)) (fun _ h=>h.1));have n1_:=am (KeepBut.blk hk (g':=gb115) (o := .cells #[.int .i64 0,.slice none 0 0] 26 (0,0)) (bup BK115.out) NB115_0.out (by simp));have n2_:=am (KeepBut.blk hk (g':=gb122) (o := .cells #[.int .i64 t119,u123001] 26 (0,0)) (bup BK122.out) NB122_0.out (by simp));have n3_:=am (KeepBut.trans (by repeat(first|(with_reducible first|exact HK.out|apply KeepBut.set_|apply keep_drewN|apply keep_drew|apply keep_alloc|refine keep_far ?_ GW115.out _|refine keep_far ?_ GW122.out _)|exact HK.out)) hk (.inl rfl));have n4_:=am (hb);have n5_:=am (hi);clear HO_123001 BK115 BK122 HK HB HI0;have HO_123001:=n0_;have BK115:=n1_;have BK122:=n2_;have HK:=n3_;have HB:=n4_;have HI0:=n5_;clear n0_ n1_ n2_ n3_ n4_ n5_;(try clear hb);(try clear hb2);(try clear hk);(try clear hi);have hcz25_0:w24.cell? ⟨gb122,0,none⟩=some (.int .i64 t119):=(blk_cell BK122.out 0).trans rfl;have hcz25_1:w24.cell? ⟨gb122,1,none⟩=some (u123001):=(blk_cell BK122.out 1).trans rfl;have hfz25_0:=blk_frozen BK122.out 0;have hfz25_1:=blk_frozen BK122.out 1)|((with_reducible refine gate_builtin (b := .append) (xs := #[.tmp 23,.tmp 25]) rfl ?_);at_builtin;refine Kd.R_append (Kd.int .i64) w.heap.size rfl (.tmp 23) (.tmp 25) 24 3 (.int .i64 0) 8 rfl Try.underlying24 info3 rfl (by decide) (by omega) u123001 x123001_1 x5_1 [.int .i64 x5_1] (fun _=>True) (fun _=>False) rfl rfl ?aP (fun _ hk=>hk.elim) ?aF ?aO (Below.refl _ _) ?aS ?aL ?_;(case aP=>exact rfl);(case aF=>exact(fun _ _=>trivial));(case aO=>exact(rup HO_123001.out));(case aS=>exact(keep_size (w:=w) (g:=g) (row:=none) (by repeat(first|(with_reducible first|exact HK.out|apply KeepBut.set_|apply keep_drewN|apply keep_drew|apply keep_alloc|refine keep_far ?_ GW115.out _|refine keep_far ?_ GW122.out _)|exact HK.out))));(case aL=>have:=LMc20.out;omega);intro v133 w26 ho hb hg hat;rw[← Ny132.out] at ho;have n0_:=am (blk_grown (bup BK115.out) hg (Kd.R_ne HO_123001.out BK115.out (by decide)));have n1_:=am (blk_grown (bup BK122.out) hg (Kd.R_ne HO_123001.out BK122.out (by decide)));have n2_:=am (IsS45.grown (by repeat(first|(with_reducible first|exact HI0.out|apply IsS45.alloc|apply IsS45.drewN|apply IsS45.drew|apply IsS45.set_1|apply IsS45.set_2|refine IsS45.far ?_ NB0_115.out _|refine IsS45.far ?_ NB0_122.out _)|exact HI0.out)) hg (IsS45.own_ne HI0.out HO_123001.out (by decide)));have n3_:=am (below_weaken (by repeat(first|(with_reducible first|exact HB.out|apply below_alloc|apply pw_below_drewN|apply below_drew1|refine below_set ?_ (IsS45.ge HI0.out)|refine below_set ?_ GE115.out|refine below_set ?_ GE122.out)|exact HB.out)) HL.out hb);have n4_:=am (KeepBut.trans (by repeat(first|(with_reducible first|exact HK.out|apply KeepBut.set_|apply keep_drewN|apply keep_drew|apply keep_alloc|refine keep_far ?_ GW115.out _|refine keep_far ?_ GW122.out _)|exact HK.out)) (KeepBut.of_grown hg g) (Kd.R_base2 HO_123001.out));have n5_:=am (ho);clear BK115 BK122 HI0 HB HK HO_123001;have BK115:=n0_;have BK122:=n1_;have HI0:=n2_;have HB:=n3_;have HK:=n4_;have HO134:=n5_;clear n0_ n1_ n2_ n3_ n4_ n5_ ho hb hg hat;obtain⟨Ao27,co27,eo27⟩:=Kd.R_slice HO134.out;subst eo27;have hcz28_0:w26.cell? ⟨gb122,0,none⟩=some (.int .i64 t119):=(blk_cell BK122.out 0).trans rfl;have hcz28_1:w26.cell? ⟨gb122,1,none⟩=some (u123001):=(blk_cell BK122.out 1).trans rfl;have hfz28_0:=blk_frozen BK122.out 0;have hfz28_1:=blk_frozen BK122.out 1))
      go_roundg k1
      case measure=>have:=HK1.out;omega
      case rel=>exact⟨(wrap64 (x5_1+1)),(t130),(t131),(y132),(.slice Ao27 y132.length co27),fin2,H',⟨by have:=HK1.out;omega⟩,⟨rup (Kd.R_mono (Kd.R_far (p:=⟨gb122,1,none⟩) (Kd.R_types HO134.out BK122.out (by decide)) (fun _ hk=>hk.2) (.slice Ao27 y132.length co27)) (fun _ hk=>trivial))⟩,⟨by(with_reducible repeat(first|refine bN_ ?_ _|refine bD_ ?_|refine bA_ ?_ _));refine blk_far ?_ NB115_122.out _;exact bup BK115.out⟩,⟨by(with_reducible repeat(first|refine bN_ ?_ _|refine bD_ ?_|refine bA_ ?_ _));refine blk_put (cs := #[.int .i64 t119,u123001]) ?_ 1 _ rfl;exact bup BK122.out⟩,⟨by repeat(first|(with_reducible first|exact HI0.out|apply IsS45.alloc|apply IsS45.drewN|apply IsS45.drew|apply IsS45.set_1|apply IsS45.set_2|refine IsS45.far ?_ NB0_115.out _|refine IsS45.far ?_ NB0_122.out _)|exact HI0.out)⟩,⟨by repeat(first|(with_reducible first|exact HK.out|apply KeepBut.set_|apply keep_drewN|apply keep_drew|apply keep_alloc|refine keep_far ?_ GW115.out _|refine keep_far ?_ GW122.out _)|exact HK.out)⟩,⟨by repeat(first|(with_reducible first|exact HB.out|apply below_alloc|apply pw_below_drewN|apply below_drew1|refine below_set ?_ (IsS45.ge HI0.out)|refine below_set ?_ GE115.out|refine below_set ?_ GE122.out)|exact HB.out)⟩⟩
     ·rw[if_neg c20] at H
      exact absurd H (by simp)
    ·replace c19:=Bool.eq_false_iff.mpr c19
     subst c19
     have H1:(spec_l1Cur_pattern.l0 k1 t126 (wrap64 (x5_1+1)) s0_0 t130 t131 t119 x123001_1)=some (r1,r2,r3,r4):=by rw[if_neg (show ¬ (false=true) by decide)] at H;exact H
     clear H
     have H:=H1
     clear H1
     have H':=am H
     clear H
     have hnb29:=NB122_115.out
     have hnc29:=NB115_122.out
     have hnb30:=NB122_0.out
     have hnc30:=NB0_122.out
     have hcz31_0:wr.cell? ⟨gb122,0,none⟩=some (.int .i64 t119):=(blk_cell BK122.out 0).trans rfl
     have hcz31_1:wr.cell? ⟨gb122,1,none⟩=some (u123001):=(blk_cell BK122.out 1).trans rfl
     have hfz31_0:=blk_frozen BK122.out 0
     have hfz31_1:=blk_frozen BK122.out 1
     go_wp2_with (first|((with_reducible refine gate_callee (f:=35) rfl ?_);refine goesL_ (some 21) rfl rfl Try.func35 (by kernel_rfl) rfl #[.pointer (some ⟨g,0,none⟩),.int .i64 t126] rfl tl ?_;(with_reducible refine(spec_l1Cur_one.calls g s0_0 x1001_1 x1002_1 t126 false t130 t131 w0 _ ?side1 ?side2 A18.out).mono ?_);(case side1=>repeat(first|(with_reducible first|exact HI0.out|apply IsS45.alloc|apply IsS45.drewN|apply IsS45.drew|apply IsS45.set_1|apply IsS45.set_2|refine IsS45.far ?_ NB0_115.out _|refine IsS45.far ?_ NB0_122.out _)|exact HI0.out));(case side2=>repeat(first|(with_reducible first|exact HB.out|apply below_alloc|apply pw_below_drewN|apply below_drew1|refine below_set ?_ (IsS45.ge HI0.out)|refine below_set ?_ GE115.out|refine below_set ?_ GE122.out)|exact HB.out));rintro e w32 ⟨rfl,hi,hb,hk⟩;refine⟨_,rfl,?_⟩;have n0_:=am (Kd.R_mono (Kd.R_keep (IsS45.apart (show IsS45 w0 _ g s0_0 x1001_1 x1002_1 from by repeat(first|(with_reducible first|exact HI0.out|apply IsS45.alloc|apply IsS45.drewN|apply IsS45.drew|apply IsS45.set_1|apply IsS45.set_2|refine IsS45.far ?_ NB0_115.out _|refine IsS45.far ?_ NB0_122.out _)|exact HI0.out)) (rup HO_123001.out) (by decide)) hk (fun _ h=>h.2)) (fun _ h=>h.1));have n1_:=am (KeepBut.blk hk (g':=gb115) (o := .cells #[.int .i64 0,.slice none 0 0] 26 (0,0)) (bup BK115.out) NB115_0.out (by simp));have n2_:=am (KeepBut.blk hk (g':=gb122) (o := .cells #[.int .i64 t119,u123001] 26 (0,0)) (bup BK122.out) NB122_0.out (by simp));have n3_:=am (KeepBut.trans (by repeat(first|(with_reducible first|exact HK.out|apply KeepBut.set_|apply keep_drewN|apply keep_drew|apply keep_alloc|refine keep_far ?_ GW115.out _|refine keep_far ?_ GW122.out _)|exact HK.out)) hk (.inl rfl));have n4_:=am (hb);have n5_:=am (hi);clear HO_123001 BK115 BK122 HK HB HI0;have HO_123001:=n0_;have BK115:=n1_;have BK122:=n2_;have HK:=n3_;have HB:=n4_;have HI0:=n5_;clear n0_ n1_ n2_ n3_ n4_ n5_;(try clear hb);(try clear hb2);(try clear hk);(try clear hi)))
     go_roundg k1
     case measure=>have:=HK1.out;omega
     case rel=>exact⟨(wrap64 (x5_1+1)),(t130),(t131),(x123001_1),(u123001),fin2,H',⟨by have:=HK1.out;omega⟩,⟨rup HO_123001.out⟩,⟨bup BK115.out⟩,⟨bup BK122.out⟩,⟨by repeat(first|(with_reducible first|exact HI0.out|apply IsS45.alloc|apply IsS45.drewN|apply IsS45.drew|apply IsS45.set_1|apply IsS45.set_2|refine IsS45.far ?_ NB0_115.out _|refine IsS45.far ?_ NB0_122.out _)|exact HI0.out)⟩,⟨by repeat(first|(with_reducible first|exact HK.out|apply KeepBut.set_|apply keep_drewN|apply keep_drew|apply keep_alloc|refine keep_far ?_ GW115.out _|refine keep_far ?_ GW122.out _)|exact HK.out)⟩,⟨by repeat(first|(with_reducible first|exact HB.out|apply below_alloc|apply pw_below_drewN|apply below_drew1|refine below_set ?_ (IsS45.ge HI0.out)|refine below_set ?_ GE115.out|refine below_set ?_ GE122.out)|exact HB.out)⟩⟩
   ·rw[if_neg c17] at H
    have c17b0:decide (x5_1<t119)=false:=decide_eq_false c17
    clear c17
    replace H:=Option.bind_eq_some_iff.mp H
    obtain⟨⟨t135,t136,t137⟩,A330,H⟩:=H
    replace H:(if t135=0 then((spec_l1Cur_among.f s0_0 t136 t137 (([0,25,(-1)]:List Int))).bind fun bt141=>(some (bt141.1,x123001_1,bt141.2.1,bt141.2.2))) else(if t135=1 then((spec_l1Cur_among.f s0_0 t136 t137 (([(-1),0,t119]:List Int))).bind fun bt147=>(if x123001_1.length<17592186044416 then(some (t119,(x123001_1 ++ [bt147.1]),bt147.2.1,bt147.2.2)) else(none))) else(some (t119,x123001_1,t136,t137))))=some (r1,r2,r3,r4):=H
    have A33:=am A330
    clear A330
    by_cases c34:t135=0
    ·rw[if_pos c34] at H
     have c34b0:(t135 == 0)=true:=beq_iff_eq.mpr c34
     have c34b1:(t135 != 0)=false:=bne_eq_false_iff_eq.mpr c34
     clear c34
     obtain⟨y138,hy138⟩:∃ y_:List Int,y_=(([0,25,(-1)]:List Int)):=⟨_,rfl⟩
     replace H:((spec_l1Cur_among.f s0_0 t136 t137 y138).bind fun bt141=>(some (bt141.1,x123001_1,bt141.2.1,bt141.2.2)))=some (r1,r2,r3,r4):=by first|(rw[hy138];with_reducible exact H)|(have H2_:=(Option.bind_some _ _).symm.trans H;rw[hy138];with_reducible exact H2_)|(have H2_:=(Option.bind_some _ _).symm.trans H;with_reducible exact H2_)|with_reducible exact H|(rw[hy138];exact H)|exact H
     have Ny138:=am hy138
     clear hy138
     replace H:=Option.bind_eq_some_iff.mp H
     obtain⟨⟨t141,t142,t143⟩,A350,H⟩:=H
     replace H:(some (t141,x123001_1,t142,t143))=some (r1,r2,r3,r4):=H
     have A35:=am A350
     clear A350
     simp only[Option.some.injEq,Prod.mk.injEq] at H
     obtain⟨rfl,rfl,rfl,rfl⟩:=H
     have hnb36:=NB122_115.out
     have hnc36:=NB115_122.out
     have hnb37:=NB122_0.out
     have hnc37:=NB0_122.out
     have hcz38_0:wr.cell? ⟨gb122,0,none⟩=some (.int .i64 t119):=(blk_cell BK122.out 0).trans rfl
     have hcz38_1:wr.cell? ⟨gb122,1,none⟩=some (u123001):=(blk_cell BK122.out 1).trans rfl
     have hfz38_0:=blk_frozen BK122.out 0
     have hfz38_1:=blk_frozen BK122.out 1
     go_wp2_with (first|((with_reducible refine gate_callee (f:=36) rfl ?_);refine goesL_ (some 29) rfl rfl Try.func36 (by kernel_rfl) rfl #[.pointer (some ⟨g,0,none⟩),.int .i64 30] rfl tl ?_;(with_reducible refine(spec_l1Cur_pick.calls g s0_0 x1001_1 x1002_1 30 t135 t136 t137 w0 _ ?side1 ?side2 A33.out).mono ?_);(case side1=>repeat(first|(with_reducible first|exact HI0.out|apply IsS45.alloc|apply IsS45.drewN|apply IsS45.drew|apply IsS45.set_1|apply IsS45.set_2|refine IsS45.far ?_ NB0_115.out _|refine IsS45.far ?_ NB0_122.out _)|exact HI0.out));(case side2=>repeat(first|(with_reducible first|exact HB.out|apply below_alloc|apply pw_below_drewN|apply below_drew1|refine below_set ?_ (IsS45.ge HI0.out)|refine below_set ?_ GE115.out|refine below_set ?_ GE122.out)|exact HB.out));rintro e w39 ⟨rfl,hi,hb,hk⟩;refine⟨_,rfl,?_⟩;have n0_:=am (Kd.R_mono (Kd.R_keep (IsS45.apart (show IsS45 w0 _ g s0_0 x1001_1 x1002_1 from by repeat(first|(with_reducible first|exact HI0.out|apply IsS45.alloc|apply IsS45.drewN|apply IsS45.drew|apply IsS45.set_1|apply IsS45.set_2|refine IsS45.far ?_ NB0_115.out _|refine IsS45.far ?_ NB0_122.out _)|exact HI0.out)) (rup HO_123001.out) (by decide)) hk (fun _ h=>h.2)) (fun _ h=>h.1));have n1_:=am (KeepBut.blk hk (g':=gb115) (o := .cells #[.int .i64 0,.slice none 0 0] 26 (0,0)) (bup BK115.out) NB115_0.out (by simp));have n2_:=am (KeepBut.blk hk (g':=gb122) (o := .cells #[.int .i64 t119,u123001] 26 (0,0)) (bup BK122.out) NB122_0.out (by simp));have n3_:=am (KeepBut.trans (by repeat(first|(with_reducible first|exact HK.out|apply KeepBut.set_|apply keep_drewN|apply keep_drew|apply keep_alloc|refine keep_far ?_ GW115.out _|refine keep_far ?_ GW122.out _)|exact HK.out)) hk (.inl rfl));have n4_:=am (hb);have n5_:=am (hi);clear HO_123001 BK115 BK122 HK HB HI0;have HO_123001:=n0_;have BK115:=n1_;have BK122:=n2_;have HK:=n3_;have HB:=n4_;have HI0:=n5_;clear n0_ n1_ n2_ n3_ n4_ n5_;(try clear hb);(try clear hb2);(try clear hk);(try clear hi))|((with_reducible refine gate_dst (N:=33) rfl ?_);refine Kd.R_lit (Kd.int .i64) _ 3 ?hg (N:=33) ?hd (xs:=([0,25,(-1)]:List Int)) (inner:=[.int .i64 0,.int .i64 25,.int .i64 (-1)]) (ok:=fun _=>True) (okp:=fun _=>True) ?hr ?hp (fun _ hk=>hk) trivial (Below.refl _ _) (Nat.le_refl _) (by simp) ?_;(case hd=>rfl);(case hg=>rfl);(case hr=>first|(go_simp;done)|(go_simp;rfl));(case hp=>exact(Reps.one (show Kd.M (Kd.int .i64) _ _ _ 0 [.int .i64 0] from rfl) (Reps.one (show Kd.M (Kd.int .i64) _ _ _ 25 [.int .i64 25] from rfl) (Reps.one (show Kd.M (Kd.int .i64) _ _ _ (-1) [.int .i64 (-1)] from rfl) (Reps.none _ _)))));intro v139 w40 ho41 hb hg_ hnew_;clear hg_ hnew_;(first|rw[← Ny138.out] at ho41|(simp only[Int.reduceToNat] at ho41;rw[← Ny138.out] at ho41));have n0_:=am (Kd.R_elder' (rup HO_123001.out) (Kd.R_base ho41) hb);have n1_:=am (Kd.R_lower (Kd.R_new' ho41 (Kd.R_lt (rup HO_123001.out))) (keep_size (w:=w) (g:=g) (row:=none) (by repeat(first|(with_reducible first|exact HK.out|apply KeepBut.set_|apply keep_drewN|apply keep_drew|apply keep_alloc|refine keep_far ?_ GW115.out _|refine keep_far ?_ GW122.out _)|exact HK.out))));have n2_:=am (blk_below (bup BK115.out) hb);have n3_:=am (blk_below (bup BK122.out) hb);have n4_:=am (IsS45.below (by repeat(first|(with_reducible first|exact HI0.out|apply IsS45.alloc|apply IsS45.drewN|apply IsS45.drew|apply IsS45.set_1|apply IsS45.set_2|refine IsS45.far ?_ NB0_115.out _|refine IsS45.far ?_ NB0_122.out _)|exact HI0.out)) hb);have n5_:=am (KeepBut.trans (by repeat(first|(with_reducible first|exact HK.out|apply KeepBut.set_|apply keep_drewN|apply keep_drew|apply keep_alloc|refine keep_far ?_ GW115.out _|refine keep_far ?_ GW122.out _)|exact HK.out)) (KeepBut.of_below hb g none) (.inl rfl));have n6_:=am (below_step (by repeat(first|(with_reducible first|exact HB.out|apply below_alloc|apply pw_below_drewN|apply below_drew1|refine below_set ?_ (IsS45.ge HI0.out)|refine below_set ?_ GE115.out|refine below_set ?_ GE122.out)|exact HB.out)) hb);clear HO_123001 BK115 BK122 HI0 HK HB;have HO_123001:=n0_;have HO140:=n1_;have BK115:=n2_;have BK122:=n3_;have HI0:=n4_;have HK:=n5_;have HB:=n6_;clear n0_ n1_ n2_ n3_ n4_ n5_ n6_ hb ho41;obtain⟨Ao42,co42,eo42⟩:=Kd.R_slice HO140.out;subst eo42)|((with_reducible refine gate_callee (f:=21) rfl ?_);refine goesL_ (some 34) rfl rfl Try.func21 (by kernel_rfl) rfl #[.pointer (some ⟨g,0,none⟩),.slice Ao42 y138.length co42] rfl tl ?_;(with_reducible refine(spec_l1Cur_among.calls g s0_0 t136 t137 _ _ y138 t141 t142 t143 w0 _ ?side1 ?side2 ?side3 ?side4 ?side5 A35.out).mono ?_);(case side1=>repeat(first|(with_reducible first|exact HI0.out|apply IsS45.alloc|apply IsS45.drewN|apply IsS45.drew|apply IsS45.set_1|apply IsS45.set_2|refine IsS45.far ?_ NB0_115.out _|refine IsS45.far ?_ NB0_122.out _)|exact HI0.out));(case side2=>repeat(first|(with_reducible first|exact HB.out|apply below_alloc|apply pw_below_drewN|apply below_drew1|refine below_set ?_ (IsS45.ge HI0.out)|refine below_set ?_ GE115.out|refine below_set ?_ GE122.out)|exact HB.out));(case side3=>repeat(first|exact(Kd.R_reads' HO140.out).2.2|(with_reducible refine Kd.C_alloc ?_ _)|(with_reducible refine Kd.C_drewN ?_ _)|(with_reducible refine Kd.C_drew ?_)));(case side4=>exact(Kd.R_reads' HO140.out).2.1);(case side5=>exact far_slice (IsS45.own_ne HI0.out HO140.out (by decide)));rintro e w43 ⟨rfl,hi,hb,hk⟩;refine⟨_,rfl,?_⟩;have n0_:=am (Kd.R_mono (Kd.R_keep (IsS45.apart (show IsS45 w0 _ g s0_0 t136 t137 from by repeat(first|(with_reducible first|exact HI0.out|apply IsS45.alloc|apply IsS45.drewN|apply IsS45.drew|apply IsS45.set_1|apply IsS45.set_2|refine IsS45.far ?_ NB0_115.out _|refine IsS45.far ?_ NB0_122.out _)|exact HI0.out)) (rup HO_123001.out) (by decide)) hk (fun _ h=>h.2)) (fun _ h=>h.1));have n1_:=am (KeepBut.blk hk (g':=gb115) (o := .cells #[.int .i64 0,.slice none 0 0] 26 (0,0)) (bup BK115.out) NB115_0.out (by simp));have n2_:=am (KeepBut.blk hk (g':=gb122) (o := .cells #[.int .i64 t119,u123001] 26 (0,0)) (bup BK122.out) NB122_0.out (by simp));have n3_:=am (Kd.R_mono (Kd.R_keep (IsS45.apart (show IsS45 w0 _ g s0_0 t136 t137 from by repeat(first|(with_reducible first|exact HI0.out|apply IsS45.alloc|apply IsS45.drewN|apply IsS45.drew|apply IsS45.set_1|apply IsS45.set_2|refine IsS45.far ?_ NB0_115.out _|refine IsS45.far ?_ NB0_122.out _)|exact HI0.out)) (rup HO140.out) (by decide)) hk (fun _ h=>h.2)) (fun _ h=>h.1));have n4_:=am (KeepBut.trans (by repeat(first|(with_reducible first|exact HK.out|apply KeepBut.set_|apply keep_drewN|apply keep_drew|apply keep_alloc|refine keep_far ?_ GW115.out _|refine keep_far ?_ GW122.out _)|exact HK.out)) hk (.inl rfl));have n5_:=am (hb);have n6_:=am (hi);clear HO_123001 BK115 BK122 HO140 HK HB HI0;have HO_123001:=n0_;have BK115:=n1_;have BK122:=n2_;have HO140:=n3_;have HK:=n4_;have HB:=n5_;have HI0:=n6_;clear n0_ n1_ n2_ n3_ n4_ n5_ n6_;(try clear hb);(try clear hb2);(try clear hk);(try clear hi);have hcz44_0:w43.cell? ⟨gb122,0,none⟩=some (.int .i64 t119):=(blk_cell BK122.out 0).trans rfl;have hcz44_1:w43.cell? ⟨gb122,1,none⟩=some (u123001):=(blk_cell BK122.out 1).trans rfl;have hfz44_0:=blk_frozen BK122.out 0;have hfz44_1:=blk_frozen BK122.out 1;have hnb45:=NB115_0.out;have hnc45:=NB0_115.out;have hcz46_0:w43.cell? ⟨gb115,0,none⟩=some (.int .i64 0):=(blk_cell BK115.out 0).trans rfl;have hcz46_1:w43.cell? ⟨gb115,1,none⟩=some (.slice none 0 0):=(blk_cell BK115.out 1).trans rfl;have hfz46_0:=blk_frozen BK115.out 0;have hfz46_1:=blk_frozen BK115.out 1;obtain⟨Ao47,co47,eo47⟩:=Kd.R_slice HO_123001.out;subst eo47))
     refine bodyPost_ret (results_cell_row rfl _ _ gb115 26 #[.int .i64 t141,.slice Ao47 x123001_1.length co47] (0,0) _ rfl (by(with_reducible repeat(first|refine bN_ ?_ _|refine bD_ ?_|refine bA_ ?_ _));refine blk_put (cs := #[.int .i64 t141,.slice none 0 0]) ?_ 1 _ rfl;(with_reducible repeat(first|refine bN_ ?_ _|refine bD_ ?_|refine bA_ ?_ _));refine blk_put (cs := #[.int .i64 0,.slice none 0 0]) ?_ 0 _ rfl;(with_reducible repeat(first|refine bN_ ?_ _|refine bD_ ?_|refine bA_ ?_ _));refine blk_far ?_ NB115_122.out _;exact bup BK115.out) Try.underlying26 rfl (by kernel_rfl)) rfl ?_
     exact⟨_,fin1,rup (Kd.R_mono (Kd.R_far (p:=⟨gb115,1,none⟩) (Kd.R_far (p:=⟨gb115,0,none⟩) (Kd.R_far (p:=⟨gb122,0,none⟩) (Kd.R_types (Kd.R_types HO_123001.out BK122.out (by decide)) BK115.out (by decide)) (fun _ hk=>hk.1.2) (.int .i64 t141)) (fun _ hk=>hk.2) (.int .i64 t141)) (fun _ hk=>hk.2) (.slice Ao47 x123001_1.length co47)) (fun _ hk=>trivial)),by repeat(first|(with_reducible first|exact HI0.out|apply IsS45.alloc|apply IsS45.drewN|apply IsS45.drew|apply IsS45.set_1|apply IsS45.set_2|refine IsS45.far ?_ NB0_115.out _|refine IsS45.far ?_ NB0_122.out _)|exact HI0.out),by repeat(first|(with_reducible first|exact HB.out|apply below_alloc|apply pw_below_drewN|apply below_drew1|refine below_set ?_ (IsS45.ge HI0.out)|refine below_set ?_ GE115.out|refine below_set ?_ GE122.out)|exact HB.out),by repeat(first|(with_reducible first|exact HK.out|apply KeepBut.set_|apply keep_drewN|apply keep_drew|apply keep_alloc|refine keep_far ?_ GW115.out _|refine keep_far ?_ GW122.out _)|exact HK.out)⟩
    ·rw[if_neg c34] at H
     have c34b0:(t135 == 0)=false:=beq_eq_false_iff_ne.mpr c34
     have c34b1:(t135 != 0)=true:=bne_iff_ne.mpr c34
     by_cases c48:t135=1
     ·rw[if_pos c48] at H
      have c48b0:(t135 == 1)=true:=beq_iff_eq.mpr c48
      have c48b1:(t135 != 1)=false:=bne_eq_false_iff_eq.mpr c48
      clear c48
      obtain⟨y144,hy144⟩:∃ y_:List Int,y_=(([(-1),0,t119]:List Int)):=⟨_,rfl⟩
      replace H:((spec_l1Cur_among.f s0_0 t136 t137 y144).bind fun bt147=>(if x123001_1.length<17592186044416 then(some (t119,(x123001_1 ++ [bt147.1]),bt147.2.1,bt147.2.2)) else(none)))=some (r1,r2,r3,r4):=by first|(rw[hy144];with_reducible exact H)|(have H2_:=(Option.bind_some _ _).symm.trans H;rw[hy144];with_reducible exact H2_)|(have H2_:=(Option.bind_some _ _).symm.trans H;with_reducible exact H2_)|with_reducible exact H|(rw[hy144];exact H)|exact H
      have Ny144:=am hy144
      clear hy144
      replace H:=Option.bind_eq_some_iff.mp H
      obtain⟨⟨t147,t148,t149⟩,A490,H⟩:=H
      replace H:(if x123001_1.length<17592186044416 then(some (t119,(x123001_1 ++ [t147]),t148,t149)) else(none))=some (r1,r2,r3,r4):=H
      have A49:=am A490
      clear A490
      by_cases c50:x123001_1.length<17592186044416
      ·rw[if_pos c50] at H
       have LMc50:=am c50
       clear c50
       obtain⟨y150,hy150⟩:∃ y_:List Int,y_=(x123001_1 ++ [t147]):=⟨_,rfl⟩
       replace H:(some (t119,y150,t148,t149))=some (r1,r2,r3,r4):=by first|(rw[hy150];with_reducible exact H)|(have H2_:=(Option.bind_some _ _).symm.trans H;rw[hy150];with_reducible exact H2_)|(have H2_:=(Option.bind_some _ _).symm.trans H;with_reducible exact H2_)|with_reducible exact H|(rw[hy150];exact H)|exact H
       have Ny150:=am hy150
       clear hy150
       simp only[Option.some.injEq,Prod.mk.injEq] at H
       obtain⟨rfl,rfl,rfl,rfl⟩:=H
       have hnb51:=NB122_115.out
       have hnc51:=NB115_122.out
       have hnb52:=NB122_0.out
       have hnc52:=NB0_122.out
       have hcz53_0:wr.cell? ⟨gb122,0,none⟩=some (.int .i64 t119):=(blk_cell BK122.out 0).trans rfl
       have hcz53_1:wr.cell? ⟨gb122,1,none⟩=some (u123001):=(blk_cell BK122.out 1).trans rfl
       have hfz53_0:=blk_frozen BK122.out 0
       have hfz53_1:=blk_frozen BK122.out 1
       try go_wp2_with (first|((with_reducible refine gate_callee (f:=36) rfl ?_);refine goesL_ (some 29) rfl rfl Try.func36 (by kernel_rfl) rfl #[.pointer (some ⟨g,0,none⟩),.int .i64 30] rfl tl ?_;(with_reducible refine(spec_l1Cur_pick.calls g s0_0 x1001_1 x1002_1 30 t135 t136 t137 w0 _ ?side1 ?side2 A33.out).mono ?_);(case side1=>repeat(first|(with_reducible first|exact HI0.out|apply IsS45.alloc|apply IsS45.drewN|apply IsS45.drew|apply IsS45.set_1|apply IsS45.set_2|refine IsS45.far ?_ NB0_115.out _|refine IsS45.far ?_ NB0_122.out _)|exact HI0.out));(case side2=>repeat(first|(with_reducible first|exact HB.out|apply below_alloc|apply pw_below_drewN|apply below_drew1|refine below_set ?_ (IsS45.ge HI0.out)|refine below_set ?_ GE115.out|refine below_set ?_ GE122.out)|exact HB.out));rintro e w54 ⟨rfl,hi,hb,hk⟩;refine⟨_,rfl,?_⟩;have n0_:=am (Kd.R_mono (Kd.R_keep (IsS45.apart (show IsS45 w0 _ g s0_0 x1001_1 x1002_1 from by repeat(first|(with_reducible first|exact HI0.out|apply IsS45.alloc|apply IsS45.drewN|apply IsS45.drew|apply IsS45.set_1|apply IsS45.set_2|refine IsS45.far ?_ NB0_115.out _|refine IsS45.far ?_ NB0_122.out _)|exact HI0.out)) (rup HO_123001.out) (by decide)) hk (fun _ h=>h.2)) (fun _ h=>h.1));have n1_:=am (KeepBut.blk hk (g':=gb115) (o := .cells #[.int .i64 0,.slice none 0 0] 26 (0,0)) (bup BK115.out) NB115_0.out (by simp));have n2_:=am (KeepBut.blk hk (g':=gb122) (o := .cells #[.int .i64 t119,u123001] 26 (0,0)) (bup BK122.out) NB122_0.out (by simp));have n3_:=am (KeepBut.trans (by repeat(first|(with_reducible first|exact HK.out|apply KeepBut.set_|apply keep_drewN|apply keep_drew|apply keep_alloc|refine keep_far ?_ GW115.out _|refine keep_far ?_ GW122.out _)|exact HK.out)) hk (.inl rfl));have n4_:=am (hb);have n5_:=am (hi);clear HO_123001 BK115 BK122 HK HB HI0;have HO_123001:=n0_;have BK115:=n1_;have BK122:=n2_;have HK:=n3_;have HB:=n4_;have HI0:=n5_;clear n0_ n1_ n2_ n3_ n4_ n5_;(try clear hb);(try clear hb2);(try clear hk);(try clear hi)))
       have n0_:=am (Kd.R_drew HO_123001.out)
       have n1_:=am (bD_ BK115.out)
       have n2_:=am (bD_ BK122.out)
       have n3_:=am (IsS45.drew HI0.out)
       have n4_:=am (keep_drew HK.out)
       have n5_:=am (below_drew1 HB.out)
       clear HO_123001
       clear BK115
       clear BK122
       clear HI0
       clear HK
       clear HB
       have HO_123001:=n0_
       have BK115:=n1_
       have BK122:=n2_
       have HI0:=n3_
       have HK:=n4_
       have HB:=n5_
       clear n0_ n1_ n2_ n3_ n4_ n5_
       refine start_ (n:=11) (S:=fun w'=>w'.cell? ⟨gb122,0,none⟩=some (.int .i64 t119)∧w'.cell? ⟨gb122,1,none⟩=some (u123001)) (ds:=[10]) #[false,false,false,false,false,false,false,false,false,false,false] (by kernel_rfl) rfl rfl ⟨(blk_cell BK122.out 0).trans rfl,(blk_cell BK122.out 1).trans rfl⟩ (fun hHeld=>?_);refine with_tabW spec_l1Cur_pattern.tab12 spec_l1Cur_pattern.bits12 (fun HT_ HW_=>?_)
       generalize w54.drew=w55 at HO_123001 BK115 BK122 HI0 HK HB hHeld ⊢
       refine pure_ (i:=0) (N:=some 38) (v:=?_) (a':=?_) #[true,false,false,false,false,false,false,false,false,false,false] rfl rfl (any_of HT_.out (by kernel_rfl)) (fun _ _ _ h=>h) (Or.inl ⟨by rfl,?_⟩) ?_ ?_
       rotate_left
       ·intro w'
        go_simp
        with_reducible rfl
       rotate_left
       ·simp only[Act.put,List.setIfInBounds_toArray,List.set_cons_zero,List.set_cons_succ,i64_w,i32_w]
        rfl
       refine pure_ (i:=2) (N:=some 40) (v:=?_) (a':=?_) #[true,false,true,false,false,false,false,false,false,false,false] rfl rfl (any_of HT_.out (by kernel_rfl)) (fun _ _ _ h=>h) (Or.inl ⟨by rfl,?_⟩) ?_ ?_
       rotate_left
       ·intro w'
        go_simp
        with_reducible rfl
       rotate_left
       ·simp only[Act.put,List.setIfInBounds_toArray,List.set_cons_zero,List.set_cons_succ,i64_w,i32_w]
        rfl
       refine pure_ (i:=3) (N:=some 41) (v:=?_) (a':=?_) #[true,false,true,true,false,false,false,false,false,false,false] rfl rfl (any_of HT_.out (by kernel_rfl)) (fun _ _ _ h=>h) (Or.inl ⟨by rfl,?_⟩) ?_ ?_
       rotate_left
       ·intro w'
        go_simp
        with_reducible rfl
       rotate_left
       ·simp only[Act.put,List.setIfInBounds_toArray,List.set_cons_zero,List.set_cons_succ,i64_w,i32_w]
        rfl
       refine take_ (i:=1) (N:=some 39) (v:=?_) (a':=?_) #[true,true,true,true,false,false,false,false,false,false,false] rfl rfl (take_ofW HT_.out HW_.out (by kernel_rfl)) (fun _ _ _ h=>h) (Or.inl ⟨by rfl,?_⟩) hHeld ?_ ?_
       rotate_left
       ·rintro w' ⟨s0,s1⟩
        go_simp
        with_reducible rfl
       rotate_left
       ·simp only[Act.put,List.setIfInBounds_toArray,List.set_cons_zero,List.set_cons_succ,i64_w,i32_w]
        rfl
       refine take_ (i:=4) (N:=some 42) (v:=?_) (a':=?_) #[true,true,true,true,true,false,false,false,false,false,false] rfl rfl (take_ofW HT_.out HW_.out (by kernel_rfl)) (fun _ _ _ h=>h) (Or.inl ⟨by rfl,?_⟩) hHeld ?_ ?_
       rotate_left
       ·rintro w' ⟨s0,s1⟩
        go_simp
        with_reducible rfl
       rotate_left
       ·simp only[Act.put,List.setIfInBounds_toArray,List.set_cons_zero,List.set_cons_succ,i64_w,i32_w]
        rfl
       refine one_ (i:=5) (N:=some 43) #[true,true,true,true,true,true,false,false,false,false,false] rfl rfl (one_of HT_.out (by kernel_rfl)) (by decide) (fun K hK=>?_)
       refine Kd.R_lit_step (Kd.int .i64) _ 3 ?hg (N:=43) ?hd (xs:=([(-1),0,t119]:List Int)) (inner:=[.int .i64 (-1),.int .i64 0,.int .i64 t119]) (ok:=fun _=>True) (okp:=fun _=>True) ?hr ?hp (fun _ hk=>hk) trivial (Below.refl _ _) (Nat.le_refl _) (by simp) ?_;(case hd=>rfl);(case hg=>rfl);(case hr=>first|(go_simp;done)|(go_simp;rfl));(case hp=>exact(Reps.one (show Kd.M (Kd.int .i64) _ _ _ (-1) [.int .i64 (-1)] from rfl) (Reps.one (show Kd.M (Kd.int .i64) _ _ _ 0 [.int .i64 0] from rfl) (Reps.one (show Kd.M (Kd.int .i64) _ _ _ t119 [.int .i64 t119] from rfl) (Reps.none _ _)))))
       intro v145 w56 ho57 hb hg_ hnew_
       clear hg_ hnew_
       (first|rw[← Ny144.out] at ho57|(simp only[Int.reduceToNat] at ho57;rw[← Ny144.out] at ho57))
       have n0_:=am (Kd.R_elder' (rup HO_123001.out) (Kd.R_base ho57) hb)
       have n1_:=am (Kd.R_lower (Kd.R_new' ho57 (Kd.R_lt (rup HO_123001.out))) (keep_size (w:=w) (g:=g) (row:=none) (by repeat(first|(with_reducible first|exact HK.out|apply KeepBut.set_|apply keep_drewN|apply keep_drew|apply keep_alloc|refine keep_far ?_ GW115.out _|refine keep_far ?_ GW122.out _)|exact HK.out))))
       have n2_:=am (blk_below (bup BK115.out) hb)
       have n3_:=am (blk_below (bup BK122.out) hb)
       have n4_:=am (IsS45.below (by repeat(first|(with_reducible first|exact HI0.out|apply IsS45.alloc|apply IsS45.drewN|apply IsS45.drew|apply IsS45.set_1|apply IsS45.set_2|refine IsS45.far ?_ NB0_115.out _|refine IsS45.far ?_ NB0_122.out _)|exact HI0.out)) hb)
       have n5_:=am (KeepBut.trans (by repeat(first|(with_reducible first|exact HK.out|apply KeepBut.set_|apply keep_drewN|apply keep_drew|apply keep_alloc|refine keep_far ?_ GW115.out _|refine keep_far ?_ GW122.out _)|exact HK.out)) (KeepBut.of_below hb g none) (.inl rfl))
       have n6_:=am (below_step (by repeat(first|(with_reducible first|exact HB.out|apply below_alloc|apply pw_below_drewN|apply below_drew1|refine below_set ?_ (IsS45.ge HI0.out)|refine below_set ?_ GE115.out|refine below_set ?_ GE122.out)|exact HB.out)) hb)
       clear HO_123001
       clear BK115
       clear BK122
       clear HI0
       clear HK
       clear HB
       have HO_123001:=n0_
       have HO146:=n1_
       have BK115:=n2_
       have BK122:=n3_
       have HI0:=n4_
       have HK:=n5_
       have HB:=n6_
       clear n0_ n1_ n2_ n3_ n4_ n5_ n6_
       clear hb ho57
       obtain⟨Ao58,co58,eo58⟩:=Kd.R_slice HO146.out
       (first|subst eo58|(injection eo58 with f1_ f2_ f3_;have f4_:=f1_.symm;have f5_:=f3_.symm;clear f1_ f2_ f3_;subst f4_;subst f5_))
       refine hK.out _ _ ⟨(blk_cell BK122.out 0).trans rfl,(blk_cell BK122.out 1).trans rfl⟩ (fun hHeld=>?_)
       clear hK K
       refine norm_ (a':=?_) ?_ ?_
       rotate_left
       ·show Act.put _ (some 43) _=_
        simp only[Act.put,List.setIfInBounds_toArray,List.set_cons_zero,List.set_cons_succ,i64_w,i32_w]
        rfl
       refine one_ (i:=6) (N:=some 44) #[true,true,true,true,true,true,true,false,false,false,false] rfl rfl (one_of HT_.out (by kernel_rfl)) (by decide) (fun K hK=>?_)
       refine goes_ Try.func21 (by kernel_rfl) rfl #[.pointer (some ⟨g,0,none⟩),.slice Ao58 y144.length co58] (by rfl) rfl rfl tl ?_
       with_reducible refine(spec_l1Cur_among.calls g s0_0 t136 t137 _ _ y144 t147 t148 t149 w0 _ ?side1 ?side2 ?side3 ?side4 ?side5 A49.out).mono ?_
       (case side1=>repeat(first|(with_reducible first|exact HI0.out|apply IsS45.alloc|apply IsS45.drewN|apply IsS45.drew|apply IsS45.set_1|apply IsS45.set_2|refine IsS45.far ?_ NB0_115.out _|refine IsS45.far ?_ NB0_122.out _)|exact HI0.out))
       (case side2=>repeat(first|(with_reducible first|exact HB.out|apply below_alloc|apply pw_below_drewN|apply below_drew1|refine below_set ?_ (IsS45.ge HI0.out)|refine below_set ?_ GE115.out|refine below_set ?_ GE122.out)|exact HB.out))
       (case side3=>repeat(first|exact(Kd.R_reads' HO146.out).2.2|(with_reducible refine Kd.C_alloc ?_ _)|(with_reducible refine Kd.C_drewN ?_ _)|(with_reducible refine Kd.C_drew ?_)))
       (case side4=>exact(Kd.R_reads' HO146.out).2.1)
       (case side5=>exact far_slice (IsS45.own_ne HI0.out HO146.out (by decide)))
       rintro e w59 ⟨rfl,hi,hb,hk⟩
       refine⟨_,rfl,?_⟩
       have n0_:=am (Kd.R_mono (Kd.R_keep (IsS45.apart (show IsS45 w0 _ g s0_0 t136 t137 from by repeat(first|(with_reducible first|exact HI0.out|apply IsS45.alloc|apply IsS45.drewN|apply IsS45.drew|apply IsS45.set_1|apply IsS45.set_2|refine IsS45.far ?_ NB0_115.out _|refine IsS45.far ?_ NB0_122.out _)|exact HI0.out)) (rup HO_123001.out) (by decide)) hk (fun _ h=>h.2)) (fun _ h=>h.1))
       have n1_:=am (KeepBut.blk hk (g':=gb115) (o := .cells #[.int .i64 0,.slice none 0 0] 26 (0,0)) (bup BK115.out) NB115_0.out (by simp))
       have n2_:=am (KeepBut.blk hk (g':=gb122) (o := .cells #[.int .i64 t119,u123001] 26 (0,0)) (bup BK122.out) NB122_0.out (by simp))
       have n3_:=am (Kd.R_mono (Kd.R_keep (IsS45.apart (show IsS45 w0 _ g s0_0 t136 t137 from by repeat(first|(with_reducible first|exact HI0.out|apply IsS45.alloc|apply IsS45.drewN|apply IsS45.drew|apply IsS45.set_1|apply IsS45.set_2|refine IsS45.far ?_ NB0_115.out _|refine IsS45.far ?_ NB0_122.out _)|exact HI0.out)) (rup HO146.out) (by decide)) hk (fun _ h=>h.2)) (fun _ h=>h.1))
       have n4_:=am (KeepBut.trans (by repeat(first|(with_reducible first|exact HK.out|apply KeepBut.set_|apply keep_drewN|apply keep_drew|apply keep_alloc|refine keep_far ?_ GW115.out _|refine keep_far ?_ GW122.out _)|exact HK.out)) hk (.inl rfl))
       have n5_:=am (hb)
       have n6_:=am (hi)
       clear HO_123001
       clear BK115
       clear BK122
       clear HO146
       clear HK
       clear HB
       clear HI0
       have HO_123001:=n0_
       have BK115:=n1_
       have BK122:=n2_
       have HO146:=n3_
       have HK:=n4_
       have HB:=n5_
       have HI0:=n6_
       clear n0_ n1_ n2_ n3_ n4_ n5_ n6_
       (try clear hb)
       (try clear hb2)
       (try clear hk)
       (try clear hi)
       refine hK.out _ _ ⟨(blk_cell BK122.out 0).trans rfl,(blk_cell BK122.out 1).trans rfl⟩ (fun hHeld=>?_)
       clear hK K
       refine norm_ (a':=?_) ?_ ?_
       rotate_left
       ·show Act.put _ (some 44) _=_
        simp only[Act.put,List.setIfInBounds_toArray,List.set_cons_zero,List.set_cons_succ,i64_w,i32_w]
        rfl
       refine one_ (i:=7) (N:=some 45) #[true,true,true,true,true,true,true,true,false,false,false] rfl rfl (one_of HT_.out (by kernel_rfl)) (by decide) (fun K hK=>?_)
       refine value_ (w1:=?_) (v:=?_) (by rfl) rfl ?_ ?_
       rotate_left 2
       ·go_simp
        constructor
        ·rfl
        ·rfl
       refine hK.out _ _ ⟨(blk_cell (bA_ BK122.out _) 0).trans rfl,(blk_cell (bA_ BK122.out _) 1).trans rfl⟩ (fun hHeld=>?_)
       clear hK K
       refine norm_ (a':=?_) ?_ ?_
       rotate_left
       ·show Act.put _ (some 45) _=_
        simp only[Act.put,List.setIfInBounds_toArray,List.set_cons_zero,List.set_cons_succ,i64_w,i32_w]
        rfl
       refine one_ (i:=8) (N:=some 46) #[true,true,true,true,true,true,true,true,true,false,false] rfl rfl (one_of HT_.out (by kernel_rfl)) (by decide) (fun K hK=>?_)
       refine Kd.R_append_step (Kd.int .i64) w.heap.size (by rfl) (.tmp 39) (.tmp 45) 24 3 (.int .i64 0) 8 rfl Try.underlying24 info3 rfl (by decide) (by omega) u123001 x123001_1 t147 [.int .i64 t147] (fun k_=>some k_≠(.slice Ao58 y144.length co58:Value).ownBlock) (fun _=>False) rfl rfl ?aP (fun _ hk=>hk.elim) ?aF ?aO (Below.refl _ _) ?aS ?aL ?_
       (case aP=>exact rfl)
       (case aF=>exact(fun k_ hk=>Kd.fresh' (Kd.R_lt (rup HO146.out)) k_ hk))
       (case aO=>exact(rup (Kd.R_mono HO_123001.out (fun _ hk=>hk.2))))
       (case aS=>exact(keep_size (w:=w) (g:=g) (row:=none) (by repeat(first|(with_reducible first|exact HK.out|apply KeepBut.set_|apply keep_drewN|apply keep_drew|apply keep_alloc|refine keep_far ?_ GW115.out _|refine keep_far ?_ GW122.out _)|exact HK.out))))
       (case aL=>have:=LMc50.out;omega)
       intro v151 w60 ho hb hg hat
       rw[← Ny150.out] at ho
       have n0_:=am (blk_grown (bup BK115.out) hg (Kd.R_ne HO_123001.out BK115.out (by decide)))
       have n1_:=am (blk_grown (bup BK122.out) hg (Kd.R_ne HO_123001.out BK122.out (by decide)))
       have n2_:=am (IsS45.grown (by repeat(first|(with_reducible first|exact HI0.out|apply IsS45.alloc|apply IsS45.drewN|apply IsS45.drew|apply IsS45.set_1|apply IsS45.set_2|refine IsS45.far ?_ NB0_115.out _|refine IsS45.far ?_ NB0_122.out _)|exact HI0.out)) hg (IsS45.own_ne HI0.out HO_123001.out (by decide)))
       have n3_:=am (Kd.R_after (ok:=(fun _=>True)) (rup HO146.out) hg hat)
       have n4_:=am (below_weaken (by repeat(first|(with_reducible first|exact HB.out|apply below_alloc|apply pw_below_drewN|apply below_drew1|refine below_set ?_ (IsS45.ge HI0.out)|refine below_set ?_ GE115.out|refine below_set ?_ GE122.out)|exact HB.out)) HL.out hb)
       have n5_:=am (KeepBut.trans (by repeat(first|(with_reducible first|exact HK.out|apply KeepBut.set_|apply keep_drewN|apply keep_drew|apply keep_alloc|refine keep_far ?_ GW115.out _|refine keep_far ?_ GW122.out _)|exact HK.out)) (KeepBut.of_grown hg g) (Kd.R_base2 HO_123001.out))
       have n6_:=am (ho)
       clear BK115
       clear BK122
       clear HI0
       clear HO146
       clear HB
       clear HK
       clear HO_123001
       have BK115:=n0_
       have BK122:=n1_
       have HI0:=n2_
       have HO146:=n3_
       have HB:=n4_
       have HK:=n5_
       have HO152:=n6_
       clear n0_ n1_ n2_ n3_ n4_ n5_ n6_
       clear ho hb hg hat
       obtain⟨Ao61,co61,eo61⟩:=Kd.R_slice HO152.out
       (first|subst eo61|(injection eo61 with f1_ f2_ f3_;have f4_:=f1_.symm;have f5_:=f3_.symm;clear f1_ f2_ f3_;subst f4_;subst f5_))
       refine hK.out _ _ ⟨(blk_cell BK122.out 0).trans rfl,(blk_cell BK122.out 1).trans rfl⟩ (fun hHeld=>?_)
       clear hK K
       refine norm_ (a':=?_) ?_ ?_
       rotate_left
       ·show Act.put _ (some 46) _=_
        simp only[Act.put,List.setIfInBounds_toArray,List.set_cons_zero,List.set_cons_succ,i64_w,i32_w]
        rfl
       refine pure_ (i:=9) (N:=some 47) (v:=?_) (a':=?_) #[true,true,true,true,true,true,true,true,true,true,false] rfl rfl (any_of HT_.out (by kernel_rfl)) (fun _ _ _ h=>h) (Or.inl ⟨by rfl,?_⟩) ?_ ?_
       rotate_left
       ·intro w'
        go_simp
        with_reducible rfl
       rotate_left
       ·simp only[Act.put,List.setIfInBounds_toArray,List.set_cons_zero,List.set_cons_succ,i64_w,i32_w]
        rfl
       refine last_ (i:=10) (N:=none) #[true,true,true,true,true,true,true,true,true,true,true] rfl rfl (one_of HT_.out (by kernel_rfl)) (by decide) (fun K hK=>?_)
       have hs62:w60.cell? ⟨gb122,1,none⟩=some (u123001):=(blk_cell BK122.out 1).trans rfl
       have hfs62:=blk_frozen BK122.out 1
       have hns62_0:=NB115_122.out
       have hms62_0:=NB122_115.out
       refine skip_ (w1:=?_) (by rfl) rfl ?_ ?_
       rotate_left
       ·go_simp
        rfl
       refine hK.out _ _ ?_
       clear hK K
       refine done_ (done_of HT_.out (by kernel_rfl)) ?_
       have hcz63_0:w60.cell? ⟨gb122,0,none⟩=some (.int .i64 t119):=(blk_cell BK122.out 0).trans rfl
       have hcz63_1:w60.cell? ⟨gb122,1,none⟩=some (u123001):=(blk_cell BK122.out 1).trans rfl
       have hfz63_0:=blk_frozen BK122.out 0
       have hfz63_1:=blk_frozen BK122.out 1
       have hnb64:=NB115_0.out
       have hnc64:=NB0_115.out
       have hcz65_0:w60.cell? ⟨gb115,0,none⟩=some (.int .i64 0):=(blk_cell BK115.out 0).trans rfl
       have hcz65_1:w60.cell? ⟨gb115,1,none⟩=some (.slice none 0 0):=(blk_cell BK115.out 1).trans rfl
       have hfz65_0:=blk_frozen BK115.out 0
       have hfz65_1:=blk_frozen BK115.out 1
       try go_wp2
       refine bodyPost_ret (results_cell_row rfl _ _ gb115 26 #[.int .i64 t119,.slice Ao61 y150.length co61] (0,0) _ rfl (by(with_reducible repeat(first|refine bN_ ?_ _|refine bD_ ?_|refine bA_ ?_ _));refine blk_put (cs := #[.int .i64 t119,.slice none 0 0]) ?_ 1 _ rfl;(with_reducible repeat(first|refine bN_ ?_ _|refine bD_ ?_|refine bA_ ?_ _));refine blk_put (cs := #[.int .i64 0,.slice none 0 0]) ?_ 0 _ rfl;(with_reducible repeat(first|refine bN_ ?_ _|refine bD_ ?_|refine bA_ ?_ _));refine blk_far ?_ NB115_122.out _;exact bup BK115.out) Try.underlying26 rfl (by kernel_rfl)) rfl ?_
       exact⟨_,fin1,rup (Kd.R_mono (Kd.R_far (p:=⟨gb115,1,none⟩) (Kd.R_far (p:=⟨gb115,0,none⟩) (Kd.R_far (p:=⟨gb122,1,none⟩) (Kd.R_types (Kd.R_types HO152.out BK122.out (by decide)) BK115.out (by decide)) (fun _ hk=>hk.1.2) (.slice Ao61 y150.length co61)) (fun _ hk=>hk.2) (.int .i64 t119)) (fun _ hk=>hk.2) (.slice Ao61 y150.length co61)) (fun _ hk=>trivial)),by repeat(first|(with_reducible first|exact HI0.out|apply IsS45.alloc|apply IsS45.drewN|apply IsS45.drew|apply IsS45.set_1|apply IsS45.set_2|refine IsS45.far ?_ NB0_115.out _|refine IsS45.far ?_ NB0_122.out _)|exact HI0.out),by repeat(first|(with_reducible first|exact HB.out|apply below_alloc|apply pw_below_drewN|apply below_drew1|refine below_set ?_ (IsS45.ge HI0.out)|refine below_set ?_ GE115.out|refine below_set ?_ GE122.out)|exact HB.out),by repeat(first|(with_reducible first|exact HK.out|apply KeepBut.set_|apply keep_drewN|apply keep_drew|apply keep_alloc|refine keep_far ?_ GW115.out _|refine keep_far ?_ GW122.out _)|exact HK.out)⟩
      ·rw[if_neg c50] at H
       exact absurd H (by simp)
     ·rw[if_neg c48] at H
      have c48b0:(t135 == 1)=false:=beq_eq_false_iff_ne.mpr c48
      have c48b1:(t135 != 1)=true:=bne_iff_ne.mpr c48
      simp only[Option.some.injEq,Prod.mk.injEq] at H
      obtain⟨rfl,rfl,rfl,rfl⟩:=H
      have hnb66:=NB122_115.out
      have hnc66:=NB115_122.out
      have hnb67:=NB122_0.out
      have hnc67:=NB0_122.out
      have hcz68_0:wr.cell? ⟨gb122,0,none⟩=some (.int .i64 t119):=(blk_cell BK122.out 0).trans rfl
      have hcz68_1:wr.cell? ⟨gb122,1,none⟩=some (u123001):=(blk_cell BK122.out 1).trans rfl
      have hfz68_0:=blk_frozen BK122.out 0
      have hfz68_1:=blk_frozen BK122.out 1
      go_wp2_with (first|((with_reducible refine gate_callee (f:=36) rfl ?_);refine goesL_ (some 29) rfl rfl Try.func36 (by kernel_rfl) rfl #[.pointer (some ⟨g,0,none⟩),.int .i64 30] rfl tl ?_;(with_reducible refine(spec_l1Cur_pick.calls g s0_0 x1001_1 x1002_1 30 t135 t136 t137 w0 _ ?side1 ?side2 A33.out).mono ?_);(case side1=>repeat(first|(with_reducible first|exact HI0.out|apply IsS45.alloc|apply IsS45.drewN|apply IsS45.drew|apply IsS45.set_1|apply IsS45.set_2|refine IsS45.far ?_ NB0_115.out _|refine IsS45.far ?_ NB0_122.out _)|exact HI0.out));(case side2=>repeat(first|(with_reducible first|exact HB.out|apply below_alloc|apply pw_below_drewN|apply below_drew1|refine below_set ?_ (IsS45.ge HI0.out)|refine below_set ?_ GE115.out|refine below_set ?_ GE122.out)|exact HB.out));rintro e w69 ⟨rfl,hi,hb,hk⟩;refine⟨_,rfl,?_⟩;have n0_:=am (Kd.R_mono (Kd.R_keep (IsS45.apart (show IsS45 w0 _ g s0_0 x1001_1 x1002_1 from by repeat(first|(with_reducible first|exact HI0.out|apply IsS45.alloc|apply IsS45.drewN|apply IsS45.drew|apply IsS45.set_1|apply IsS45.set_2|refine IsS45.far ?_ NB0_115.out _|refine IsS45.far ?_ NB0_122.out _)|exact HI0.out)) (rup HO_123001.out) (by decide)) hk (fun _ h=>h.2)) (fun _ h=>h.1));have n1_:=am (KeepBut.blk hk (g':=gb115) (o := .cells #[.int .i64 0,.slice none 0 0] 26 (0,0)) (bup BK115.out) NB115_0.out (by simp));have n2_:=am (KeepBut.blk hk (g':=gb122) (o := .cells #[.int .i64 t119,u123001] 26 (0,0)) (bup BK122.out) NB122_0.out (by simp));have n3_:=am (KeepBut.trans (by repeat(first|(with_reducible first|exact HK.out|apply KeepBut.set_|apply keep_drewN|apply keep_drew|apply keep_alloc|refine keep_far ?_ GW115.out _|refine keep_far ?_ GW122.out _)|exact HK.out)) hk (.inl rfl));have n4_:=am (hb);have n5_:=am (hi);clear HO_123001 BK115 BK122 HK HB HI0;have HO_123001:=n0_;have BK115:=n1_;have BK122:=n2_;have HK:=n3_;have HB:=n4_;have HI0:=n5_;clear n0_ n1_ n2_ n3_ n4_ n5_;(try clear hb);(try clear hb2);(try clear hk);(try clear hi);have hcz70_0:w69.cell? ⟨gb122,0,none⟩=some (.int .i64 t119):=(blk_cell BK122.out 0).trans rfl;have hcz70_1:w69.cell? ⟨gb122,1,none⟩=some (u123001):=(blk_cell BK122.out 1).trans rfl;have hfz70_0:=blk_frozen BK122.out 0;have hfz70_1:=blk_frozen BK122.out 1;have hnb71:=NB115_0.out;have hnc71:=NB0_115.out;have hcz72_0:w69.cell? ⟨gb115,0,none⟩=some (.int .i64 0):=(blk_cell BK115.out 0).trans rfl;have hcz72_1:w69.cell? ⟨gb115,1,none⟩=some (.slice none 0 0):=(blk_cell BK115.out 1).trans rfl;have hfz72_0:=blk_frozen BK115.out 0;have hfz72_1:=blk_frozen BK115.out 1;obtain⟨Ao73,co73,eo73⟩:=Kd.R_slice HO_123001.out;subst eo73))
      refine bodyPost_ret (results_cell_row rfl _ _ gb115 26 #[.int .i64 t119,.slice Ao73 x123001_1.length co73] (0,0) _ rfl (by(with_reducible repeat(first|refine bN_ ?_ _|refine bD_ ?_|refine bA_ ?_ _));refine blk_put (cs := #[.int .i64 t119,.slice none 0 0]) ?_ 1 _ rfl;(with_reducible repeat(first|refine bN_ ?_ _|refine bD_ ?_|refine bA_ ?_ _));refine blk_put (cs := #[.int .i64 0,.slice none 0 0]) ?_ 0 _ rfl;exact bup BK115.out) Try.underlying26 rfl (by kernel_rfl)) rfl ?_
      exact⟨_,fin1,rup (Kd.R_mono (Kd.R_far (p:=⟨gb115,1,none⟩) (Kd.R_far (p:=⟨gb115,0,none⟩) (Kd.R_types HO_123001.out BK115.out (by decide)) (fun _ hk=>hk.2) (.int .i64 t119)) (fun _ hk=>hk.2) (.slice Ao73 x123001_1.length co73)) (fun _ hk=>trivial)),by repeat(first|(with_reducible first|exact HI0.out|apply IsS45.alloc|apply IsS45.drewN|apply IsS45.drew|apply IsS45.set_1|apply IsS45.set_2|refine IsS45.far ?_ NB0_115.out _|refine IsS45.far ?_ NB0_122.out _)|exact HI0.out),by repeat(first|(with_reducible first|exact HB.out|apply below_alloc|apply pw_below_drewN|apply below_drew1|refine below_set ?_ (IsS45.ge HI0.out)|refine below_set ?_ GE115.out|refine below_set ?_ GE122.out)|exact HB.out),by repeat(first|(with_reducible first|exact HK.out|apply KeepBut.set_|apply keep_drewN|apply keep_drew|apply keep_alloc|refine keep_far ?_ GW115.out _|refine keep_far ?_ GW122.out _)|exact HK.out)⟩

/-! ### spec_DrawTurnPattern: function 5 -/
def spec_DrawTurnPattern.f (k:Nat) (l0:List Int):Option (Int×List Int×Int):=(spec_l1Cur_pattern.f k l0 0 0).bind fun bt155=>((spec_l1Cur_among.f l0 bt155.2.2.1 bt155.2.2.2 (([25,(-1)]:List Int))).bind fun bt164=>((spec_l1Cur_among.f l0 bt164.2.1 bt164.2.2 (([0,1,2,7,24,bt164.1]:List Int))).bind fun bt170=>(some (bt155.1,bt155.2.1,bt170.1))))
set_option maxHeartbeats 8000000 in
set_option maxRecDepth 100000 in
theorem spec_DrawTurnPattern.calls (k:Nat) (A0:Option Addr) (c0:Nat) (l0:List Int) (r1:Int) (r2:List Int) (r3:Int) (w:World) (hr0:Kd.C (Kd.int .u8) w A0 l0.length l0) (hc0:l0.length≤c0) (h:spec_DrawTurnPattern.f k l0=some (r1,r2,r3)) :
  Calls Try.prog 5 #[.slice A0 l0.length c0] w fun e w'=>∃ v1_:Value,e = .returned (.tuple #[.agg #[.int .i64 r1,v1_],.int .i64 r3])∧Kd.R (Kd.int .i64) 3 w' w.heap.size (fun _=>True) v1_ r2∧Below w.heap.size w w':=by
 have hu26:=Try.underlying26
 have hu45:=Try.underlying45
 have HR0:=am hr0
 have HC0:=am hc0
 clear hr0 hc0
 have HB:=am (Below.refl w.heap.size w)
 have H:((spec_l1Cur_pattern.f k l0 0 0).bind fun bt155=>((spec_l1Cur_among.f l0 bt155.2.2.1 bt155.2.2.2 (([25,(-1)]:List Int))).bind fun bt164=>((spec_l1Cur_among.f l0 bt164.2.1 bt164.2.2 (([0,1,2,7,24,bt164.1]:List Int))).bind fun bt170=>(some (bt155.1,bt155.2.1,bt170.1)))))=some (r1,r2,r3):=h
 clear h
 replace H:=Option.bind_eq_some_iff.mp H
 obtain⟨⟨t155,t156,t159,t160⟩,A20,H⟩:=H
 replace H:((spec_l1Cur_among.f l0 t159 t160 (([25,(-1)]:List Int))).bind fun bt164=>((spec_l1Cur_among.f l0 bt164.2.1 bt164.2.2 (([0,1,2,7,24,bt164.1]:List Int))).bind fun bt170=>(some (t155,t156,bt170.1))))=some (r1,r2,r3):=H
 have A2:=am A20
 clear A20
 obtain⟨y161,hy161⟩:∃ y_:List Int,y_=(([25,(-1)]:List Int)):=⟨_,rfl⟩
 replace H:((spec_l1Cur_among.f l0 t159 t160 y161).bind fun bt164=>((spec_l1Cur_among.f l0 bt164.2.1 bt164.2.2 (([0,1,2,7,24,bt164.1]:List Int))).bind fun bt170=>(some (t155,t156,bt170.1))))=some (r1,r2,r3):=by first|(rw[hy161];with_reducible exact H)|(have H2_:=(Option.bind_some _ _).symm.trans H;rw[hy161];with_reducible exact H2_)|(have H2_:=(Option.bind_some _ _).symm.trans H;with_reducible exact H2_)|with_reducible exact H|(rw[hy161];exact H)|exact H
 have Ny161:=am hy161
 clear hy161
 replace H:=Option.bind_eq_some_iff.mp H
 obtain⟨⟨t164,t165,t166⟩,A30,H⟩:=H
 replace H:((spec_l1Cur_among.f l0 t165 t166 (([0,1,2,7,24,t164]:List Int))).bind fun bt170=>(some (t155,t156,bt170.1)))=some (r1,r2,r3):=H
 have A3:=am A30
 clear A30
 obtain⟨y167,hy167⟩:∃ y_:List Int,y_=(([0,1,2,7,24,t164]:List Int)):=⟨_,rfl⟩
 replace H:((spec_l1Cur_among.f l0 t165 t166 y167).bind fun bt170=>(some (t155,t156,bt170.1)))=some (r1,r2,r3):=by first|(rw[hy167];with_reducible exact H)|(have H2_:=(Option.bind_some _ _).symm.trans H;rw[hy167];with_reducible exact H2_)|(have H2_:=(Option.bind_some _ _).symm.trans H;with_reducible exact H2_)|with_reducible exact H|(rw[hy167];exact H)|exact H
 have Ny167:=am hy167
 clear hy167
 replace H:=Option.bind_eq_some_iff.mp H
 obtain⟨⟨t170,t171,t172⟩,A40,H⟩:=H
 replace H:(some (t155,t156,t170))=some (r1,r2,r3):=H
 have A4:=am A40
 clear A40
 simp only[Option.some.injEq,Prod.mk.injEq] at H
 obtain⟨rfl,rfl,rfl⟩:=H
 go_enter Try.func5,Try.ntmps5
 go_wp2_with (first|((with_reducible refine gate_dst (N:=2) rfl ?_);refine box_event ?hg (N:=2) ?hd (cs := #[.int .i64 0,.slice none 0 0]) (t:=26) ?hr ?_;(case hd=>rfl);(case hg=>rfl);(case hr=>first|(go_simp;done)|(go_simp;rfl));intro gb153 hg w5 hbox hb;have n0_:=am (below_step bl hb);have n1_:=am (hbox);have n2_:=am (ge_ bl hg);have n3_:=am (ge_ bl hg);clear HB;have HB:=n0_;have BK153:=n1_;have GW153:=n2_;have GE153:=n3_;clear n0_ n1_ n2_ n3_ hb hbox hg)|((with_reducible refine gate_dst (N:=7) rfl ?_);refine box_event ?hg (N:=7) ?hd (cs := #[.slice A0 l0.length c0,.int .i64 0,.int .u64 0]) (t:=45) ?hr ?_;(case hd=>rfl);(case hg=>rfl);(case hr=>first|(go_simp;done)|(go_simp;rfl));intro gb154 hg w6 hbox hb;have n0_:=am (blk_below (bup BK153.out) hb);have n1_:=am (below_step bl hb);have n2_:=am (hbox);have n3_:=am (ge_ bl hg);have n4_:=am (ge_ bl hg);have n5_:=am (nl (bup BK153.out) hg);have n6_:=am (ng (bup BK153.out) hg);have n7_:=am ((show IsS45 w w6 gb154 l0 0 0 from⟨_,_,hbox,(by rw[hg];exact(below_size bl):w.heap.size≤gb154),HR0.out⟩));clear BK153 HB;have BK153:=n0_;have HB:=n1_;have BK154:=n2_;have GW154:=n3_;have GE154:=n4_;have NB153_154:=n5_;have NB154_153:=n6_;have HI154:=n7_;clear n0_ n1_ n2_ n3_ n4_ n5_ n6_ n7_ hb hbox hg)|((with_reducible refine gate_callee (f:=20) rfl ?_);refine goesL_ (some 9) rfl rfl Try.func20 (by kernel_rfl) rfl #[.pointer (some ⟨gb154,0,none⟩)] rfl tl ?_;(with_reducible refine(spec_l1Cur_pattern.calls k gb154 l0 0 0 t155 t156 t159 t160 w _ ?side1 ?side2 A2.out).mono ?_);(case side1=>repeat(first|(with_reducible first|exact HI154.out|apply IsS45.alloc|apply IsS45.drewN|apply IsS45.drew|apply IsS45.set_1|apply IsS45.set_2|refine IsS45.far ?_ NB154_153.out _)|exact HI154.out));(case side2=>repeat(first|(with_reducible first|exact HB.out|apply below_alloc|apply pw_below_drewN|apply below_drew1|refine below_set ?_ (IsS45.ge HI154.out)|refine below_set ?_ GE153.out)|exact HB.out));rintro e w7 ⟨v157,rfl,ho0,hi,hb,hk⟩;refine⟨_,rfl,?_⟩;have n0_:=am (KeepBut.blk hk (g':=gb153) (o := .cells #[.int .i64 0,.slice none 0 0] 26 (0,0)) (bup BK153.out) NB153_154.out (by simp));have n1_:=am (Kd.R_lower ho0 (below_size (by repeat(first|(with_reducible first|exact HB.out|apply below_alloc|apply pw_below_drewN|apply below_drew1|refine below_set ?_ (IsS45.ge HI154.out)|refine below_set ?_ GE153.out)|exact HB.out))));have n2_:=am (hb);have n3_:=am (hi);clear BK153 HB HI154;have BK153:=n0_;have HO158:=n1_;have HB:=n2_;have HI154:=n3_;clear n0_ n1_ n2_ n3_;(try clear hb);(try clear hb2);(try clear hk);(try clear hi);(try clear ho0))|((with_reducible refine gate_dst (N:=12) rfl ?_);refine Kd.R_lit (Kd.int .i64) _ 3 ?hg (N:=12) ?hd (xs:=([25,(-1)]:List Int)) (inner:=[.int .i64 25,.int .i64 (-1)]) (ok:=fun _=>True) (okp:=fun _=>True) ?hr ?hp (fun _ hk=>hk) trivial (Below.refl _ _) (Nat.le_refl _) (by simp) ?_;(case hd=>rfl);(case hg=>rfl);(case hr=>first|(go_simp;done)|(go_simp;rfl));(case hp=>exact(Reps.one (show Kd.M (Kd.int .i64) _ _ _ 25 [.int .i64 25] from rfl) (Reps.one (show Kd.M (Kd.int .i64) _ _ _ (-1) [.int .i64 (-1)] from rfl) (Reps.none _ _))));intro v162 w8 ho9 hb hg_ hnew_;clear hg_ hnew_;(first|rw[← Ny161.out] at ho9|(simp only[Int.reduceToNat] at ho9;rw[← Ny161.out] at ho9));have n0_:=am (Kd.R_elder' (rup HO158.out) (Kd.R_base ho9) hb);have n1_:=am (Kd.R_lower (Kd.R_new' ho9 (Kd.R_lt (rup HO158.out))) (below_size (by repeat(first|(with_reducible first|exact HB.out|apply below_alloc|apply pw_below_drewN|apply below_drew1|refine below_set ?_ (IsS45.ge HI154.out)|refine below_set ?_ GE153.out)|exact HB.out))));have n2_:=am (blk_below (bup BK153.out) hb);have n3_:=am (IsS45.below (by repeat(first|(with_reducible first|exact HI154.out|apply IsS45.alloc|apply IsS45.drewN|apply IsS45.drew|apply IsS45.set_1|apply IsS45.set_2|refine IsS45.far ?_ NB154_153.out _)|exact HI154.out)) hb);have n4_:=am (below_step (by repeat(first|(with_reducible first|exact HB.out|apply below_alloc|apply pw_below_drewN|apply below_drew1|refine below_set ?_ (IsS45.ge HI154.out)|refine below_set ?_ GE153.out)|exact HB.out)) hb);clear HO158 BK153 HI154 HB;have HO158:=n0_;have HO163:=n1_;have BK153:=n2_;have HI154:=n3_;have HB:=n4_;clear n0_ n1_ n2_ n3_ n4_ hb ho9;obtain⟨Ao10,co10,eo10⟩:=Kd.R_slice HO163.out;subst eo10)|((with_reducible refine gate_callee (f:=21) rfl ?_);refine goesL_ (some 13) rfl rfl Try.func21 (by kernel_rfl) rfl #[.pointer (some ⟨gb154,0,none⟩),.slice Ao10 y161.length co10] rfl tl ?_;(with_reducible refine(spec_l1Cur_among.calls gb154 l0 t159 t160 _ _ y161 t164 t165 t166 w _ ?side1 ?side2 ?side3 ?side4 ?side5 A3.out).mono ?_);(case side1=>repeat(first|(with_reducible first|exact HI154.out|apply IsS45.alloc|apply IsS45.drewN|apply IsS45.drew|apply IsS45.set_1|apply IsS45.set_2|refine IsS45.far ?_ NB154_153.out _)|exact HI154.out));(case side2=>repeat(first|(with_reducible first|exact HB.out|apply below_alloc|apply pw_below_drewN|apply below_drew1|refine below_set ?_ (IsS45.ge HI154.out)|refine below_set ?_ GE153.out)|exact HB.out));(case side3=>repeat(first|exact(Kd.R_reads' HO163.out).2.2|(with_reducible refine Kd.C_alloc ?_ _)|(with_reducible refine Kd.C_drewN ?_ _)|(with_reducible refine Kd.C_drew ?_)));(case side4=>exact(Kd.R_reads' HO163.out).2.1);(case side5=>exact far_slice (IsS45.own_ne HI154.out HO163.out (by decide)));rintro e w11 ⟨rfl,hi,hb,hk⟩;refine⟨_,rfl,?_⟩;have n0_:=am (KeepBut.blk hk (g':=gb153) (o := .cells #[.int .i64 0,.slice none 0 0] 26 (0,0)) (bup BK153.out) NB153_154.out (by simp));have n1_:=am (Kd.R_mono (Kd.R_keep (IsS45.apart (show IsS45 w _ gb154 l0 t159 t160 from by repeat(first|(with_reducible first|exact HI154.out|apply IsS45.alloc|apply IsS45.drewN|apply IsS45.drew|apply IsS45.set_1|apply IsS45.set_2|refine IsS45.far ?_ NB154_153.out _)|exact HI154.out)) (rup HO158.out) (by decide)) hk (fun _ h=>h.2)) (fun _ h=>h.1));have n2_:=am (Kd.R_mono (Kd.R_keep (IsS45.apart (show IsS45 w _ gb154 l0 t159 t160 from by repeat(first|(with_reducible first|exact HI154.out|apply IsS45.alloc|apply IsS45.drewN|apply IsS45.drew|apply IsS45.set_1|apply IsS45.set_2|refine IsS45.far ?_ NB154_153.out _)|exact HI154.out)) (rup HO163.out) (by decide)) hk (fun _ h=>h.2)) (fun _ h=>h.1));have n3_:=am (hb);have n4_:=am (hi);clear BK153 HO158 HO163 HB HI154;have BK153:=n0_;have HO158:=n1_;have HO163:=n2_;have HB:=n3_;have HI154:=n4_;clear n0_ n1_ n2_ n3_ n4_;(try clear hb);(try clear hb2);(try clear hk);(try clear hi))|((with_reducible refine gate_dst (N:=14) rfl ?_);refine Kd.R_lit (Kd.int .i64) _ 3 ?hg (N:=14) ?hd (xs:=([0,1,2,7,24,t164]:List Int)) (inner:=[.int .i64 0,.int .i64 1,.int .i64 2,.int .i64 7,.int .i64 24,.int .i64 t164]) (ok:=fun _=>True) (okp:=fun _=>True) ?hr ?hp (fun _ hk=>hk) trivial (Below.refl _ _) (Nat.le_refl _) (by simp) ?_;(case hd=>rfl);(case hg=>rfl);(case hr=>first|(go_simp;done)|(go_simp;rfl));(case hp=>exact(Reps.one (show Kd.M (Kd.int .i64) _ _ _ 0 [.int .i64 0] from rfl) (Reps.one (show Kd.M (Kd.int .i64) _ _ _ 1 [.int .i64 1] from rfl) (Reps.one (show Kd.M (Kd.int .i64) _ _ _ 2 [.int .i64 2] from rfl) (Reps.one (show Kd.M (Kd.int .i64) _ _ _ 7 [.int .i64 7] from rfl) (Reps.one (show Kd.M (Kd.int .i64) _ _ _ 24 [.int .i64 24] from rfl) (Reps.one (show Kd.M (Kd.int .i64) _ _ _ t164 [.int .i64 t164] from rfl) (Reps.none _ _))))))));intro v168 w12 ho13 hb hg_ hnew_;clear hg_ hnew_;(first|rw[← Ny167.out] at ho13|(simp only[Int.reduceToNat] at ho13;rw[← Ny167.out] at ho13));have n0_:=am (Kd.R_elder' (rup HO158.out) (Kd.R_base ho13) hb);have n1_:=am (Kd.R_elder' (rup HO163.out) (Kd.R_base ho13) hb);have n2_:=am (Kd.R_lower (Kd.R_new' (Kd.R_new' ho13 (Kd.R_lt (rup HO158.out))) (Kd.R_lt (rup HO163.out))) (below_size (by repeat(first|(with_reducible first|exact HB.out|apply below_alloc|apply pw_below_drewN|apply below_drew1|refine below_set ?_ (IsS45.ge HI154.out)|refine below_set ?_ GE153.out)|exact HB.out))));have n3_:=am (blk_below (bup BK153.out) hb);have n4_:=am (IsS45.below (by repeat(first|(with_reducible first|exact HI154.out|apply IsS45.alloc|apply IsS45.drewN|apply IsS45.drew|apply IsS45.set_1|apply IsS45.set_2|refine IsS45.far ?_ NB154_153.out _)|exact HI154.out)) hb);have n5_:=am (below_step (by repeat(first|(with_reducible first|exact HB.out|apply below_alloc|apply pw_below_drewN|apply below_drew1|refine below_set ?_ (IsS45.ge HI154.out)|refine below_set ?_ GE153.out)|exact HB.out)) hb);clear HO158 HO163 BK153 HI154 HB;have HO158:=n0_;have HO163:=n1_;have HO169:=n2_;have BK153:=n3_;have HI154:=n4_;have HB:=n5_;clear n0_ n1_ n2_ n3_ n4_ n5_ hb ho13;obtain⟨Ao14,co14,eo14⟩:=Kd.R_slice HO169.out;subst eo14)|((with_reducible refine gate_callee (f:=21) rfl ?_);refine goesL_ (some 15) rfl rfl Try.func21 (by kernel_rfl) rfl #[.pointer (some ⟨gb154,0,none⟩),.slice Ao14 y167.length co14] rfl tl ?_;(with_reducible refine(spec_l1Cur_among.calls gb154 l0 t165 t166 _ _ y167 t170 t171 t172 w _ ?side1 ?side2 ?side3 ?side4 ?side5 A4.out).mono ?_);(case side1=>repeat(first|(with_reducible first|exact HI154.out|apply IsS45.alloc|apply IsS45.drewN|apply IsS45.drew|apply IsS45.set_1|apply IsS45.set_2|refine IsS45.far ?_ NB154_153.out _)|exact HI154.out));(case side2=>repeat(first|(with_reducible first|exact HB.out|apply below_alloc|apply pw_below_drewN|apply below_drew1|refine below_set ?_ (IsS45.ge HI154.out)|refine below_set ?_ GE153.out)|exact HB.out));(case side3=>repeat(first|exact(Kd.R_reads' HO169.out).2.2|(with_reducible refine Kd.C_alloc ?_ _)|(with_reducible refine Kd.C_drewN ?_ _)|(with_reducible refine Kd.C_drew ?_)));(case side4=>exact(Kd.R_reads' HO169.out).2.1);(case side5=>exact far_slice (IsS45.own_ne HI154.out HO169.out (by decide)));rintro e w15 ⟨rfl,hi,hb,hk⟩;refine⟨_,rfl,?_⟩;have n0_:=am (KeepBut.blk hk (g':=gb153) (o := .cells #[.int .i64 0,.slice none 0 0] 26 (0,0)) (bup BK153.out) NB153_154.out (by simp));have n1_:=am (Kd.R_mono (Kd.R_keep (IsS45.apart (show IsS45 w _ gb154 l0 t165 t166 from by repeat(first|(with_reducible first|exact HI154.out|apply IsS45.alloc|apply IsS45.drewN|apply IsS45.drew|apply IsS45.set_1|apply IsS45.set_2|refine IsS45.far ?_ NB154_153.out _)|exact HI154.out)) (rup HO158.out) (by decide)) hk (fun _ h=>h.2)) (fun _ h=>h.1));have n2_:=am (Kd.R_mono (Kd.R_keep (IsS45.apart (show IsS45 w _ gb154 l0 t165 t166 from by repeat(first|(with_reducible first|exact HI154.out|apply IsS45.alloc|apply IsS45.drewN|apply IsS45.drew|apply IsS45.set_1|apply IsS45.set_2|refine IsS45.far ?_ NB154_153.out _)|exact HI154.out)) (rup HO163.out) (by decide)) hk (fun _ h=>h.2)) (fun _ h=>h.1));have n3_:=am (Kd.R_mono (Kd.R_keep (IsS45.apart (show IsS45 w _ gb154 l0 t165 t166 from by repeat(first|(with_reducible first|exact HI154.out|apply IsS45.alloc|apply IsS45.drewN|apply IsS45.drew|apply IsS45.set_1|apply IsS45.set_2|refine IsS45.far ?_ NB154_153.out _)|exact HI154.out)) (rup HO169.out) (by decide)) hk (fun _ h=>h.2)) (fun _ h=>h.1));have n4_:=am (hb);have n5_:=am (hi);clear BK153 HO158 HO163 HO169 HB HI154;have BK153:=n0_;have HO158:=n1_;have HO163:=n2_;have HO169:=n3_;have HB:=n4_;have HI154:=n5_;clear n0_ n1_ n2_ n3_ n4_ n5_;(try clear hb);(try clear hb2);(try clear hk);(try clear hi);have hnb16:=NB153_154.out;have hnc16:=NB154_153.out;have hcz17_0:w15.cell? ⟨gb153,0,none⟩=some (.int .i64 0):=(blk_cell BK153.out 0).trans rfl;have hcz17_1:w15.cell? ⟨gb153,1,none⟩=some (.slice none 0 0):=(blk_cell BK153.out 1).trans rfl;have hfz17_0:=blk_frozen BK153.out 0;have hfz17_1:=blk_frozen BK153.out 1;obtain⟨Ao18,co18,eo18⟩:=Kd.R_slice HO158.out;subst eo18))
 refine bodyPost_ret (results_ct rfl _ _ gb153 26 #[.int .i64 t155,.slice Ao18 t156.length co18] (0,0) _ rfl (by(with_reducible repeat(first|refine bN_ ?_ _|refine bD_ ?_|refine bA_ ?_ _));refine blk_put (cs := #[.int .i64 t155,.slice none 0 0]) ?_ 1 _ rfl;(with_reducible repeat(first|refine bN_ ?_ _|refine bD_ ?_|refine bA_ ?_ _));refine blk_put (cs := #[.int .i64 0,.slice none 0 0]) ?_ 0 _ rfl;exact bup BK153.out) Try.underlying26 rfl (by kernel_rfl)) rfl ?_
 exact⟨_,fin1,rup (Kd.R_mono (Kd.R_far (p:=⟨gb153,1,none⟩) (Kd.R_far (p:=⟨gb153,0,none⟩) (Kd.R_types HO158.out BK153.out (by decide)) (fun _ hk=>hk.2) (.int .i64 t155)) (fun _ hk=>hk.2) (.slice Ao18 t156.length co18)) (fun _ hk=>trivial)),by repeat(first|(with_reducible first|exact HB.out|apply below_alloc|apply pw_below_drewN|apply below_drew1|refine below_set ?_ (IsS45.ge HI154.out)|refine below_set ?_ GE153.out)|exact HB.out)⟩

end Go.Proofs.Ytlhjjpdlfddflac.PFnDrums
