/- The walks of functions that FnExactRepairToPlay reaches: what they return is what the plain functions of the same names say. Laid by a program of this session after the kit's print. No conditions beyond the arguments' being read. -/
import Derived.Test.YthmpginbaafbhaaSRepairToPlay0
import Derived.Test.YthmpginbaafbhaaSRepairToPlay7
import Derived.Test.YthmpginbaafbhaaSRepairToPlay15
import Derived.Test.YthmpginbaafbhaaSRepairToPlay16
import Derived.Test.YthmpginbaafbhaaSRepairToPlay17
namespace Go.Proofs.Ythmpginbaafbhaa.PFnExactRepairToPlay
open Go.RowKit Go.Proofs.YthmpginbaafbhaaW.PrintWords Go.Proofs.YthmpginbaafbhaaW.PrintLast Go.Proofs.YthmpginbaafbhaaW.PrintMore
attribute [local go_sem] max2_int min2_int max_two min_two max_three min_three max_four min_four   -- for this text's walks alone
set_option linter.unusedVariables false
set_option linter.unusedSimpArgs false

def impl_Hole.f (l0:List (S51)):Option (List (S51)):=if l0.length<5864062014806 then some l0 else none
set_option maxHeartbeats 8000000 in
set_option maxRecDepth 100000 in
theorem impl_Hole.calls (A0:Option Addr) (c0:Nat) (l0:List (S51)) (r:List (S51)) (w:World) (hr0:Kd.C k51 w A0 l0.length l0) (hc0:l0.length≤c0) (h:impl_Hole.f l0=some r) :
  Calls Try.prog 69 #[.slice A0 l0.length c0] w fun e w'=>∃ v0_:Value,e = .returned (v0_)∧Kd.R k51 51 w' w.heap.size (fun _=>True) v0_ r∧Below w.heap.size w w':=by
 have hlt:l0.length<5864062014806:=by
  by_cases c:l0.length<5864062014806
  ·exact c
  ·rw[impl_Hole.f,if_neg c] at h;cases h
 rw[impl_Hole.f,if_pos hlt] at h
 obtain rfl:=Option.some.inj h
 clear h
 have HL:=am hlt
 have HR0:=am hr0
 have HB:=am (Below.refl w.heap.size w)
 have hq:∀(w:World) (a:Option Addr) (l c:Nat),(binOp .eql 34 (.slice a l c) (.slice none 0 0)).run Try.prog w = .ok (.bool a.isNone) w:=fun w a l c=>Go.Lib.run_eql_slice_nil w _ _ a l c _ _ Try.underlying34
 rcases A0 with _|ad
 ·have h0:l0=[]:=by
   rcases Nat.eq_zero_or_pos l0.length with h0|h0
   ·exact List.eq_nil_of_length_eq_zero h0
   ·obtain⟨ad,h,_⟩:=hr0.2.2 h0
    cases h
  subst h0
  clear hr0 hlt hc0
  go_enter Try.func69,Try.ntmps69
  go_wp2
  go_ret
  exact⟨_,rfl,Kd.R_nil _ _ _ _ _,HB.out⟩
 ·clear hr0 hlt hc0
  go_enter Try.func69,Try.ntmps69
  go_wp2_with (first|((with_reducible refine gate_dst (N:=5) rfl ?_);refine Kd.R_lit k51 _ 51 ?hg (N:=5) ?hd (xs:=([]:List (S51))) (inner:=[]) (ok:=fun _=>True) (okp:=fun _=>True) ?hr ?hp (fun _ hk=>hk) trivial (Below.refl _ _) (Nat.le_refl _) (by simp) ?_;(case hd=>rfl);(case hg=>rfl);(case hr=>first|(go_simp;done)|(go_simp;rfl));(case hp=>exact(Reps.none _ _));intro v115 w15 ho16 hb hg_ hnew_;clear hg_ hnew_;have HO116:=am (Kd.R_lower ho16 (below_size HB.out));replace HB:=am (below_step HB.out hb);clear hb ho16)|((with_reducible refine gate_builtin (b := .append) (xs := #[.tmp 5,.tmp 6]) rfl ?_);at_builtin;refine Kd.R_append_rows k51 (w0:=w) w.heap.size rfl (.tmp 5) (.tmp 6) 34 51 (.agg #[(.int .i64 0),(.int .i64 0),(.int .i64 0)]) 24 rfl Try.underlying34 info51 rfl (by decide) (by omega) v115 [] l0 _ _ _ (fun _=>True) (fun _=>False) rfl rfl ?aO ?aR (fun _ _ h=>h) (fun _ h=>h.elim) ?aF ?aB ?aS ?aL ?_;(case aR=>exact(Kd.C_below HR0.out HB.out));(case aB=>exact HB.out);(case aF=>exact(fun _ _=>trivial));(case aO=>exact HO116.out);(case aS=>exact(below_size HB.out));(case aL=>have:=HL.out;simp only[List.length_nil];omega);intro v118 w17 ho hb hg hat;replace HB:=am (hb);have HO119:=am (ho);clear HO116 ho hb hg hat))
  go_ret
  exact⟨_,rfl,HO119.out,HB.out⟩

namespace shs
open Go.Sort Go.Shelf Go.Lib Go.RowKit Go.Proofs.Ythmpginbaafbhaa.PStab.stab stab
shelf_lay LaysGt.n8 Ggt 8 at Try as lay8
noncomputable def siT:TypeInfo:=(Try.prog.info? 34).get (by kernel_rfl)
noncomputable def siE:TypeInfo:=(Try.prog.info? 51).get (by kernel_rfl)
theorem siK (n:Nat) (h2:2≤n):Lib.swapperK n siE 25=9:=by
 have a:siE.hasPointers=false:=by kernel_rfl
 have b:siE.bytes=24:=by kernel_rfl
 have c:(n == 0)=false:=by simp;omega
 have d:(n == 1)=false:=by simp;omega
 simp [Lib.swapperK,a,b,c,d]
theorem holdsH {W:World} {g:Nat} {dk:Array S51} (h:HoldsK encH 3 W g 0 dk) (t:Nat) (ht:t<dk.size) :
  W.cell? ⟨g,t*3,none⟩=some (.int .i64 dk[t]!.f0)∧W.cell? ⟨g,t*3+1,none⟩=some (.int .i64 dk[t]!.f1)∧W.cell? ⟨g,t*3+2,none⟩=some (.int .i64 dk[t]!.f2):=by
 have h0:=(h.cell (i:=t) (c:=0) ht (by omega)).1
 have h1:=(h.cell (i:=t) (c:=1) ht (by omega)).1
 have h2:=(h.cell (i:=t) (c:=2) ht (by omega)).1
 simp only[Nat.zero_add,Nat.add_zero] at h0 h1 h2
 exact⟨h0,h1,h2⟩
set_option maxHeartbeats 4000000 in
set_option maxRecDepth 100000 in
theorem sort.calls (g c Bs:Nat) (d:Array S51) (w:World) (hH:HoldsK encH 3 w g 0 d) (hg:g<w.heap.size) (hbox:w.cell? ⟨Bs,0,none⟩=some (.slice (some ⟨g,0,none⟩) d.size c)) (hne:Bs≠g) (h2:2≤d.size) (hsm:d.size<1000000) :
  Calls Try.prog 70 #[.iface 34 (.slice (some ⟨g,0,none⟩) d.size c),.func (.func 71) #[] #[.pointer (some ⟨Bs,0,none⟩)]] w fun e w'=>e = .returned (.tuple #[])∧∃ d',SWK encH 3 w g 0 d' w'∧PermIn 0 d.size d d'∧SortedIn ltH 0 d.size d':=by
 have main:=Any.sort_SliceStable_of_stable lay8 34 51 siT siE (by kernel_rfl) (by kernel_rfl) (by kernel_rfl) (by kernel_rfl) 25 (fun _=>by kernel_rfl) (some ⟨g,0,none⟩) d.size c (by omega) 93 (by rw[siK _ h2];kernel_rfl) (.func 71) #[] #[.pointer (some ⟨Bs,0,none⟩)] w (fun w'=>∃ d',SWK encH 3 w g 0 d' w'∧PermIn 0 d.size d d'∧SortedIn ltH 0 d.size d') ?_
 ·exact main
 have hB:sliceBound Try.prog 51 siE 25 (some ⟨g,0,none⟩) d.size c = #[.slice (some ⟨g,0,none⟩) d.size c,typeHandle Try.prog 51]:=by
  unfold sliceBound;rw[if_neg (swapperK_gt _ _ _ h2)]
 rw[hB]
 generalize hs0:stableWorld Try.prog _ 34 (some ⟨g,0,none⟩) d.size c w=w0
 have HS0:SWK encH 3 w g 0 d w0:=by rw[← hs0];unfold stableWorld;exact((SWK.start hH).alloc _).alloc _
 have hH0:=HS0.holds hg hH rfl
 have hBs:Bs<w.heap.size:=World.block_lt_of_cell? w _ hbox
 have D:Dat encH 3 ltH 71 #[.pointer (some ⟨Bs,0,none⟩)] 93 #[.slice (some ⟨g,0,none⟩) d.size c,typeHandle Try.prog 51] g 0 d.size w0:=by
  refine⟨fun _=>rfl,enters_of Try.func71 (by kernel_rfl) rfl,fun W' dk hS hk i j hi hj=>?_,?_,HS0.lt hg,by omega⟩
  ·have hHd:=hS.holds (HS0.lt hg) hH0 hk
   have hs:W'.cell? ⟨Bs,0,none⟩=some (.slice (some ⟨g,0,none⟩) d.size c):=by
    rw[swk_cell hS ⟨Bs,0,none⟩ (Nat.lt_of_lt_of_le hBs HS0.le) hne,swk_cell HS0 ⟨Bs,0,none⟩ hBs hne];exact hbox
   have hl:=stab.less.calls g c Bs d.size W' (fun t=>dk[t]!) hs (fun t ht=>holdsH hHd t (by omega)) i j hi hj
   refine hl.mono ?_
   rintro e w' ⟨rfl,m,os,rfl⟩
   exact⟨rfl,m,os,by unfold sortWorldK;rw[putRowK_self encH 3 _ g 0 dk (holdsK_ahead encH 3 W' m g 0 dk hHd)]⟩
  ·exact swapSwapsK_of_literal false 93 (fun args W=>run_callFunc_extern Try.func93 (by kernel_rfl) (by kernel_rfl) (by kernel_rfl) (e:=Extern.ReflectliteSwapper.swap false) (by kernel_rfl) args W) 51 siE (by kernel_rfl) encH 3 (fun _=>rfl) (by kernel_rfl) (fun _=>by kernel_rfl) (fun x v hv=>by simp [encH] at hv;rcases hv with rfl|rfl|rfl<;>rfl) g 0 d.size c
 refine(stable.calls swoH D hH0 rfl).mono ?_
 rintro e w' ⟨rfl,d',q1,q2,q3⟩
 exact⟨rfl,d',swk_comp HS0 hg q1 q2.1,q2,q3⟩
end shs
namespace shs
open Go.Sort Go.Shelf Go.Lib Go.RowKit Go.Proofs.Ythmpginbaafbhaa.PStab.stab stab
def keyH (x:S51):Int×Int:=(x.f1,x.f0)
def sortH (l:List S51):List S51:=l.mergeSort (fun x y=>!ltH y x)
theorem strictH {l:List S51} (h:l.Pairwise fun x y=>ltH y x=false) (hk:(l.map keyH).Nodup):l.Pairwise fun x y=>ltH x y=true:=by
 have h2:l.Pairwise fun x y=>keyH x≠keyH y:=List.pairwise_map.1 hk
 refine(h.and h2).imp (fun {x y} hx=>?_)
 obtain⟨q1,q2⟩:=hx
 simp only[ltH,decide_eq_false_iff_not,decide_eq_true_eq] at q1 ⊢
 by_cases e:x.f1=y.f1
 ·have:x.f0≠y.f0:=fun e2=>q2 (by unfold keyH;rw[e,e2])
  omega
 ·omega
theorem uniqH:∀(l1 l2:List S51),l1.Perm l2→l1.Pairwise (fun x y=>ltH x y=true)→l2.Pairwise (fun x y=>ltH x y=true)→l1=l2
 | [],l2,hp,_,_=>(List.Perm.nil_eq hp)
 | x :: xs,[],hp,_,_=>absurd hp.length_eq (by simp)
 | x :: xs,y :: ys,hp,h1,h2=>by
  by_cases e:x=y
  ·subst e
   rw[uniqH xs ys (List.Perm.cons_inv hp) (List.Pairwise.of_cons h1) (List.Pairwise.of_cons h2)]
  ·have hx:x∈ys:=by
    have:x∈y :: ys:=hp.mem_iff.1 List.mem_cons_self
    rcases List.mem_cons.1 this with h|h
    ·exact absurd h e
    ·exact h
   have hy:y∈xs:=by
    have:y∈x :: xs:=hp.mem_iff.2 List.mem_cons_self
    rcases List.mem_cons.1 this with h|h
    ·exact absurd h.symm e
    ·exact h
   have a:=(List.pairwise_cons.1 h1).1 y hy
   have b:=(List.pairwise_cons.1 h2).1 x hx
   rw[swoH.asymmA a] at b
   cases b
theorem sortH_perm (l:List S51):(sortH l).Perm l:=List.mergeSort_perm _ _
theorem sortH_sorted (l:List S51):(sortH l).Pairwise fun x y=>ltH y x=false:=by
 have h:=List.pairwise_mergeSort (le:=fun x y:S51=>!ltH y x) (fun a b c h1 h2=>by
  simp only[Bool.not_eq_true'] at *
  exact swoH.ntrans _ _ _ h2 h1) (fun a b=>by
  cases h:ltH b a with
  | false=>simp
  | true=>simp [swoH.asymmA h]) l
 exact h.imp (fun {x y} h=>by simpa using h)
theorem sortH_eq {l l2:List S51} (hp:l2.Perm l) (hk:(l.map keyH).Nodup) (hs:l2.Pairwise fun x y=>ltH y x=false):l2=sortH l :=
 uniqH _ _ (hp.trans (sortH_perm l).symm) (strictH hs ((hp.map keyH).nodup_iff.2 hk)) (strictH (sortH_sorted l) (((sortH_perm l).map keyH).nodup_iff.2 hk))
theorem sortH_len (l:List S51):(sortH l).length=l.length:=(sortH_perm l).length_eq
theorem pair_of {d:Array S51} (h:SortedIn ltH 0 d.size d):d.toList.Pairwise fun x y=>ltH y x=false:=by
 refine List.pairwise_iff_getElem.2 (fun i j hi hj hij=>?_)
 have:=h i j (Nat.zero_le _) hij (by simpa using hj)
 rw[getElem!_pos d i (by simpa using hi),getElem!_pos d j (by simpa using hj)] at this
 simpa using this
theorem perm_of {d d':Array S51} (h:PermIn 0 d.size d d'):d'.toList.Perm d.toList:=by
 have h2:=h.2.2
 have e1:d'.extract 0 d.size=d':=by rw[← h.1];simp
 have e2:d.extract 0 d.size=d:=by simp
 rw[e1,e2] at h2
 exact h2
/-- What the cells of a row of holes are. -/
def cellsH (l:List S51):List Value:=l.flatMap encH
theorem flat_eq (l:List S51):(flatK encH 3 l.toArray).toList=cellsH l:=by
 refine List.ext_getElem? (fun t=>?_)
 have hl:(cellsH l).length=l.length*3:=by
  unfold cellsH
  induction l with
  | nil=>rfl
  | cons x xs ih=>rw[List.flatMap_cons,List.length_append,ih,List.length_cons];show 3+_=_;omega
 by_cases ht:t<l.length*3
 ·have h1:=get_flatK encH 3 l.toArray t (by simpa using ht)
  rw[getElem!_pos (flatK encH 3 l.toArray) t (by rw[size_flatK];simpa using ht)] at h1
  rw[List.getElem?_eq_getElem (by rw[Array.length_toList,size_flatK];simpa using ht),Array.getElem_toList,h1]
  have h3:t / 3<l.length:=by omega
  rw[getElem!_pos l.toArray (t / 3) (by simpa using h3)]
  have key:∀(l:List S51) (t:Nat) (h:t / 3<l.length),(cellsH l)[t]?=some (encH l[t / 3])[t % 3]! := by
   intro l
   induction l with
   | nil=>intro t h;simp at h
   | cons x xs ih =>
    intro t h
    unfold cellsH
    rw[List.flatMap_cons]
    by_cases c:t<3
    ·have hd:t / 3=0:=by omega
     have hm:t % 3=t:=by omega
     rw[List.getElem?_append_left (by exact c),hm]
     have e:(x :: xs)[t / 3]=x:=by simp [hd]
     rw[e]
     rcases(by omega:t=0∨t=1∨t=2) with rfl|rfl|rfl<;>rfl
    ·rw[List.getElem?_append_right (by show 3≤t;omega)]
     have hq:=ih (t - 3) (by rw[List.length_cons] at h;omega)
     unfold cellsH at hq
     show(List.flatMap encH xs)[t - 3]?=_
     rw[hq]
     have e:(x :: xs)[t / 3]=xs[(t - 3) / 3]'(by rw[List.length_cons] at h;omega):=by
      have:t / 3=(t - 3) / 3+1:=by omega
      simp [this]
     rw[e,show(t - 3) % 3=t % 3 by omega]
  rw[key l t h3]
  simp
 ·rw[List.getElem?_eq_none (by rw[Array.length_toList,size_flatK];simp;omega),List.getElem?_eq_none (by rw[hl];omega)]
theorem reps_cells {w:World} {base:Nat} {ok:Nat→Prop} (l:List S51):Reps (k51.M w base ok) 3 l (cellsH l):=by
 have key:∀ xs ys:List S51,Reps (k51.M w base ok) 3 ys (cellsH ys)→Reps (k51.M w base ok) 3 (ys ++ xs) (cellsH (ys ++ xs)):=by
  intro xs
  induction xs with
  | nil=>intro ys h;rwa [List.append_nil]
  | cons x xs ih =>
   intro ys h
   have e:cellsH (ys ++ [x])=cellsH ys ++ encH x:=by unfold cellsH;rw[List.flatMap_append];simp
   have h2:=ih (ys ++ [x]) (by rw[e];exact h.snoc (k51_mkM _ _ _ x) rfl)
   rwa [List.append_assoc] at h2
 exact key l [] (Reps.none _ _)
theorem cells_reps {w:World} {base:Nat} {ok:Nat→Prop} {l:List S51} {cs:List Value} (h:Reps (k51.M w base ok) 3 l cs):cs=cellsH l:=by
 obtain⟨h1,h2⟩:=h
 have h3:=reps_cells (w:=w) (base:=base) (ok:=ok) l
 refine List.ext_getElem? (fun t=>?_)
 by_cases ht:t<l.length*3
 ·have hq:t / 3<l.length:=by omega
  have a:=k51_openM (h2 (t / 3) _ (List.getElem?_eq_getElem hq))
  have b:=k51_openM (h3.2 (t / 3) _ (List.getElem?_eq_getElem hq))
  have c:((cs.drop (t / 3*3)).take 3)[t % 3]?=(((cellsH l).drop (t / 3*3)).take 3)[t % 3]?:=by rw[a,b]
  rw[List.getElem?_take_of_lt (by omega),List.getElem?_take_of_lt (by omega),List.getElem?_drop,List.getElem?_drop] at c
  rwa [show t / 3*3+t % 3=t by omega] at c
 ·rw[List.getElem?_eq_none (by omega),List.getElem?_eq_none (by rw[h3.1];omega)]
theorem heap_sort {w:World} {g m:Nat} {os:Array Obj} {cur:Array Value} {e:TypeId} {fr:Nat×Nat} (F:Array Value) (hb:w.heap[g]?=some (.cells cur e fr)) :
  (grow (putRow id (Go.Sort.ahead w m) g 0 F) os).heap[g]?=some (.cells (putCells id 0 F cur) e fr):=by
 have hg:g<w.heap.size:=(Array.getElem?_eq_some_iff.1 hb).1
 rw[heap_grow_old _ _ (by simpa using hg)]
 simp [putRow,mapBlock,Go.Sort.ahead,Array.getElem?_modify,hb,onCells]
theorem grown_sort {w:World} {g m:Nat} {os:Array Obj} (F:Array Value):w.grownBy (grow (putRow id (Go.Sort.ahead w m) g 0 F) os) (some g):=by
 refine⟨rfl,rfl,rfl,by simp,fun k hk hne=>?_⟩
 rw[heap_grow_old _ _ (by simpa using hk)]
 have:g≠k:=fun e=>hne (by rw[e])
 simp [putRow,mapBlock,Go.Sort.ahead,Array.getElem?_modify,this]
theorem take_sort (cur F:Array Value) (h:F.size≤cur.size):(putCells id 0 F cur).toList.take F.size=F.toList:=by
 apply List.ext_getElem?
 intro j
 by_cases hj:j<F.size
 ·rw[List.getElem?_take_of_lt hj,Array.getElem?_toList]
  simp [putCells,hj,show j<cur.size by omega]
 ·rw[List.getElem?_take_eq_none (by omega),List.getElem?_eq_none (by simp;omega)]
theorem holds_of {w:World} {g:Nat} {cur F:Array Value} {e:TypeId} (hb:w.heap[g]?=some (.cells cur e (0,0))) (ht:cur.toList.take F.size=F.toList):Holds id w g 0 F:=by
 intro j hj
 refine⟨?_,by simp [World.frozen?,hb]⟩
 have h1:(cur.toList.take F.size)[j]?=F.toList[j]?:=by rw[ht]
 rw[List.getElem?_take_of_lt hj] at h1
 simp only[World.cell?,hb,Nat.zero_add]
 simp only[Option.isSome_none,Bool.false_eq_true,if_false]
 rw[← Array.getElem?_toList,h1]
 simp [hj]
set_option maxHeartbeats 4000000 in
/-- sort.SliceStable of a row of one's own, no two of its holes with the same key: the sorted row. -/
theorem row.calls (l:List S51) (v:Value) (w:World) (base:Nat) (ok:Nat→Prop) (Bs:Nat) (hR:Kd.R k51 51 w base ok v l) (hbox:w.cell? ⟨Bs,0,none⟩=some v) (hne:v.ownBlock≠some Bs) (hk:(l.map keyH).Nodup) (hsm:l.length<1000000) :
  Calls Try.prog 70 #[.iface 34 v,.func (.func 71) #[] #[.pointer (some ⟨Bs,0,none⟩)]] w fun e w'=>e = .returned (.tuple #[])∧Kd.R k51 51 w' base ok v (sortH l)∧∃ row,w.grownBy w' row∧(row=none∨row=v.ownBlock):=by
 obtain⟨A,c,hv,hlc,hC⟩:=Kd.R_reads hR
 have tiny:l.length≤1→sortH l=l:=fun h=>by
  have hp:=sortH_perm l
  rcases l with _|⟨x,_|⟨y,ys⟩⟩
  ·exact List.Perm.eq_nil hp
  ·exact List.perm_singleton.1 hp
  ·simp at h
 have bel:∀ os,Below w.heap.size w (grow w os):=fun os=>⟨rfl,rfl,rfl,by simp,fun k hk=>heap_grow_old _ _ hk⟩
 have grw_:∀ os,w.grownBy (grow w os) none:=fun os=>⟨rfl,rfl,rfl,by simp,fun k hk _=>heap_grow_old _ _ hk⟩
 by_cases h0:l.length=0
 ·subst hv
  refine(Any.sort_SliceStable_tiny lay8 34 51 siT siE (by kernel_rfl) (by kernel_rfl) (by kernel_rfl) (by kernel_rfl) 25 (fun _=>by kernel_rfl) A l.length c (by omega) 85 (by rw[h0];kernel_rfl) (.func 71) #[] _ w).mono ?_
  rintro e w' ⟨rfl,os,rfl⟩
  rw[tiny (by omega)]
  exact⟨rfl,Kd.R_below hR (bel os),none,grw_ os,.inl rfl⟩
 ·by_cases h1:l.length=1
  ·subst hv
   refine(Any.sort_SliceStable_tiny lay8 34 51 siT siE (by kernel_rfl) (by kernel_rfl) (by kernel_rfl) (by kernel_rfl) 25 (fun _=>by kernel_rfl) A l.length c (by omega) 86 (by rw[h1];kernel_rfl) (.func 71) #[] _ w).mono ?_
   rintro e w' ⟨rfl,os,rfl⟩
   rw[tiny (by omega)]
   exact⟨rfl,Kd.R_below hR (bel os),none,grw_ os,.inl rfl⟩
  ·clear hv hlc hC tiny bel grw_
   obtain⟨hok,inner,hown,hreps⟩:=hR
   have hin:=cells_reps hreps
   subst hin
   rcases hown.2 with⟨rfl,hn0⟩|⟨g,cap,cur,rfl,hbase,hb,q1,q2,q3,q4⟩
   ·exact absurd hn0 h0
   ·have hg:g<w.heap.size:=(Array.getElem?_eq_some_iff.1 hb).1
    have hF:(flatK encH 3 l.toArray).size=l.length*3:=by rw[size_flatK];simp
    have hH:HoldsK encH 3 w g 0 l.toArray:=holds_of hb (by rw[hF,flat_eq];exact q4)
    have hs:=sort.calls g cap Bs l.toArray w hH hg (by simpa using hbox) (fun e=>hne (by simp [Value.ownBlock,e])) (by simp;omega) (by simpa using hsm)
    simp only[List.size_toArray] at hs
    refine hs.mono ?_
    rintro e w' ⟨rfl,d',⟨m,os,rfl⟩,hP,hS⟩
    have hz:d'.size=l.length:=by simpa using hP.1
    have hd:d'=(sortH l).toArray:=by
     have hp:=perm_of (d:=l.toArray) (by simpa using hP)
     have h2:=sortH_eq (l:=l) (l2:=d'.toList) (by simpa using hp) hk (pair_of (by rw[hz];exact hS))
     rw[← h2]
    subst hd
    have hF2:(flatK encH 3 (sortH l).toArray).size=l.length*3:=by rw[size_flatK];simp [sortH_len]
    have hgr:=grown_sort (w:=w) (g:=g) (m:=m) (os:=os) (flatK encH 3 (sortH l).toArray)
    refine⟨rfl,⟨hok,cellsH (sortH l),?_,reps_cells _⟩,some g,hgr,.inr (by simp [Value.ownBlock])⟩
    rw[sortH_len]
    refine⟨?_,.inr ⟨g,cap,_,rfl,hbase,heap_sort _ hb,q1,q2,?_,?_⟩⟩
    ·rw[(reps_cells (w:=w) (base:=base) (ok:=ok) (sortH l)).1,sortH_len];rfl
    ·simp [putCells,q3]
    ·rw[← flat_eq]
     show List.take (l.length*3) _=_
     rw[← hF2]
     exact take_sort cur _ (by rw[hF2,q3];exact Nat.mul_le_mul_right 3 q1)
end shs
def impl_sheetOf.f (k:Nat) (l0:List S51):Option (List S51×Bool) :=
 if 60<(l0.length:Int) then some ([],false) else if(l0.map shs.keyH).Nodup then(impl_IsSheet.f k (shs.sortH l0)).bind fun q=>some (if q=true then(shs.sortH l0,true) else([],false)) else none
set_option maxHeartbeats 8000000 in
set_option maxRecDepth 100000 in
theorem impl_sheetOf.calls (k:Nat) (A0:Option Addr) (c0:Nat) (l0:List S51) (r1:List S51) (r2:Bool) (w:World) (hr0:Kd.C k51 w A0 l0.length l0) (hc0:l0.length≤c0) (h:impl_sheetOf.f k l0=some (r1,r2)) :
  Calls Try.prog 51 #[.slice A0 l0.length c0] w fun e w'=>∃ v0_:Value,e = .returned (.tuple #[v0_,.bool r2])∧Kd.R k51 51 w' w.heap.size (fun _=>True) v0_ r1∧Below w.heap.size w w':=by
 unfold impl_sheetOf.f at h
 have HR0:=am hr0
 have HC0:=am hc0
 clear hr0 hc0
 by_cases hl:60<(l0.length:Int)
 ·rw[if_pos hl] at h
  cases h
  go_enter Try.func51,Try.ntmps51
  go_wp2
  go_ret2
  exact⟨_,rfl,Kd.R_nil _ _ _ _ _,Below.refl _ _⟩
 ·rw[if_neg hl] at h
  by_cases hk:(l0.map shs.keyH).Nodup
  ·rw[if_pos hk] at h
   obtain⟨q,hq,h⟩:=Option.bind_eq_some_iff.1 h
   have HK:=am hk
   have HQ:=am hq
   have HL:=am (show l0.length≤60 from by omega)
   have HCL:=am (show impl_Hole.f l0=some l0 from by unfold impl_Hole.f;rw[if_pos (by omega)])
   clear hk hq
   cases q with
   | false =>
    cases h
    go_enter Try.func51,Try.ntmps51
    go_wp2_with (first|((with_reducible refine gate_callee (f:=69) rfl ?_);refine goesL_ (some 9) rfl rfl Try.func69 (by kernel_rfl) rfl #[.slice A0 l0.length c0] rfl (by(try simp only[List.map_toArray,List.map_cons,List.map_nil]);first|done|rfl) ?_;(with_reducible refine(impl_Hole.calls _ _ l0 _ _ ?side1 ?side2 HCL.out).mono ?_);(case side1=>exact HR0.out);(case side2=>exact HC0.out);rintro e w1 ⟨v1,rfl,ho,hb⟩;refine⟨_,rfl,?_⟩;obtain⟨A1,c1,e1⟩:=Kd.R_slice ho;subst e1;have HO:=am ho;have HBW:=am hb;have HBD:=am (Kd.R_bound ho).1;clear ho hb)|(go_at_call 70;(refine(shs.row.calls l0 (.slice A1 l0.length c1) _ w.heap.size (fun _=>True) w1.heap.size ?hR ?hbox ?hne HK.out ?hsm).mono ?_);(case hR=>exact Kd.R_below HO.out (below_alloc (Below.refl _ _) _));(case hbox=>simp);(case hne=>exact fun e_=>absurd (HBD.out _ e_).2.2.1 (Nat.lt_irrefl _));(case hsm=>have:=HL.out;omega);rintro e w3 ⟨rfl,hr,row,hgr,hrow⟩;have hbox3:w3.cell? ⟨w1.heap.size,0,none⟩=some (.slice A1 l0.length c1):=(by rw[World.cell?_of_block (hgr.block w1.heap.size (by simp) (fun e_=>by rcases hrow with h_|h_<;>rw[h_] at e_<;>first|exact absurd (HBD.out _ e_.symm).2.2.1 (Nat.lt_irrefl _)|cases e_))];simp);have HB3:=am (show Below w.heap.size w w3 from Below.grown (below_alloc HBW.out _) hgr (Nat.le_trans HBW.out.size (by simp)) (fun k_ e_=>by rcases hrow with h_|h_<;>rw[h_] at e_<;>first|exact(HBD.out _ e_).2.1|cases e_));have HR3:=am hr;have hls:=(Kd.R_reads' hr);have HRC:=am hls;have HSZ:=am (show w1.heap.size<w3.heap.size from World.block_lt_of_cell? w3 _ hbox3);clear hr hgr hrow hls)|(go_at_call 47;(have hIS:=impl_IsSheet.calls k A1 c1 (shs.sortH l0) false w3 HRC.out.2.2 (by have:=HRC.out.1;have:=HRC.out.2.1;omega) HQ.out);rw[shs.sortH_len] at hIS;refine hIS.mono ?_;rintro e w4 ⟨rfl,hb⟩;have hbox4:=(hb.cell (p:=⟨w1.heap.size,0,none⟩) HSZ.out).trans hbox3;have HR4:=am (Kd.R_below HR3.out hb);have HBF:=am (below_step HB3.out hb);clear hb hIS))
    go_ret2
    exact⟨_,rfl,Kd.R_nil _ _ _ _ _,HBF.out⟩
   | true =>
    cases h
    go_enter Try.func51,Try.ntmps51
    go_wp2_with (first|((with_reducible refine gate_callee (f:=69) rfl ?_);refine goesL_ (some 9) rfl rfl Try.func69 (by kernel_rfl) rfl #[.slice A0 l0.length c0] rfl (by(try simp only[List.map_toArray,List.map_cons,List.map_nil]);first|done|rfl) ?_;(with_reducible refine(impl_Hole.calls _ _ l0 _ _ ?side1 ?side2 HCL.out).mono ?_);(case side1=>exact HR0.out);(case side2=>exact HC0.out);rintro e w1 ⟨v1,rfl,ho,hb⟩;refine⟨_,rfl,?_⟩;obtain⟨A1,c1,e1⟩:=Kd.R_slice ho;subst e1;have HO:=am ho;have HBW:=am hb;have HBD:=am (Kd.R_bound ho).1;clear ho hb)|(go_at_call 70;(refine(shs.row.calls l0 (.slice A1 l0.length c1) _ w.heap.size (fun _=>True) w1.heap.size ?hR ?hbox ?hne HK.out ?hsm).mono ?_);(case hR=>exact Kd.R_below HO.out (below_alloc (Below.refl _ _) _));(case hbox=>simp);(case hne=>exact fun e_=>absurd (HBD.out _ e_).2.2.1 (Nat.lt_irrefl _));(case hsm=>have:=HL.out;omega);rintro e w3 ⟨rfl,hr,row,hgr,hrow⟩;have hbox3:w3.cell? ⟨w1.heap.size,0,none⟩=some (.slice A1 l0.length c1):=(by rw[World.cell?_of_block (hgr.block w1.heap.size (by simp) (fun e_=>by rcases hrow with h_|h_<;>rw[h_] at e_<;>first|exact absurd (HBD.out _ e_.symm).2.2.1 (Nat.lt_irrefl _)|cases e_))];simp);have HB3:=am (show Below w.heap.size w w3 from Below.grown (below_alloc HBW.out _) hgr (Nat.le_trans HBW.out.size (by simp)) (fun k_ e_=>by rcases hrow with h_|h_<;>rw[h_] at e_<;>first|exact(HBD.out _ e_).2.1|cases e_));have HR3:=am hr;have hls:=(Kd.R_reads' hr);have HRC:=am hls;have HSZ:=am (show w1.heap.size<w3.heap.size from World.block_lt_of_cell? w3 _ hbox3);clear hr hgr hrow hls)|(go_at_call 47;(have hIS:=impl_IsSheet.calls k A1 c1 (shs.sortH l0) true w3 HRC.out.2.2 (by have:=HRC.out.1;have:=HRC.out.2.1;omega) HQ.out);rw[shs.sortH_len] at hIS;refine hIS.mono ?_;rintro e w4 ⟨rfl,hb⟩;have hbox4:=(hb.cell (p:=⟨w1.heap.size,0,none⟩) HSZ.out).trans hbox3;have HR4:=am (Kd.R_below HR3.out hb);have HBF:=am (below_step HB3.out hb);clear hb hIS))
    go_ret2
    exact⟨_,rfl,HR4.out,HBF.out⟩
  ·rw[if_neg hk] at h
   cases h


def impl_layOut.l0:Nat→List (S51)→List (S55)→Int→Int→List Int→Int→Option ((List (S51))×Bool)
 | 0,_,_,_,_,_,_=>none
 | k+1,x6,x16,x17,x18,x431000,x431001=>if x18<x17 then(if 0≤x18 then(if x18<(x16.length:Int) then((impl_holeFor.f k x431000 x431001 ((rd_T55 x16 x18).f0) ((rd_T55 x16 x18).f1) ((rd_T55 x16 x18).f2)).bind fun bt437=>(if bt437.2.2.2=true then(if x6.length<5864062014805 then(impl_layOut.l0 k (x6 ++ [(⟨bt437.1,bt437.2.1,bt437.2.2.1⟩:S51)]) x16 x17 (wrap64 (x18+1)) x431000 x431001) else(none)) else(some (([]:List (S51)),false)))) else(none)) else(none)) else((impl_sheetOf.f k x6).bind fun bt445=>(some (bt445.1,bt445.2)))
def impl_layOut.f (k:Nat) (l0_0:List Int) (a0_1:Int) (l1:List (S55)):Option ((List (S51))×Bool):=(impl_canPlay.f k l0_0 a0_1 l1).bind fun t431=>(if t431=true then(impl_layOut.l0 k (([]:List (S51))) l1 (l1.length:Int) 0 l0_0 a0_1) else(some (([]:List (S51)),false)))
set_option maxHeartbeats 8000000 in
set_option maxRecDepth 100000 in
theorem impl_layOut.calls (k:Nat) (A0_0:Option Addr) (c0_0:Nat) (l0_0:List Int) (a0_1:Int) (A1:Option Addr) (c1:Nat) (l1:List (S55)) (r1:List (S51)) (r2:Bool) (w:World) (hr0_0:Kd.C (Kd.int .i64) w A0_0 l0_0.length l0_0) (hc0_0:l0_0.length≤c0_0) (hr1:Kd.C k55 w A1 l1.length l1) (hc1:l1.length≤c1) (h:impl_layOut.f k l0_0 a0_1 l1=some (r1,r2)) :
  Calls Try.prog 27 #[.agg #[.slice A0_0 l0_0.length c0_0,.int .i64 a0_1],.slice A1 l1.length c1] w fun e w'=>∃ v0_:Value,e = .returned (.tuple #[v0_,.bool r2])∧Kd.R k51 51 w' w.heap.size (fun _=>True) v0_ r1∧Below w.heap.size w w':=by
 have hu32:=Try.underlying32
 have hu55:=Try.underlying55
 have hu51:=Try.underlying51
 have HR0_0:=am hr0_0
 have HC0_0:=am hc0_0
 clear hr0_0 hc0_0
 have HR1:=am hr1
 have HC1:=am hc1
 clear hr1 hc1
 have HB:=am (Below.refl w.heap.size w)
 have H:((impl_canPlay.f k l0_0 a0_1 l1).bind fun t431=>(if t431=true then(impl_layOut.l0 k (([]:List (S51))) l1 (l1.length:Int) 0 l0_0 a0_1) else(some (([]:List (S51)),false))))=some (r1,r2):=h
 clear h
 replace H:=Option.bind_eq_some_iff.mp H
 obtain⟨t431,A30,H⟩:=H
 replace H:(if t431=true then(impl_layOut.l0 k (([]:List (S51))) l1 (l1.length:Int) 0 l0_0 a0_1) else(some (([]:List (S51)),false)))=some (r1,r2):=H
 have A3:=am A30
 clear A30
 by_cases c4:t431=true
 ·subst c4
  replace H:=(if_pos rfl).symm.trans H
  obtain⟨y432,hy432⟩:∃ y_:List (S51),y_=(([]:List (S51))):=⟨_,rfl⟩
  replace H:(impl_layOut.l0 k y432 l1 (l1.length:Int) 0 l0_0 a0_1)=some (r1,r2):=by subst hy432;exact H
  have Ny432:=am hy432
  clear hy432
  have H':=am H
  clear H
  go_enter Try.func27,Try.ntmps27
  go_wp2_with (first|((with_reducible refine gate_dst (N:=2) rfl ?_);refine box_event ?hg (N:=2) ?hd (cs := #[.slice A0_0 l0_0.length c0_0,.int .i64 a0_1]) (t:=32) ?hr ?_;(case hd=>rfl);(case hg=>rfl);(case hr=>first|(go_simp;done)|(go_simp;rfl));intro gb430 hg w5 hbox hb;have BK430:=am (hbox);have GW430:=am (ge_ bl hg);have GE430:=am (ge_ bl hg);replace HB:=am (below_step bl hb);clear hb hbox hg;have hcz6_0:w5.cell? ⟨gb430,0,none⟩=some (.slice A0_0 l0_0.length c0_0):=(blk_cell BK430.out 0).trans rfl;have hcz6_1:w5.cell? ⟨gb430,1,none⟩=some (.int .i64 a0_1):=(blk_cell BK430.out 1).trans rfl;have hfz6_0:=blk_frozen BK430.out 0;have hfz6_1:=blk_frozen BK430.out 1)|((with_reducible refine gate_callee (f:=49) rfl ?_);refine goesL_ (some 13) rfl rfl Try.func49 (by kernel_rfl) rfl #[.agg #[.slice A0_0 l0_0.length c0_0,.int .i64 a0_1],.slice A1 l1.length c1] rfl tl ?_;(with_reducible refine(impl_canPlay.calls k _ _ l0_0 a0_1 _ _ l1 true _ ?side1 ?side2 ?side3 ?side4 A3.out).mono ?_);(case side1=>exact cup (Kd.C_below HR0_0.out HB.out));(case side2=>exact HC0_0.out);(case side3=>exact cup (Kd.C_below HR1.out HB.out));(case side4=>exact HC1.out);rintro e w7 ⟨rfl,hb⟩;refine⟨_,rfl,?_⟩;replace BK430:=am (blk_below (bup BK430.out) hb);replace HB:=am (below_step bl hb);(try clear hb))|((with_reducible refine gate_dst (N:=15) rfl ?_);refine Kd.R_lit k51 _ 51 ?hg (N:=15) ?hd (xs:=([]:List (S51))) (inner:=[]) (ok:=fun _=>True) (okp:=fun _=>True) ?hr ?hp (fun _ hk=>hk) trivial (Below.refl _ _) (Nat.le_refl _) (by simp) ?_;(case hd=>rfl);(case hg=>rfl);(case hr=>first|(go_simp;done)|(go_simp;rfl));(case hp=>exact(Reps.none _ _));intro v433 w8 ho9 hb hg_ hnew_;clear hg_ hnew_;(first|rw[← Ny432.out] at ho9|(simp only[Int.reduceToNat] at ho9;rw[← Ny432.out] at ho9));have HO434:=am (Kd.R_lower ho9 (below_size bl));replace BK430:=am (blk_below (bup BK430.out) hb);replace HB:=am (below_step bl hb);clear hb ho9))
  go_loopg [6,18] k (fun kq v6 v18 w'=>∃(x6_1:List (S51)) (x18_1:Int),v18 = .int .i64 x18_1∧Aside0 (impl_layOut.l0 kq x6_1 l1 (l1.length:Int) x18_1 l0_0 a0_1=some (r1,r2))∧Aside0 (kq≤k)∧Aside0 (Kd.R k51 51 w' w.heap.size (fun _=>True) v6 x6_1)∧Aside0 (w'.heap[gb430]?=some (.cells #[(.slice A0_0 l0_0.length c0_0),.int .i64 a0_1] 32 (0,0)))∧Aside0 (Below w.heap.size w w'))
  case atStart=>exact⟨(y432),(0),fin2,H',⟨Nat.le_refl _⟩,⟨rup HO434.out⟩,⟨bup BK430.out⟩,⟨bl⟩⟩
  case round =>
   clear H'
   try clear c1
   try clear c2
   try clear p2
   try clear c4
   try clear hcz6_0
   try clear hcz6_1
   try clear hfz6_0
   try clear hfz6_1
   obtain⟨x6_1,x18_1,rfl,HA,HK1,HO_6,BK430,HB⟩:=hrel
   cases gk with
   | zero=>exact absurd HA.out (by simp [impl_layOut.l0])
   | succ k1 =>
    have H:=HA.out
    clear HA
    simp only[impl_layOut.l0] at H
    rcases itc H with⟨c10,H⟩|⟨c10,H⟩
    ·have c10b0:=decide_eq_true c10
     clear c10
     obtain⟨c11b0,H⟩:=ifb H
     obtain⟨c12b0,H⟩:=ifb H
     replace H:=Option.bind_eq_some_iff.mp H
     obtain⟨⟨t437,t438,t439,t440⟩,A130,H⟩:=H
     replace H:(if t440=true then(if x6_1.length<5864062014805 then(impl_layOut.l0 k1 (x6_1 ++ [(⟨t437,t438,t439⟩:S51)]) l1 (l1.length:Int) (wrap64 (x18_1+1)) l0_0 a0_1) else(none)) else(some (([]:List (S51)),false)))=some (r1,r2):=H
     have A13:=am A130
     clear A130
     by_cases c14:t440=true
     ·subst c14
      replace H:=(if_pos rfl).symm.trans H
      obtain⟨c15,H⟩:=ifp H
      have LMc15:=am c15
      clear c15
      obtain⟨y442,hy442⟩:∃ y_:List (S51),y_=(x6_1 ++ [(⟨t437,t438,t439⟩:S51)]):=⟨_,rfl⟩
      replace H:(impl_layOut.l0 k1 y442 l1 (l1.length:Int) (wrap64 (x18_1+1)) l0_0 a0_1)=some (r1,r2):=by subst hy442;exact H
      have Ny442:=am hy442
      clear hy442
      have H':=am H
      clear H
      have p435:0≤(x18_1:Int):=od
      have q435:x18_1<(l1.length:Int):=od
      obtain⟨ad435,e435,hx435_0,hx435_1,hx435_2⟩:=at_T55 HR1.out x18_1 p435 q435
      cases e435
      replace hx435_0:=(HB.out.cell (World.block_lt_of_cell? w _ hx435_0)).trans hx435_0
      replace hx435_1:=(HB.out.cell (World.block_lt_of_cell? w _ hx435_1)).trans hx435_1
      replace hx435_2:=(HB.out.cell (World.block_lt_of_cell? w _ hx435_2)).trans hx435_2
      replace p435:=eq_true p435
      replace q435:=eq_true q435
      go_wp2_with (first|((with_reducible refine gate_dst (N:=8) rfl ?_);refine box_event ?hg (N:=8) ?hd (cs := #[.int .i64 0,.int .i64 0,.int .i64 0]) (t:=55) ?hr ?_;(case hd=>rfl);(case hg=>rfl);(case hr=>first|(go_simp;done)|(go_simp;rfl));intro gb436 hg w16 hbox hb;replace HO_6:=am (Kd.R_below (rup HO_6.out) hb);have BK436:=am (hbox);have GW436:=am (ge_ bl hg);have GE436:=am (ge_ bl hg);replace HB:=am (below_step bl hb);have NB430_436:=am (nl (bup BK430.out) hg);have NB436_430:=am (ng (bup BK430.out) hg);replace BK430:=am (blk_below (bup BK430.out) hb);clear hb hbox hg;have hnb17:=NB436_430.out;have hnc17:=NB430_436.out;have hcz18_0:w16.cell? ⟨gb436,0,none⟩=some (.int .i64 0):=(blk_cell BK436.out 0).trans rfl;have hcz18_1:w16.cell? ⟨gb436,1,none⟩=some (.int .i64 0):=(blk_cell BK436.out 1).trans rfl;have hcz18_2:w16.cell? ⟨gb436,2,none⟩=some (.int .i64 0):=(blk_cell BK436.out 2).trans rfl;have hfz18_0:=blk_frozen BK436.out 0;have hfz18_1:=blk_frozen BK436.out 1;have hfz18_2:=blk_frozen BK436.out 2;have hcz19_0:w16.cell? ⟨gb430,0,none⟩=some (.slice A0_0 l0_0.length c0_0):=(blk_cell BK430.out 0).trans rfl;have hcz19_1:w16.cell? ⟨gb430,1,none⟩=some (.int .i64 a0_1):=(blk_cell BK430.out 1).trans rfl;have hfz19_0:=blk_frozen BK430.out 0;have hfz19_1:=blk_frozen BK430.out 1)|((with_reducible refine gate_callee (f:=50) rfl ?_);refine goesL_ (some 25) rfl rfl Try.func50 (by kernel_rfl) rfl #[.agg #[.slice A0_0 l0_0.length c0_0,.int .i64 a0_1],.agg #[.int .i64 ((rd_T55 l1 x18_1).f0),.int .i64 ((rd_T55 l1 x18_1).f1),.int .i64 ((rd_T55 l1 x18_1).f2)]] rfl tl ?_;(with_reducible refine(impl_holeFor.calls k1 _ _ l0_0 a0_1 ((rd_T55 l1 x18_1).f0) ((rd_T55 l1 x18_1).f1) ((rd_T55 l1 x18_1).f2) t437 t438 t439 true _ ?side1 ?side2 A13.out).mono ?_);(case side1=>exact Kd.C_below HR0_0.out bl);(case side2=>exact HC0_0.out);rintro e w20 ⟨rfl,hb⟩;refine⟨_,rfl,?_⟩;replace HO_6:=am (Kd.R_below (by(with_reducible repeat(first|apply Kd.R_alloc|apply Kd.R_drewN|apply Kd.R_drew));exact(Kd.R_mono (Kd.R_far (p:=⟨gb436,2,none⟩) (Kd.R_far (p:=⟨gb436,1,none⟩) (Kd.R_far (p:=⟨gb436,0,none⟩) (Kd.R_types HO_6.out BK436.out (by decide)) (fun _ hk=>hk.2) (.int .i64 ((rd_T55 l1 x18_1).f0))) (fun _ hk=>hk.2) (.int .i64 ((rd_T55 l1 x18_1).f1))) (fun _ hk=>hk.2) (.int .i64 ((rd_T55 l1 x18_1).f2))) (fun _ h_=>h_.1))) hb);replace BK430:=am (blk_below (g:=gb430) (o := .cells #[.slice A0_0 l0_0.length c0_0,.int .i64 a0_1] 32 (0,0)) (by(with_reducible repeat(first|refine bN_ ?_ _|refine bD_ ?_|refine bA_ ?_ _));refine blk_far ?_ NB430_436.out _;(with_reducible repeat(first|refine bN_ ?_ _|refine bD_ ?_|refine bA_ ?_ _));refine blk_far ?_ NB430_436.out _;(with_reducible repeat(first|refine bN_ ?_ _|refine bD_ ?_|refine bA_ ?_ _));refine blk_far ?_ NB430_436.out _;exact bup BK430.out) hb);replace BK436:=am (blk_below (g:=gb436) (o := .cells #[.int .i64 ((rd_T55 l1 x18_1).f0),.int .i64 ((rd_T55 l1 x18_1).f1),.int .i64 ((rd_T55 l1 x18_1).f2)] 55 (0,0)) (by(with_reducible repeat(first|refine bN_ ?_ _|refine bD_ ?_|refine bA_ ?_ _));refine blk_put (cs := #[.int .i64 ((rd_T55 l1 x18_1).f0),.int .i64 ((rd_T55 l1 x18_1).f1),.int .i64 0]) ?_ 2 _ rfl;(with_reducible repeat(first|refine bN_ ?_ _|refine bD_ ?_|refine bA_ ?_ _));refine blk_put (cs := #[.int .i64 ((rd_T55 l1 x18_1).f0),.int .i64 0,.int .i64 0]) ?_ 1 _ rfl;(with_reducible repeat(first|refine bN_ ?_ _|refine bD_ ?_|refine bA_ ?_ _));refine blk_put (cs := #[.int .i64 0,.int .i64 0,.int .i64 0]) ?_ 0 _ rfl;exact bup BK436.out) hb);replace HB:=am (below_step bl hb);(try clear hb);(try clear hk))|((with_reducible refine gate_dst (N:=9) rfl ?_);refine box_event ?hg (N:=9) ?hd (cs := #[.int .i64 0,.int .i64 0,.int .i64 0]) (t:=51) ?hr ?_;(case hd=>rfl);(case hg=>rfl);(case hr=>first|(go_simp;done)|(go_simp;rfl));intro gb441 hg w21 hbox hb;replace HO_6:=am (Kd.R_below (Kd.R_elderB (rup HO_6.out) gb441 (Nat.le_of_eq hg.symm)) hb);have BK441:=am (hbox);have GW441:=am (ge_ bl hg);have GE441:=am (ge_ bl hg);replace HB:=am (below_step bl hb);have NB430_441:=am (nl (bup BK430.out) hg);have NB441_430:=am (ng (bup BK430.out) hg);replace BK430:=am (blk_below (bup BK430.out) hb);have NB436_441:=am (nl (bup BK436.out) hg);have NB441_436:=am (ng (bup BK436.out) hg);replace BK436:=am (blk_below (bup BK436.out) hb);clear hb hbox hg;have hnb22:=NB441_430.out;have hnc22:=NB430_441.out;have hnb23:=NB441_436.out;have hnc23:=NB436_441.out;have hcz24_0:w21.cell? ⟨gb441,0,none⟩=some (.int .i64 0):=(blk_cell BK441.out 0).trans rfl;have hcz24_1:w21.cell? ⟨gb441,1,none⟩=some (.int .i64 0):=(blk_cell BK441.out 1).trans rfl;have hcz24_2:w21.cell? ⟨gb441,2,none⟩=some (.int .i64 0):=(blk_cell BK441.out 2).trans rfl;have hfz24_0:=blk_frozen BK441.out 0;have hfz24_1:=blk_frozen BK441.out 1;have hfz24_2:=blk_frozen BK441.out 2)|((with_reducible refine gate_builtin (b := .append) (xs := #[.tmp 30,.tmp 32]) rfl ?_);at_builtin;refine Kd.R_append k51 (w0:=w) w.heap.size rfl (.tmp 30) (.tmp 32) 34 51 (.agg #[(.int .i64 0),(.int .i64 0),(.int .i64 0)]) 24 rfl Try.underlying34 info51 rfl (by decide) (by omega) u6 x6_1 (⟨t437,t438,t439⟩:S51) [.int .i64 t437,.int .i64 t438,.int .i64 t439] (fun k_=>k_≠gb441) (fun _=>False) rfl (by first|(go_simp;done)|(go_simp;rfl)) ?aP (fun _ hk=>hk.elim) ?aF ?aO ?aB ?aS ?aL ?_;(case aP=>exact k51_mkM _ _ _ (⟨t437,t438,t439⟩:S51));(case aB=>exact bl);(case aF=>exact(fun k_ hk=>Kd.freshB (g:=gb441) (o := .cells #[.int .i64 t437,.int .i64 t438,.int .i64 t439] 51 (0,0)) (by(with_reducible repeat(first|refine bN_ ?_ _|refine bD_ ?_|refine bA_ ?_ _));refine blk_put (cs := #[.int .i64 t437,.int .i64 t438,.int .i64 0]) ?_ 2 _ rfl;(with_reducible repeat(first|refine bN_ ?_ _|refine bD_ ?_|refine bA_ ?_ _));refine blk_put (cs := #[.int .i64 t437,.int .i64 0,.int .i64 0]) ?_ 1 _ rfl;(with_reducible repeat(first|refine bN_ ?_ _|refine bD_ ?_|refine bA_ ?_ _));refine blk_put (cs := #[.int .i64 0,.int .i64 0,.int .i64 0]) ?_ 0 _ rfl;exact bup BK441.out) k_ hk));(case aO=>exact(rup (Kd.R_mono (Kd.R_far (p:=⟨gb441,2,none⟩) (Kd.R_far (p:=⟨gb441,1,none⟩) (Kd.R_far (p:=⟨gb441,0,none⟩) (Kd.R_mono HO_6.out (fun k_ hk=>(⟨hk,hk.2⟩:_∧k_≠gb441))) (fun _ hk=>hk.2) (.int .i64 t437)) (fun _ hk=>hk.2) (.int .i64 t438)) (fun _ hk=>hk.2) (.int .i64 t439)) (fun _ hk=>hk.1.2))));(case aS=>exact(below_size bl));(case aL=>have:=LMc15.out;omega);intro v443 w25 ho hb hg hat;rw[← Ny442.out] at ho;replace BK430:=am (blk_grown (g:=gb430) (o := .cells #[.slice A0_0 l0_0.length c0_0,.int .i64 a0_1] 32 (0,0)) (by(with_reducible repeat(first|refine bN_ ?_ _|refine bD_ ?_|refine bA_ ?_ _));refine blk_far ?_ NB430_441.out _;(with_reducible repeat(first|refine bN_ ?_ _|refine bD_ ?_|refine bA_ ?_ _));refine blk_far ?_ NB430_441.out _;(with_reducible repeat(first|refine bN_ ?_ _|refine bD_ ?_|refine bA_ ?_ _));refine blk_far ?_ NB430_441.out _;exact bup BK430.out) hg (Kd.R_ne HO_6.out BK430.out (by decide)));replace BK436:=am (blk_grown (g:=gb436) (o := .cells #[.int .i64 ((rd_T55 l1 x18_1).f0),.int .i64 ((rd_T55 l1 x18_1).f1),.int .i64 ((rd_T55 l1 x18_1).f2)] 55 (0,0)) (by(with_reducible repeat(first|refine bN_ ?_ _|refine bD_ ?_|refine bA_ ?_ _));refine blk_far ?_ NB436_441.out _;(with_reducible repeat(first|refine bN_ ?_ _|refine bD_ ?_|refine bA_ ?_ _));refine blk_far ?_ NB436_441.out _;(with_reducible repeat(first|refine bN_ ?_ _|refine bD_ ?_|refine bA_ ?_ _));refine blk_far ?_ NB436_441.out _;exact bup BK436.out) hg (Kd.R_ne HO_6.out BK436.out (by decide)));replace BK441:=am (blk_grown (g:=gb441) (o := .cells #[.int .i64 t437,.int .i64 t438,.int .i64 t439] 51 (0,0)) (by(with_reducible repeat(first|refine bN_ ?_ _|refine bD_ ?_|refine bA_ ?_ _));refine blk_put (cs := #[.int .i64 t437,.int .i64 t438,.int .i64 0]) ?_ 2 _ rfl;(with_reducible repeat(first|refine bN_ ?_ _|refine bD_ ?_|refine bA_ ?_ _));refine blk_put (cs := #[.int .i64 t437,.int .i64 0,.int .i64 0]) ?_ 1 _ rfl;(with_reducible repeat(first|refine bN_ ?_ _|refine bD_ ?_|refine bA_ ?_ _));refine blk_put (cs := #[.int .i64 0,.int .i64 0,.int .i64 0]) ?_ 0 _ rfl;exact bup BK441.out) hg (Kd.R_away HO_6.out (fun _ hk=>hk.2)));replace HB:=am (hb);have HO444:=am (ho);clear HO_6 ho hb hg hat))
      go_roundg k1
      case measure=>have:=HK1.out;omega
      case rel=>exact⟨(y442),(wrap64 (x18_1+1)),fin2,H',⟨by have:=HK1.out;omega⟩,⟨rup (Kd.R_mono HO444.out (fun _ hk=>trivial))⟩,⟨bup BK430.out⟩,⟨bl⟩⟩
     ·replace c14:=Bool.eq_false_iff.mpr c14
      subst c14
      replace H:=(if_neg Bool.false_ne_true).symm.trans H
      simp only[Option.some.injEq,Prod.mk.injEq] at H
      obtain⟨rfl,rfl⟩:=H
      have p435:0≤(x18_1:Int):=od
      have q435:x18_1<(l1.length:Int):=od
      obtain⟨ad435,e435,hx435_0,hx435_1,hx435_2⟩:=at_T55 HR1.out x18_1 p435 q435
      cases e435
      replace hx435_0:=(HB.out.cell (World.block_lt_of_cell? w _ hx435_0)).trans hx435_0
      replace hx435_1:=(HB.out.cell (World.block_lt_of_cell? w _ hx435_1)).trans hx435_1
      replace hx435_2:=(HB.out.cell (World.block_lt_of_cell? w _ hx435_2)).trans hx435_2
      replace p435:=eq_true p435
      replace q435:=eq_true q435
      go_wp2_with (first|((with_reducible refine gate_dst (N:=8) rfl ?_);refine box_event ?hg (N:=8) ?hd (cs := #[.int .i64 0,.int .i64 0,.int .i64 0]) (t:=55) ?hr ?_;(case hd=>rfl);(case hg=>rfl);(case hr=>first|(go_simp;done)|(go_simp;rfl));intro gb436 hg w26 hbox hb;replace HO_6:=am (Kd.R_below (rup HO_6.out) hb);have BK436:=am (hbox);have GW436:=am (ge_ bl hg);have GE436:=am (ge_ bl hg);replace HB:=am (below_step bl hb);have NB430_436:=am (nl (bup BK430.out) hg);have NB436_430:=am (ng (bup BK430.out) hg);replace BK430:=am (blk_below (bup BK430.out) hb);clear hb hbox hg;have hnb27:=NB436_430.out;have hnc27:=NB430_436.out;have hcz28_0:w26.cell? ⟨gb436,0,none⟩=some (.int .i64 0):=(blk_cell BK436.out 0).trans rfl;have hcz28_1:w26.cell? ⟨gb436,1,none⟩=some (.int .i64 0):=(blk_cell BK436.out 1).trans rfl;have hcz28_2:w26.cell? ⟨gb436,2,none⟩=some (.int .i64 0):=(blk_cell BK436.out 2).trans rfl;have hfz28_0:=blk_frozen BK436.out 0;have hfz28_1:=blk_frozen BK436.out 1;have hfz28_2:=blk_frozen BK436.out 2;have hcz29_0:w26.cell? ⟨gb430,0,none⟩=some (.slice A0_0 l0_0.length c0_0):=(blk_cell BK430.out 0).trans rfl;have hcz29_1:w26.cell? ⟨gb430,1,none⟩=some (.int .i64 a0_1):=(blk_cell BK430.out 1).trans rfl;have hfz29_0:=blk_frozen BK430.out 0;have hfz29_1:=blk_frozen BK430.out 1)|((with_reducible refine gate_callee (f:=50) rfl ?_);refine goesL_ (some 25) rfl rfl Try.func50 (by kernel_rfl) rfl #[.agg #[.slice A0_0 l0_0.length c0_0,.int .i64 a0_1],.agg #[.int .i64 ((rd_T55 l1 x18_1).f0),.int .i64 ((rd_T55 l1 x18_1).f1),.int .i64 ((rd_T55 l1 x18_1).f2)]] rfl tl ?_;(with_reducible refine(impl_holeFor.calls k1 _ _ l0_0 a0_1 ((rd_T55 l1 x18_1).f0) ((rd_T55 l1 x18_1).f1) ((rd_T55 l1 x18_1).f2) t437 t438 t439 false _ ?side1 ?side2 A13.out).mono ?_);(case side1=>exact Kd.C_below HR0_0.out bl);(case side2=>exact HC0_0.out);rintro e w30 ⟨rfl,hb⟩;refine⟨_,rfl,?_⟩;replace HO_6:=am (Kd.R_below (by(with_reducible repeat(first|apply Kd.R_alloc|apply Kd.R_drewN|apply Kd.R_drew));exact(Kd.R_mono (Kd.R_far (p:=⟨gb436,2,none⟩) (Kd.R_far (p:=⟨gb436,1,none⟩) (Kd.R_far (p:=⟨gb436,0,none⟩) (Kd.R_types HO_6.out BK436.out (by decide)) (fun _ hk=>hk.2) (.int .i64 ((rd_T55 l1 x18_1).f0))) (fun _ hk=>hk.2) (.int .i64 ((rd_T55 l1 x18_1).f1))) (fun _ hk=>hk.2) (.int .i64 ((rd_T55 l1 x18_1).f2))) (fun _ h_=>h_.1))) hb);replace BK430:=am (blk_below (g:=gb430) (o := .cells #[.slice A0_0 l0_0.length c0_0,.int .i64 a0_1] 32 (0,0)) (by(with_reducible repeat(first|refine bN_ ?_ _|refine bD_ ?_|refine bA_ ?_ _));refine blk_far ?_ NB430_436.out _;(with_reducible repeat(first|refine bN_ ?_ _|refine bD_ ?_|refine bA_ ?_ _));refine blk_far ?_ NB430_436.out _;(with_reducible repeat(first|refine bN_ ?_ _|refine bD_ ?_|refine bA_ ?_ _));refine blk_far ?_ NB430_436.out _;exact bup BK430.out) hb);replace BK436:=am (blk_below (g:=gb436) (o := .cells #[.int .i64 ((rd_T55 l1 x18_1).f0),.int .i64 ((rd_T55 l1 x18_1).f1),.int .i64 ((rd_T55 l1 x18_1).f2)] 55 (0,0)) (by(with_reducible repeat(first|refine bN_ ?_ _|refine bD_ ?_|refine bA_ ?_ _));refine blk_put (cs := #[.int .i64 ((rd_T55 l1 x18_1).f0),.int .i64 ((rd_T55 l1 x18_1).f1),.int .i64 0]) ?_ 2 _ rfl;(with_reducible repeat(first|refine bN_ ?_ _|refine bD_ ?_|refine bA_ ?_ _));refine blk_put (cs := #[.int .i64 ((rd_T55 l1 x18_1).f0),.int .i64 0,.int .i64 0]) ?_ 1 _ rfl;(with_reducible repeat(first|refine bN_ ?_ _|refine bD_ ?_|refine bA_ ?_ _));refine blk_put (cs := #[.int .i64 0,.int .i64 0,.int .i64 0]) ?_ 0 _ rfl;exact bup BK436.out) hb);replace HB:=am (below_step bl hb);(try clear hb);(try clear hk))|((with_reducible refine gate_dst (N:=9) rfl ?_);refine box_event ?hg (N:=9) ?hd (cs := #[.int .i64 0,.int .i64 0,.int .i64 0]) (t:=51) ?hr ?_;(case hd=>rfl);(case hg=>rfl);(case hr=>first|(go_simp;done)|(go_simp;rfl));intro gb441 hg w31 hbox hb;replace HO_6:=am (Kd.R_below (Kd.R_elderB (rup HO_6.out) gb441 (Nat.le_of_eq hg.symm)) hb);have BK441:=am (hbox);have GW441:=am (ge_ bl hg);have GE441:=am (ge_ bl hg);replace HB:=am (below_step bl hb);have NB430_441:=am (nl (bup BK430.out) hg);have NB441_430:=am (ng (bup BK430.out) hg);replace BK430:=am (blk_below (bup BK430.out) hb);have NB436_441:=am (nl (bup BK436.out) hg);have NB441_436:=am (ng (bup BK436.out) hg);replace BK436:=am (blk_below (bup BK436.out) hb);clear hb hbox hg;have hnb32:=NB441_430.out;have hnc32:=NB430_441.out;have hnb33:=NB441_436.out;have hnc33:=NB436_441.out;have hcz34_0:w31.cell? ⟨gb441,0,none⟩=some (.int .i64 0):=(blk_cell BK441.out 0).trans rfl;have hcz34_1:w31.cell? ⟨gb441,1,none⟩=some (.int .i64 0):=(blk_cell BK441.out 1).trans rfl;have hcz34_2:w31.cell? ⟨gb441,2,none⟩=some (.int .i64 0):=(blk_cell BK441.out 2).trans rfl;have hfz34_0:=blk_frozen BK441.out 0;have hfz34_1:=blk_frozen BK441.out 1;have hfz34_2:=blk_frozen BK441.out 2))
      go_ret2
      exact⟨_,fin1,by first|exact Kd.R_nil _ _ _ _ _|exact Kd.N_nil _ _ _ _ _|exact Kd.V_nil _ _ _ _ _|exact Kd.Q_nil _ _ _ _ _|exact Kd.S_nil _ _ _ _ _,bl⟩
    ·have c10b0:=decide_eq_false c10
     clear c10
     replace H:=Option.bind_eq_some_iff.mp H
     obtain⟨⟨t445,t446⟩,A350,H⟩:=H
     replace H:(some (t445,t446))=some (r1,r2):=H
     have A35:=am A350
     clear A350
     simp only[Option.some.injEq,Prod.mk.injEq] at H
     obtain⟨rfl,rfl⟩:=H
     obtain⟨Ao36,co36,eo36⟩:=Kd.R_slice HO_6.out
     subst eo36
     go_wp2_with (first|((with_reducible refine gate_callee (f:=51) rfl ?_);refine goesL_ (some 36) rfl rfl Try.func51 (by kernel_rfl) rfl #[.slice Ao36 x6_1.length co36] rfl tl ?_;(with_reducible refine(impl_sheetOf.calls k1 _ _ x6_1 t445 t446 _ ?side1 ?side2 A35.out).mono ?_);(case side1=>repeat(first|exact(Kd.R_reads' HO_6.out).2.2|(with_reducible refine Kd.C_alloc ?_ _)|(with_reducible refine Kd.C_drewN ?_ _)|(with_reducible refine Kd.C_drew ?_)));(case side2=>exact(Kd.R_reads' HO_6.out).2.1);rintro e w37 ⟨v447,rfl,ho0,hb⟩;refine⟨_,rfl,?_⟩;have HO448:=am (Kd.R_lower (Kd.R_new' ho0 (Kd.R_lt (rup HO_6.out))) (below_size bl));replace HO_6:=am (Kd.R_elder' (rup HO_6.out) (Kd.R_base ho0) hb);replace BK430:=am (blk_below (bup BK430.out) hb);replace HB:=am (below_step bl hb);(try clear hb);(try clear ho0)))
     go_ret2
     exact⟨_,fin1,rup (Kd.R_mono HO448.out (fun _ hk=>trivial)),bl⟩
 ·replace c4:=Bool.eq_false_iff.mpr c4
  subst c4
  replace H:=(if_neg Bool.false_ne_true).symm.trans H
  simp only[Option.some.injEq,Prod.mk.injEq] at H
  obtain⟨rfl,rfl⟩:=H
  go_enter Try.func27,Try.ntmps27
  go_wp2_with (first|((with_reducible refine gate_dst (N:=2) rfl ?_);refine box_event ?hg (N:=2) ?hd (cs := #[.slice A0_0 l0_0.length c0_0,.int .i64 a0_1]) (t:=32) ?hr ?_;(case hd=>rfl);(case hg=>rfl);(case hr=>first|(go_simp;done)|(go_simp;rfl));intro gb430 hg w38 hbox hb;have BK430:=am (hbox);have GW430:=am (ge_ bl hg);have GE430:=am (ge_ bl hg);replace HB:=am (below_step bl hb);clear hb hbox hg;have hcz39_0:w38.cell? ⟨gb430,0,none⟩=some (.slice A0_0 l0_0.length c0_0):=(blk_cell BK430.out 0).trans rfl;have hcz39_1:w38.cell? ⟨gb430,1,none⟩=some (.int .i64 a0_1):=(blk_cell BK430.out 1).trans rfl;have hfz39_0:=blk_frozen BK430.out 0;have hfz39_1:=blk_frozen BK430.out 1)|((with_reducible refine gate_callee (f:=49) rfl ?_);refine goesL_ (some 13) rfl rfl Try.func49 (by kernel_rfl) rfl #[.agg #[.slice A0_0 l0_0.length c0_0,.int .i64 a0_1],.slice A1 l1.length c1] rfl tl ?_;(with_reducible refine(impl_canPlay.calls k _ _ l0_0 a0_1 _ _ l1 false _ ?side1 ?side2 ?side3 ?side4 A3.out).mono ?_);(case side1=>exact cup (Kd.C_below HR0_0.out HB.out));(case side2=>exact HC0_0.out);(case side3=>exact cup (Kd.C_below HR1.out HB.out));(case side4=>exact HC1.out);rintro e w40 ⟨rfl,hb⟩;refine⟨_,rfl,?_⟩;replace BK430:=am (blk_below (bup BK430.out) hb);replace HB:=am (below_step bl hb);(try clear hb)))
  go_ret2
  exact⟨_,fin1,by first|exact Kd.R_nil _ _ _ _ _|exact Kd.N_nil _ _ _ _ _|exact Kd.V_nil _ _ _ _ _|exact Kd.Q_nil _ _ _ _ _|exact Kd.S_nil _ _ _ _ _,bl⟩

end Go.Proofs.Ythmpginbaafbhaa.PFnExactRepairToPlay
