/- The walks of functions that FnExactApplyPatches reaches: what they return is what the plain functions of the same names say. Laid by a program of this session after the kit's print. No conditions beyond the arguments' being read. -/
import Derived.Test.YtghdiijfpepmhaaSApplyPatches0
import Derived.Test.YtghdiijfpepmhaaSApplyPatches7
import Derived.Test.YtghdiijfpepmhaaSApplyPatches9
import Derived.Test.YtghdiijfpepmhaaSApplyPatches10
namespace Go.Proofs.Ytghdiijfpepmhaa.PFnExactApplyPatches
open Go.RowKit Go.Proofs.YtghdiijfpepmhaaW.PrintWords Go.Proofs.YtghdiijfpepmhaaW.PrintLast Go.Proofs.YtghdiijfpepmhaaW.PrintMore
attribute [local go_sem] max2_int min2_int max_two min_two max_three min_three max_four min_four   -- for this text's walks alone
set_option linter.unusedVariables false
set_option linter.unusedSimpArgs false

namespace shs
open Go.Sort Go.Shelf Go.Lib Go.RowKit Go.Proofs.Ytghdiijfpepmhaa.PStab.stab stab
shelf_lay LaysGt.n8 Ggt 8 at Try as lay8
noncomputable def siT : TypeInfo := (Try.prog.info? 28).get (by kernel_rfl)
noncomputable def siE : TypeInfo := (Try.prog.info? 47).get (by kernel_rfl)
theorem siK (n : Nat) (h2 : 2 ≤ n) : Lib.swapperK n siE 25 = 9 := by
 have a : siE.hasPointers = false := by kernel_rfl
 have b : siE.bytes = 24 := by kernel_rfl
 have c : (n == 0) = false := by simp; omega
 have d : (n == 1) = false := by simp; omega
 simp [Lib.swapperK, a, b, c, d]
theorem holdsH {W : World} {g : Nat} {dk : Array S47} (h : HoldsK encH 3 W g 0 dk) (t : Nat) (ht : t < dk.size) :
  W.cell? ⟨g, t * 3, none⟩ = some (.int .i64 dk[t]!.f0) ∧ W.cell? ⟨g, t * 3 + 1, none⟩ = some (.int .i64 dk[t]!.f1) ∧ W.cell? ⟨g, t * 3 + 2, none⟩ = some (.int .i64 dk[t]!.f2) := by
 have h0 := (h.cell (i := t) (c := 0) ht (by omega)).1
 have h1 := (h.cell (i := t) (c := 1) ht (by omega)).1
 have h2 := (h.cell (i := t) (c := 2) ht (by omega)).1
 simp only [Nat.zero_add, Nat.add_zero] at h0 h1 h2
 exact ⟨h0, h1, h2⟩
set_option maxHeartbeats 4000000 in
set_option maxRecDepth 100000 in
theorem sort.calls (g c Bs : Nat) (d : Array S47) (w : World) (hH : HoldsK encH 3 w g 0 d) (hg : g < w.heap.size) (hbox : w.cell? ⟨Bs, 0, none⟩ = some (.slice (some ⟨g, 0, none⟩) d.size c)) (hne : Bs ≠ g) (h2 : 2 ≤ d.size) (hsm : d.size < 1000000) :
  Calls Try.prog 52 #[.iface 28 (.slice (some ⟨g, 0, none⟩) d.size c), .func (.func 53) #[] #[.pointer (some ⟨Bs, 0, none⟩)]] w fun e w' => e = .returned (.tuple #[]) ∧ ∃ d', SWK encH 3 w g 0 d' w' ∧ PermIn 0 d.size d d' ∧ SortedIn ltH 0 d.size d' := by
 have main := Any.sort_SliceStable_of_stable lay8 28 47 siT siE (by kernel_rfl) (by kernel_rfl) (by kernel_rfl) (by kernel_rfl) 25 (fun _ => by kernel_rfl) (some ⟨g, 0, none⟩) d.size c (by omega) 66 (by rw [siK _ h2]; kernel_rfl) (.func 53) #[] #[.pointer (some ⟨Bs, 0, none⟩)] w (fun w' => ∃ d', SWK encH 3 w g 0 d' w' ∧ PermIn 0 d.size d d' ∧ SortedIn ltH 0 d.size d') ?_
 ·exact main
 have hB : sliceBound Try.prog 47 siE 25 (some ⟨g, 0, none⟩) d.size c = #[.slice (some ⟨g, 0, none⟩) d.size c, typeHandle Try.prog 47] := by
  unfold sliceBound; rw [if_neg (swapperK_gt _ _ _ h2)]
 rw [hB]
 generalize hs0 : stableWorld Try.prog _ 28 (some ⟨g, 0, none⟩) d.size c w = w0
 have HS0 : SWK encH 3 w g 0 d w0 := by rw [← hs0]; unfold stableWorld; exact ((SWK.start hH).alloc _).alloc _
 have hH0 := HS0.holds hg hH rfl
 have hBs : Bs < w.heap.size := World.block_lt_of_cell? w _ hbox
 have D : Dat encH 3 ltH 53 #[.pointer (some ⟨Bs, 0, none⟩)] 66 #[.slice (some ⟨g, 0, none⟩) d.size c, typeHandle Try.prog 47] g 0 d.size w0 := by
  refine ⟨fun _ => rfl, enters_of Try.func53 (by kernel_rfl) rfl, fun W' dk hS hk i j hi hj => ?_, ?_, HS0.lt hg, by omega⟩
  ·have hHd := hS.holds (HS0.lt hg) hH0 hk
   have hs : W'.cell? ⟨Bs, 0, none⟩ = some (.slice (some ⟨g, 0, none⟩) d.size c) := by
    rw [swk_cell hS ⟨Bs, 0, none⟩ (Nat.lt_of_lt_of_le hBs HS0.le) hne, swk_cell HS0 ⟨Bs, 0, none⟩ hBs hne]; exact hbox
   have hl := stab.less.calls g c Bs d.size W' (fun t => dk[t]!) hs (fun t ht => holdsH hHd t (by omega)) i j hi hj
   refine hl.mono ?_
   rintro e w' ⟨rfl, m, os, rfl⟩
   exact ⟨rfl, m, os, by unfold sortWorldK; rw [putRowK_self encH 3 _ g 0 dk (holdsK_ahead encH 3 W' m g 0 dk hHd)]⟩
  ·exact swapSwapsK_of_literal false 66 (fun args W => run_callFunc_extern Try.func66 (by kernel_rfl) (by kernel_rfl) (by kernel_rfl) (e := Extern.ReflectliteSwapper.swap false) (by kernel_rfl) args W) 47 siE (by kernel_rfl) encH 3 (fun _ => rfl) (by kernel_rfl) (fun _ => by kernel_rfl) (fun x v hv => by simp [encH] at hv; rcases hv with rfl | rfl | rfl <;> rfl) g 0 d.size c
 refine (stable.calls swoH D hH0 rfl).mono ?_
 rintro e w' ⟨rfl, d', q1, q2, q3⟩
 exact ⟨rfl, d', swk_comp HS0 hg q1 q2.1, q2, q3⟩
end shs
namespace shs
open Go.Sort Go.Shelf Go.Lib Go.RowKit Go.Proofs.Ytghdiijfpepmhaa.PStab.stab stab
def keyH (x : S47) : Int × Int := (x.f1, x.f0)
def sortH (l : List S47) : List S47 := l.mergeSort (fun x y => !ltH y x)
theorem strictH {l : List S47} (h : l.Pairwise fun x y => ltH y x = false) (hk : (l.map keyH).Nodup) : l.Pairwise fun x y => ltH x y = true := by
 have h2 : l.Pairwise fun x y => keyH x ≠ keyH y := List.pairwise_map.1 hk
 refine (h.and h2).imp (fun {x y} hx => ?_)
 obtain ⟨q1, q2⟩ := hx
 simp only [ltH, decide_eq_false_iff_not, decide_eq_true_eq] at q1 ⊢
 by_cases e : x.f1 = y.f1
 ·have : x.f0 ≠ y.f0 := fun e2 => q2 (by unfold keyH; rw [e, e2])
  omega
 ·omega
theorem uniqH : ∀ (l1 l2 : List S47), l1.Perm l2 → l1.Pairwise (fun x y => ltH x y = true) → l2.Pairwise (fun x y => ltH x y = true) → l1 = l2
 | [], l2, hp, _, _ => (List.Perm.nil_eq hp)
 | x :: xs, [], hp, _, _ => absurd hp.length_eq (by simp)
 | x :: xs, y :: ys, hp, h1, h2 => by
  by_cases e : x = y
  ·subst e
   rw [uniqH xs ys (List.Perm.cons_inv hp) (List.Pairwise.of_cons h1) (List.Pairwise.of_cons h2)]
  ·have hx : x ∈ ys := by
    have : x ∈ y :: ys := hp.mem_iff.1 List.mem_cons_self
    rcases List.mem_cons.1 this with h | h
    ·exact absurd h e
    ·exact h
   have hy : y ∈ xs := by
    have : y ∈ x :: xs := hp.mem_iff.2 List.mem_cons_self
    rcases List.mem_cons.1 this with h | h
    ·exact absurd h.symm e
    ·exact h
   have a := (List.pairwise_cons.1 h1).1 y hy
   have b := (List.pairwise_cons.1 h2).1 x hx
   rw [swoH.asymmA a] at b
   cases b
theorem sortH_perm (l : List S47) : (sortH l).Perm l := List.mergeSort_perm _ _
theorem sortH_sorted (l : List S47) : (sortH l).Pairwise fun x y => ltH y x = false := by
 have h := List.pairwise_mergeSort (le := fun x y : S47 => !ltH y x) (fun a b c h1 h2 => by
  simp only [Bool.not_eq_true'] at *
  exact swoH.ntrans _ _ _ h2 h1) (fun a b => by
  cases h : ltH b a with
  | false => simp
  | true => simp [swoH.asymmA h]) l
 exact h.imp (fun {x y} h => by simpa using h)
theorem sortH_eq {l l2 : List S47} (hp : l2.Perm l) (hk : (l.map keyH).Nodup) (hs : l2.Pairwise fun x y => ltH y x = false) : l2 = sortH l :=
 uniqH _ _ (hp.trans (sortH_perm l).symm) (strictH hs ((hp.map keyH).nodup_iff.2 hk)) (strictH (sortH_sorted l) (((sortH_perm l).map keyH).nodup_iff.2 hk))
theorem sortH_len (l : List S47) : (sortH l).length = l.length := (sortH_perm l).length_eq
theorem pair_of {d : Array S47} (h : SortedIn ltH 0 d.size d) : d.toList.Pairwise fun x y => ltH y x = false := by
 refine List.pairwise_iff_getElem.2 (fun i j hi hj hij => ?_)
 have := h i j (Nat.zero_le _) hij (by simpa using hj)
 rw [getElem!_pos d i (by simpa using hi), getElem!_pos d j (by simpa using hj)] at this
 simpa using this
theorem perm_of {d d' : Array S47} (h : PermIn 0 d.size d d') : d'.toList.Perm d.toList := by
 have h2 := h.2.2
 have e1 : d'.extract 0 d.size = d' := by rw [← h.1]; simp
 have e2 : d.extract 0 d.size = d := by simp
 rw [e1, e2] at h2
 exact h2
/-- What the cells of a row of holes are. -/
def cellsH (l : List S47) : List Value := l.flatMap encH
theorem flat_eq (l : List S47) : (flatK encH 3 l.toArray).toList = cellsH l := by
 refine List.ext_getElem? (fun t => ?_)
 have hl : (cellsH l).length = l.length * 3 := by
  unfold cellsH
  induction l with
  | nil => rfl
  | cons x xs ih => rw [List.flatMap_cons, List.length_append, ih, List.length_cons]; show 3 + _ = _; omega
 by_cases ht : t < l.length * 3
 ·have h1 := get_flatK encH 3 l.toArray t (by simpa using ht)
  rw [getElem!_pos (flatK encH 3 l.toArray) t (by rw [size_flatK]; simpa using ht)] at h1
  rw [List.getElem?_eq_getElem (by rw [Array.length_toList, size_flatK]; simpa using ht), Array.getElem_toList, h1]
  have h3 : t / 3 < l.length := by omega
  rw [getElem!_pos l.toArray (t / 3) (by simpa using h3)]
  have key : ∀ (l : List S47) (t : Nat) (h : t / 3 < l.length), (cellsH l)[t]? = some (encH l[t / 3])[t % 3]! := by
   intro l
   induction l with
   | nil => intro t h; simp at h
   | cons x xs ih =>
    intro t h
    unfold cellsH
    rw [List.flatMap_cons]
    by_cases c : t < 3
    ·have hd : t / 3 = 0 := by omega
     have hm : t % 3 = t := by omega
     rw [List.getElem?_append_left (by exact c), hm]
     have e : (x :: xs)[t / 3] = x := by simp [hd]
     rw [e]
     rcases (by omega : t = 0 ∨ t = 1 ∨ t = 2) with rfl | rfl | rfl <;> rfl
    ·rw [List.getElem?_append_right (by show 3 ≤ t; omega)]
     have hq := ih (t - 3) (by rw [List.length_cons] at h; omega)
     unfold cellsH at hq
     show (List.flatMap encH xs)[t - 3]? = _
     rw [hq]
     have e : (x :: xs)[t / 3] = xs[(t - 3) / 3]'(by rw [List.length_cons] at h; omega) := by
      have : t / 3 = (t - 3) / 3 + 1 := by omega
      simp [this]
     rw [e, show (t - 3) % 3 = t % 3 by omega]
  rw [key l t h3]
  simp
 ·rw [List.getElem?_eq_none (by rw [Array.length_toList, size_flatK]; simp; omega), List.getElem?_eq_none (by rw [hl]; omega)]
theorem reps_cells {w : World} {base : Nat} {ok : Nat → Prop} (l : List S47) : Reps (k47.M w base ok) 3 l (cellsH l) := by
 have key : ∀ xs ys : List S47, Reps (k47.M w base ok) 3 ys (cellsH ys) → Reps (k47.M w base ok) 3 (ys ++ xs) (cellsH (ys ++ xs)) := by
  intro xs
  induction xs with
  | nil => intro ys h; rwa [List.append_nil]
  | cons x xs ih =>
   intro ys h
   have e : cellsH (ys ++ [x]) = cellsH ys ++ encH x := by unfold cellsH; rw [List.flatMap_append]; simp
   have h2 := ih (ys ++ [x]) (by rw [e]; exact h.snoc (k47_mkM _ _ _ x) rfl)
   rwa [List.append_assoc] at h2
 exact key l [] (Reps.none _ _)
theorem cells_reps {w : World} {base : Nat} {ok : Nat → Prop} {l : List S47} {cs : List Value} (h : Reps (k47.M w base ok) 3 l cs) : cs = cellsH l := by
 obtain ⟨h1, h2⟩ := h
 have h3 := reps_cells (w := w) (base := base) (ok := ok) l
 refine List.ext_getElem? (fun t => ?_)
 by_cases ht : t < l.length * 3
 ·have hq : t / 3 < l.length := by omega
  have a := k47_openM (h2 (t / 3) _ (List.getElem?_eq_getElem hq))
  have b := k47_openM (h3.2 (t / 3) _ (List.getElem?_eq_getElem hq))
  have c : ((cs.drop (t / 3 * 3)).take 3)[t % 3]? = (((cellsH l).drop (t / 3 * 3)).take 3)[t % 3]? := by rw [a, b]
  rw [List.getElem?_take_of_lt (by omega), List.getElem?_take_of_lt (by omega), List.getElem?_drop, List.getElem?_drop] at c
  rwa [show t / 3 * 3 + t % 3 = t by omega] at c
 ·rw [List.getElem?_eq_none (by omega), List.getElem?_eq_none (by rw [h3.1]; omega)]
theorem heap_sort {w : World} {g m : Nat} {os : Array Obj} {cur : Array Value} {e : TypeId} {fr : Nat × Nat} (F : Array Value) (hb : w.heap[g]? = some (.cells cur e fr)) :
  (grow (putRow id (Go.Sort.ahead w m) g 0 F) os).heap[g]? = some (.cells (putCells id 0 F cur) e fr) := by
 have hg : g < w.heap.size := (Array.getElem?_eq_some_iff.1 hb).1
 rw [heap_grow_old _ _ (by simpa using hg)]
 simp [putRow, mapBlock, Go.Sort.ahead, Array.getElem?_modify, hb, onCells]
theorem grown_sort {w : World} {g m : Nat} {os : Array Obj} (F : Array Value) : w.grownBy (grow (putRow id (Go.Sort.ahead w m) g 0 F) os) (some g) := by
 refine ⟨rfl, rfl, rfl, by simp, fun k hk hne => ?_⟩
 rw [heap_grow_old _ _ (by simpa using hk)]
 have : g ≠ k := fun e => hne (by rw [e])
 simp [putRow, mapBlock, Go.Sort.ahead, Array.getElem?_modify, this]
theorem take_sort (cur F : Array Value) (h : F.size ≤ cur.size) : (putCells id 0 F cur).toList.take F.size = F.toList := by
 apply List.ext_getElem?
 intro j
 by_cases hj : j < F.size
 ·rw [List.getElem?_take_of_lt hj, Array.getElem?_toList]
  simp [putCells, hj, show j < cur.size by omega]
 ·rw [List.getElem?_take_eq_none (by omega), List.getElem?_eq_none (by simp; omega)]
theorem holds_of {w : World} {g : Nat} {cur F : Array Value} {e : TypeId} (hb : w.heap[g]? = some (.cells cur e (0, 0))) (ht : cur.toList.take F.size = F.toList) : Holds id w g 0 F := by
 intro j hj
 refine ⟨?_, by simp [World.frozen?, hb]⟩
 have h1 : (cur.toList.take F.size)[j]? = F.toList[j]? := by rw [ht]
 rw [List.getElem?_take_of_lt hj] at h1
 simp only [World.cell?, hb, Nat.zero_add]
 simp only [Option.isSome_none, Bool.false_eq_true, if_false]
 rw [← Array.getElem?_toList, h1]
 simp [hj]
set_option maxHeartbeats 4000000 in
/-- sort.SliceStable of a row of one's own, no two of its holes with the same key: the sorted row. -/
theorem row.calls (l : List S47) (v : Value) (w : World) (base : Nat) (ok : Nat → Prop) (Bs : Nat) (hR : Kd.R k47 47 w base ok v l) (hbox : w.cell? ⟨Bs, 0, none⟩ = some v) (hne : v.ownBlock ≠ some Bs) (hk : (l.map keyH).Nodup) (hsm : l.length < 1000000) :
  Calls Try.prog 52 #[.iface 28 v, .func (.func 53) #[] #[.pointer (some ⟨Bs, 0, none⟩)]] w fun e w' => e = .returned (.tuple #[]) ∧ Kd.R k47 47 w' base ok v (sortH l) ∧ ∃ row, w.grownBy w' row ∧ (row = none ∨ row = v.ownBlock) := by
 obtain ⟨A, c, hv, hlc, hC⟩ := Kd.R_reads hR
 have tiny : l.length ≤ 1 → sortH l = l := fun h => by
  have hp := sortH_perm l
  rcases l with _ | ⟨x, _ | ⟨y, ys⟩⟩
  ·exact List.Perm.eq_nil hp
  ·exact List.perm_singleton.1 hp
  ·simp at h
 have bel : ∀ os, Below w.heap.size w (grow w os) := fun os => ⟨rfl, rfl, rfl, by simp, fun k hk => heap_grow_old _ _ hk⟩
 have grw_ : ∀ os, w.grownBy (grow w os) none := fun os => ⟨rfl, rfl, rfl, by simp, fun k hk _ => heap_grow_old _ _ hk⟩
 by_cases h0 : l.length = 0
 ·subst hv
  refine (Any.sort_SliceStable_tiny lay8 28 47 siT siE (by kernel_rfl) (by kernel_rfl) (by kernel_rfl) (by kernel_rfl) 25 (fun _ => by kernel_rfl) A l.length c (by omega) 58 (by rw [h0]; kernel_rfl) (.func 53) #[] _ w).mono ?_
  rintro e w' ⟨rfl, os, rfl⟩
  rw [tiny (by omega)]
  exact ⟨rfl, Kd.R_below hR (bel os), none, grw_ os, .inl rfl⟩
 ·by_cases h1 : l.length = 1
  ·subst hv
   refine (Any.sort_SliceStable_tiny lay8 28 47 siT siE (by kernel_rfl) (by kernel_rfl) (by kernel_rfl) (by kernel_rfl) 25 (fun _ => by kernel_rfl) A l.length c (by omega) 59 (by rw [h1]; kernel_rfl) (.func 53) #[] _ w).mono ?_
   rintro e w' ⟨rfl, os, rfl⟩
   rw [tiny (by omega)]
   exact ⟨rfl, Kd.R_below hR (bel os), none, grw_ os, .inl rfl⟩
  ·clear hv hlc hC tiny bel grw_
   obtain ⟨hok, inner, hown, hreps⟩ := hR
   have hin := cells_reps hreps
   subst hin
   rcases hown.2 with ⟨rfl, hn0⟩ | ⟨g, cap, cur, rfl, hbase, hb, q1, q2, q3, q4⟩
   ·exact absurd hn0 h0
   ·have hg : g < w.heap.size := (Array.getElem?_eq_some_iff.1 hb).1
    have hF : (flatK encH 3 l.toArray).size = l.length * 3 := by rw [size_flatK]; simp
    have hH : HoldsK encH 3 w g 0 l.toArray := holds_of hb (by rw [hF, flat_eq]; exact q4)
    have hs := sort.calls g cap Bs l.toArray w hH hg (by simpa using hbox) (fun e => hne (by simp [Value.ownBlock, e])) (by simp; omega) (by simpa using hsm)
    simp only [List.size_toArray] at hs
    refine hs.mono ?_
    rintro e w' ⟨rfl, d', ⟨m, os, rfl⟩, hP, hS⟩
    have hz : d'.size = l.length := by simpa using hP.1
    have hd : d' = (sortH l).toArray := by
     have hp := perm_of (d := l.toArray) (by simpa using hP)
     have h2 := sortH_eq (l := l) (l2 := d'.toList) (by simpa using hp) hk (pair_of (by rw [hz]; exact hS))
     rw [← h2]
    subst hd
    have hF2 : (flatK encH 3 (sortH l).toArray).size = l.length * 3 := by rw [size_flatK]; simp [sortH_len]
    have hgr := grown_sort (w := w) (g := g) (m := m) (os := os) (flatK encH 3 (sortH l).toArray)
    refine ⟨rfl, ⟨hok, cellsH (sortH l), ?_, reps_cells _⟩, some g, hgr, .inr (by simp [Value.ownBlock])⟩
    rw [sortH_len]
    refine ⟨?_, .inr ⟨g, cap, _, rfl, hbase, heap_sort _ hb, q1, q2, ?_, ?_⟩⟩
    ·rw [(reps_cells (w := w) (base := base) (ok := ok) (sortH l)).1, sortH_len]; rfl
    ·simp [putCells, q3]
    ·rw [← flat_eq]
     show List.take (l.length * 3) _ = _
     rw [← hF2]
     exact take_sort cur _ (by rw [hF2, q3]; exact Nat.mul_le_mul_right 3 q1)
end shs
def impl_sheetOf.f (k : Nat) (l0 : List S47) : Option (List S47 × Bool) :=
 if 60 < (l0.length : Int) then some ([], false) else if (l0.map shs.keyH).Nodup then (impl_IsSheet.f k (shs.sortH l0)).bind fun q => some (if q = true then (shs.sortH l0, true) else ([], false)) else none
set_option maxHeartbeats 8000000 in
set_option maxRecDepth 100000 in
theorem impl_sheetOf.calls (k : Nat) (A0 : Option Addr) (c0 : Nat) (l0 : List S47) (r1 : List S47) (r2 : Bool) (w : World) (hr0 : Kd.C k47 w A0 l0.length l0) (hc0 : l0.length ≤ c0) (h : impl_sheetOf.f k l0 = some (r1, r2)) :
  Calls Try.prog 50 #[.slice A0 l0.length c0] w fun e w' => ∃ v0_ : Value, e = .returned (.tuple #[v0_, .bool r2]) ∧ Kd.R k47 47 w' w.heap.size (fun _ => True) v0_ r1 ∧ Below w.heap.size w w' := by
 unfold impl_sheetOf.f at h
 have HR0 := Aside0.mk hr0
 have HC0 := Aside0.mk hc0
 clear hr0 hc0
 by_cases hl : 60 < (l0.length : Int)
 ·rw [if_pos hl] at h
  cases h
  go_enter Try.func50, Try.ntmps50
  go_wp2
  go_ret2
  exact ⟨_, rfl, Kd.R_nil _ _ _ _ _, Below.refl _ _⟩
 ·rw [if_neg hl] at h
  by_cases hk : (l0.map shs.keyH).Nodup
  ·rw [if_pos hk] at h
   obtain ⟨q, hq, h⟩ := Option.bind_eq_some_iff.1 h
   have HK := Aside0.mk hk
   have HQ := Aside0.mk hq
   have HL := Aside0.mk (show l0.length ≤ 60 from by omega)
   have HCL := Aside0.mk (show impl_Hole.f l0 = some l0 from by unfold impl_Hole.f; rw [if_pos (by omega)])
   clear hk hq
   cases q with
   | false =>
    cases h
    go_enter Try.func50, Try.ntmps50
    go_wp2_with (first | ((with_reducible refine gate_callee (f := 51) rfl ?_); refine goesL_ (some 9) rfl rfl Try.func51 (by kernel_rfl) rfl #[.slice A0 l0.length c0] rfl (by (try simp only [List.map_toArray, List.map_cons, List.map_nil]); first | done | rfl) ?_; (with_reducible refine (impl_Hole.calls _ _ l0 _ _ ?side1 ?side2 HCL.out).mono ?_); (case side1 => exact HR0.out); (case side2 => exact HC0.out); rintro e w1 ⟨v1, rfl, ho, hb⟩; refine ⟨_, rfl, ?_⟩; obtain ⟨A1, c1, e1⟩ := Kd.R_slice ho; subst e1; have HO := Aside0.mk ho; have HBW := Aside0.mk hb; have HBD := Aside0.mk (Kd.R_bound ho).1; clear ho hb) | (go_at_call 52; (refine (shs.row.calls l0 (.slice A1 l0.length c1) _ w.heap.size (fun _ => True) w1.heap.size ?hR ?hbox ?hne HK.out ?hsm).mono ?_); (case hR => exact Kd.R_below HO.out (below_alloc (Below.refl _ _) _)); (case hbox => simp); (case hne => exact fun e_ => absurd (HBD.out _ e_).2.2.1 (Nat.lt_irrefl _)); (case hsm => have := HL.out; omega); rintro e w3 ⟨rfl, hr, row, hgr, hrow⟩; have hbox3 : w3.cell? ⟨w1.heap.size, 0, none⟩ = some (.slice A1 l0.length c1) := (by rw [World.cell?_of_block (hgr.block w1.heap.size (by simp) (fun e_ => by rcases hrow with h_ | h_ <;> rw [h_] at e_ <;> first | exact absurd (HBD.out _ e_.symm).2.2.1 (Nat.lt_irrefl _) | cases e_))]; simp); have HB3 := Aside0.mk (show Below w.heap.size w w3 from Below.grown (below_alloc HBW.out _) hgr (Nat.le_trans HBW.out.size (by simp)) (fun k_ e_ => by rcases hrow with h_ | h_ <;> rw [h_] at e_ <;> first | exact (HBD.out _ e_).2.1 | cases e_)); have HR3 := Aside0.mk hr; have hls := (Kd.R_reads' hr); have HRC := Aside0.mk hls; have HSZ := Aside0.mk (show w1.heap.size < w3.heap.size from World.block_lt_of_cell? w3 _ hbox3); clear hr hgr hrow hls) | (go_at_call 29; (have hIS := impl_IsSheet.calls k A1 c1 (shs.sortH l0) false w3 HRC.out.2.2 (by have := HRC.out.1; have := HRC.out.2.1; omega) HQ.out); rw [shs.sortH_len] at hIS; refine hIS.mono ?_; rintro e w4 ⟨rfl, hb⟩; have hbox4 := (hb.cell (p := ⟨w1.heap.size, 0, none⟩) HSZ.out).trans hbox3; have HR4 := Aside0.mk (Kd.R_below HR3.out hb); have HBF := Aside0.mk (below_step HB3.out hb); clear hb hIS))
    go_ret2
    exact ⟨_, rfl, Kd.R_nil _ _ _ _ _, HBF.out⟩
   | true =>
    cases h
    go_enter Try.func50, Try.ntmps50
    go_wp2_with (first | ((with_reducible refine gate_callee (f := 51) rfl ?_); refine goesL_ (some 9) rfl rfl Try.func51 (by kernel_rfl) rfl #[.slice A0 l0.length c0] rfl (by (try simp only [List.map_toArray, List.map_cons, List.map_nil]); first | done | rfl) ?_; (with_reducible refine (impl_Hole.calls _ _ l0 _ _ ?side1 ?side2 HCL.out).mono ?_); (case side1 => exact HR0.out); (case side2 => exact HC0.out); rintro e w1 ⟨v1, rfl, ho, hb⟩; refine ⟨_, rfl, ?_⟩; obtain ⟨A1, c1, e1⟩ := Kd.R_slice ho; subst e1; have HO := Aside0.mk ho; have HBW := Aside0.mk hb; have HBD := Aside0.mk (Kd.R_bound ho).1; clear ho hb) | (go_at_call 52; (refine (shs.row.calls l0 (.slice A1 l0.length c1) _ w.heap.size (fun _ => True) w1.heap.size ?hR ?hbox ?hne HK.out ?hsm).mono ?_); (case hR => exact Kd.R_below HO.out (below_alloc (Below.refl _ _) _)); (case hbox => simp); (case hne => exact fun e_ => absurd (HBD.out _ e_).2.2.1 (Nat.lt_irrefl _)); (case hsm => have := HL.out; omega); rintro e w3 ⟨rfl, hr, row, hgr, hrow⟩; have hbox3 : w3.cell? ⟨w1.heap.size, 0, none⟩ = some (.slice A1 l0.length c1) := (by rw [World.cell?_of_block (hgr.block w1.heap.size (by simp) (fun e_ => by rcases hrow with h_ | h_ <;> rw [h_] at e_ <;> first | exact absurd (HBD.out _ e_.symm).2.2.1 (Nat.lt_irrefl _) | cases e_))]; simp); have HB3 := Aside0.mk (show Below w.heap.size w w3 from Below.grown (below_alloc HBW.out _) hgr (Nat.le_trans HBW.out.size (by simp)) (fun k_ e_ => by rcases hrow with h_ | h_ <;> rw [h_] at e_ <;> first | exact (HBD.out _ e_).2.1 | cases e_)); have HR3 := Aside0.mk hr; have hls := (Kd.R_reads' hr); have HRC := Aside0.mk hls; have HSZ := Aside0.mk (show w1.heap.size < w3.heap.size from World.block_lt_of_cell? w3 _ hbox3); clear hr hgr hrow hls) | (go_at_call 29; (have hIS := impl_IsSheet.calls k A1 c1 (shs.sortH l0) true w3 HRC.out.2.2 (by have := HRC.out.1; have := HRC.out.2.1; omega) HQ.out); rw [shs.sortH_len] at hIS; refine hIS.mono ?_; rintro e w4 ⟨rfl, hb⟩; have hbox4 := (hb.cell (p := ⟨w1.heap.size, 0, none⟩) HSZ.out).trans hbox3; have HR4 := Aside0.mk (Kd.R_below HR3.out hb); have HBF := Aside0.mk (below_step HB3.out hb); clear hb hIS))
    go_ret2
    exact ⟨_, rfl, HR4.out, HBF.out⟩
  ·rw [if_neg hk] at h
   cases h


-- NOT PRINTED: function 45 (impl_sheetOfGrid)

end Go.Proofs.Ytghdiijfpepmhaa.PFnExactApplyPatches
