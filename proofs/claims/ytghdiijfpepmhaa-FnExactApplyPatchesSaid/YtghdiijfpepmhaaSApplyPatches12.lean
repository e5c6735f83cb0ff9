/- The walks of functions that FnExactApplyPatches reaches: what they return is what the plain functions of the same names say. Laid by a program of this session after the kit's print. No conditions beyond the arguments' being read. -/
import Derived.Test.YtghdiijfpepmhaaSApplyPatches0
import Derived.Test.YtghdiijfpepmhaaSApplyPatches7
import Derived.Test.YtghdiijfpepmhaaSApplyPatches8
import Derived.Test.YtghdiijfpepmhaaSApplyPatches9
import Derived.Test.YtghdiijfpepmhaaSApplyPatches10
import Derived.Test.YtghdiijfpepmhaaSApplyPatches11
namespace Go.Proofs.Ytghdiijfpepmhaa.PFnExactApplyPatches
open Go.RowKit Go.Proofs.YtghdiijfpepmhaaW.PrintWords Go.Proofs.YtghdiijfpepmhaaW.PrintLast Go.Proofs.YtghdiijfpepmhaaW.PrintMore
attribute [local go_sem] max2_int min2_int max_two min_two max_three min_three max_four min_four   -- for this text's walks alone
set_option linter.unusedVariables false
set_option linter.unusedSimpArgs false

namespace grid
def allFalse : Value → Bool
 | .bool b => !b
 | _ => false
theorem zchk : (Try.zeroCells58.size == 40000 && Try.zeroCells58.toList.all allFalse) = true := by kernel_rfl
theorem Zc_spec : Try.zeroCells58.size = 40000 ∧ ∀ j, j < 40000 → Try.zeroCells58[j]? = some (.bool false) := by
 have h := zchk
 generalize Try.zeroCells58 = cs at h ⊢
 simp only [Bool.and_eq_true, beq_iff_eq, List.all_eq_true] at h
 obtain ⟨h1, h2⟩ := h
 refine ⟨h1, fun j hj => ?_⟩
 have hj' : j < cs.size := by omega
 have h4 := h2 cs[j] (by rw [Array.mem_toList_iff]; exact Array.getElem_mem hj')
 rw [Array.getElem?_eq_getElem hj']
 cases hv : cs[j] with
 | bool b =>
  rw [hv] at h4
  cases b with
  | false => rfl
  | true => simp [allFalse] at h4
 | _ => rw [hv] at h4; simp [allFalse] at h4
/-- Block g is a grid: at t, s it holds G t s. -/
def Grid (w : World) (g : Nat) (G : Int → Int → Bool) : Prop :=
 ∃ cs : Array Value, w.heap[g]? = some (.cells cs 58 (0, 0)) ∧ cs.size = 40000 ∧ ∀ t s : Nat, t < 20 → s < 2000 → cs[t * 2000 + s]? = some (.bool (G t s))
theorem Grid.lt {w : World} {g : Nat} {G : Int → Int → Bool} (h : Grid w g G) : g < w.heap.size := by
 obtain ⟨cs, h, _⟩ := h
 exact blk_lt h
theorem Grid.block {w : World} {g : Nat} {G : Int → Int → Bool} (h : Grid w g G) : ∃ cs, w.heap[g]? = some (.cells cs 58 (0, 0)) := by
 obtain ⟨cs, h, _⟩ := h
 exact ⟨cs, h⟩
theorem Grid.move {w w1 : World} {g : Nat} {G : Int → Int → Bool} (h : Grid w g G) (hm : w1.heap[g]? = w.heap[g]?) : Grid w1 g G := by
 obtain ⟨cs, h, r⟩ := h
 exact ⟨cs, hm.trans h, r⟩
theorem Grid.below {w w1 : World} {g : Nat} {G : Int → Int → Bool} (h : Grid w g G) (hb : Below w.heap.size w w1) : Grid w1 g G := h.move (hb.block g h.lt)
theorem Grid.cell {w : World} {g : Nat} {G : Int → Int → Bool} (h : Grid w g G) {t s : Int} (h0 : 0 ≤ t) (h1 : t < 20) (h2 : 0 ≤ s) (h3 : s < 2000) : w.cell? ⟨g, t.toNat * 2000 + s.toNat, none⟩ = some (.bool (G t s)) ∧ w.frozen? ⟨g, t.toNat * 2000 + s.toNat, none⟩ = false := by
 obtain ⟨cs, h, hs, hc⟩ := h
 obtain ⟨a, rfl⟩ := Int.eq_ofNat_of_zero_le h0
 obtain ⟨b, rfl⟩ := Int.eq_ofNat_of_zero_le h2
 exact ⟨(blk_cell h _).trans (hc a b (by omega) (by omega)), blk_frozen h _⟩
def upd (G : Int → Int → Bool) (t s : Int) (b : Bool) : Int → Int → Bool := fun t' s' => if t' = t ∧ s' = s then b else G t' s'
theorem Grid.set {w : World} {g : Nat} {G : Int → Int → Bool} (h : Grid w g G) {t s : Int} (h0 : 0 ≤ t) (h1 : t < 20) (h2 : 0 ≤ s) (h3 : s < 2000) (b : Bool) : Grid (w.setCell ⟨g, t.toNat * 2000 + s.toNat, none⟩ (.bool b)) g (upd G t s b) := by
 obtain ⟨cs, h, hs, hc⟩ := h
 obtain ⟨a, rfl⟩ := Int.eq_ofNat_of_zero_le h0
 obtain ⟨d, rfl⟩ := Int.eq_ofNat_of_zero_le h2
 simp only [Int.toNat_natCast]
 refine ⟨_, blk_set h (a * 2000 + d) (.bool b), by simpa using hs, fun t s ht hs' => ?_⟩
 rw [Array.getElem?_setIfInBounds]
 unfold upd
 by_cases e : (t : Int) = a ∧ (s : Int) = d
 ·obtain ⟨e1, e2⟩ := e
  have e1' : t = a := by omega
  have e2' : s = d := by omega
  subst e1'; subst e2'
  rw [if_pos rfl, if_pos (by omega), if_pos ⟨rfl, rfl⟩]
 ·rw [if_neg e, if_neg (by omega)]
  exact hc t s ht hs'
theorem Grid.zero {w : World} {g : Nat} (h : w.heap[g]? = some (.cells Try.zeroCells58 58 (0, 0))) : Grid w g (fun _ _ => false) := by
 obtain ⟨hs, hz⟩ := Zc_spec
 exact ⟨_, h, hs, fun t s ht hs' => hz _ (by omega)⟩
theorem Grid.congr {w : World} {g : Nat} {G G' : Int → Int → Bool} (h : Grid w g G) (e : ∀ t s : Nat, t < 20 → s < 2000 → G t s = G' t s) : Grid w g G' := by
 obtain ⟨cs, h, hs, hc⟩ := h
 exact ⟨cs, h, hs, fun t s ht hs' => by rw [← e t s ht hs']; exact hc t s ht hs'⟩
end grid
namespace grid
def okH (h : S47) : Prop := 0 ≤ h.f0 ∧ h.f0 < 20 ∧ 0 ≤ h.f1 ∧ h.f2 ≤ 2000
/-- Which steps of which tracks the holes open. -/
def openAt (l : List S47) : Int → Int → Bool := fun t s => l.any fun h => decide (h.f0 = t ∧ h.f1 ≤ s ∧ s < h.f2)
theorem openAt_snoc (l : List S47) (h : S47) (t s : Int) : openAt (l ++ [h]) t s = (openAt l t s || decide (h.f0 = t ∧ h.f1 ≤ s ∧ s < h.f2)) := by
 unfold openAt
 rw [List.any_append, List.any_cons, List.any_nil, Bool.or_false]
/-- .. and the steps of one hole more, up to a step. -/
def upTo (G : Int → Int → Bool) (h : S47) (m : Int) : Int → Int → Bool := fun t s => G t s || decide (h.f0 = t ∧ h.f1 ≤ s ∧ s < m)
theorem upTo_step (G : Int → Int → Bool) (h : S47) (m : Int) (hm : h.f1 ≤ m) (t s : Int) : upd (upTo G h m) h.f0 m true t s = upTo G h (m + 1) t s := by
 unfold upd upTo
 by_cases e : t = h.f0 ∧ s = m
 ·rw [if_pos e]
  have : decide (h.f0 = t ∧ h.f1 ≤ s ∧ s < m + 1) = true := decide_eq_true ⟨e.1.symm, by omega, by omega⟩
  rw [this, Bool.or_true]
 ·rw [if_neg e]
  congr 1
  exact decide_eq_decide.2 ⟨fun h => ⟨h.1, h.2.1, by omega⟩, fun h' => ⟨h'.1, h'.2.1, by have : s ≠ m := fun e2 => e ⟨h'.1.symm, e2⟩; omega⟩⟩
theorem upTo_zero (G : Int → Int → Bool) (h : S47) (t s : Int) : upTo G h h.f1 t s = G t s := by
 unfold upTo
 rw [decide_eq_false (fun h => by omega), Bool.or_false]
set_option maxHeartbeats 8000000 in
set_option maxRecDepth 100000 in
theorem gridOf.calls (A0 : Option Addr) (c0 : Nat) (l0 : List S47) (w : World) (hr0 : Kd.C k47 w A0 l0.length l0) (hc0 : l0.length ≤ c0) (hv : ∀ h ∈ l0, okH h) :
  Calls Try.prog 31 #[.slice A0 l0.length c0] w fun e w' => ∃ g, e = .returned (.pointer (some ⟨g, 0, none⟩)) ∧ Grid w' g (openAt l0) ∧ w.heap.size ≤ g ∧ Below w.heap.size w w' := by
 have hu := Try.underlying47
 have HR0 := Aside0.mk hr0
 have HC0 := Aside0.mk hc0
 have HV := Aside0.mk hv
 have HL := Aside0.mk hr0.2.1
 have HB := Aside0.mk (Below.refl w.heap.size w)
 clear hr0 hc0 hv
 go_enter Try.func31, Try.ntmps31
 go_wp2_with (first | ((with_reducible refine gate_dst (N := 8) rfl ?_); refine box_event ?hg (N := 8) ?hd (cs := Try.zeroCells58) (t := 58) ?hr ?_; (case hd => rfl); (case hg => rfl); (case hr => first | (go_simp; done) | (go_simp; rfl)); intro g hg w1 hbox hb; have HG := Aside0.mk (Grid.zero hbox); have HGE := Aside0.mk (by rw [hg]; exact below_size HB.out : w.heap.size ≤ g); have n0_ := Aside0.mk (below_step HB.out hb); clear HB; have HB := n0_; clear n0_ hbox hb hg))
 go_loopw [11] (fun v wr => ∃ i : Int, Aside0 (0 ≤ i ∧ i ≤ l0.length) ∧ v = .int .i64 i ∧ Aside0 (Grid wr g (openAt (l0.take i.toNat))) ∧ Aside0 (Below w.heap.size w wr)) (fun v _ => ((l0.length : Int) - intOf v).toNat)
 case atStart => exact ⟨0, ⟨by omega⟩, rfl, ⟨HG.out.congr (fun t s _ _ => rfl)⟩, HB⟩
 case round =>
  clear HG HB
  obtain ⟨i, hi, rfl, HG, HB⟩ := hrel
  by_cases q : i < (l0.length : Int)
  ·have p : 0 ≤ i := hi.out.1
   have hlt : i.toNat < l0.length := by omega
   obtain ⟨ad, e, hx0, hx1, hx2⟩ := at_T47 HR0.out i p q
   cases e
   replace hx0 := (HB.out.cell (World.block_lt_of_cell? w _ hx0)).trans hx0
   replace hx1 := (HB.out.cell (World.block_lt_of_cell? w _ hx1)).trans hx1
   replace hx2 := (HB.out.cell (World.block_lt_of_cell? w _ hx2)).trans hx2
   obtain ⟨x, hx⟩ : ∃ x, x = rd_T47 l0 i := ⟨_, rfl⟩
   rw [← hx] at hx0 hx1 hx2
   have hxl : l0[i.toNat] = x := by
    rw [hx]
    show _ = l0.getD i.toNat _
    rw [List.getD_eq_getElem?_getD, List.getElem?_eq_getElem hlt]
    rfl
   have HX := Aside0.mk (show l0[i.toNat]? = some x from by rw [List.getElem?_eq_getElem hlt, hxl])
   have HXV := Aside0.mk (show okH x from by rw [← hxl]; exact HV.out _ (List.getElem_mem hlt))
   clear hx hxl
   replace p := eq_true p
   replace q := eq_true q
   have HLT := Aside0.mk hlt
   clear hlt
   go_wp2_with (first | ((with_reducible refine gate_dst (N := 5) rfl ?_); refine box_event ?hg (N := 5) ?hd (cs := #[.int .i64 0, .int .i64 0, .int .i64 0]) (t := 47) ?hr ?_; (case hd => rfl); (case hg => rfl); (case hr => first | (go_simp; done) | (go_simp; rfl)); intro gx hgx w2 hbox hb; have n0_ := Aside0.mk (HG.out.below hb); have n1_ := Aside0.mk (below_step HB.out hb); have HNE := Aside0.mk (by rw [hgx]; exact Nat.ne_of_lt HG.out.lt : g ≠ gx); have HGX := Aside0.mk (by rw [hgx]; exact below_size HB.out : w.heap.size ≤ gx); have BX := Aside0.mk hbox; clear HG HB hb hbox hgx; have HG := n0_; have HB := n1_; clear n0_ n1_; have hc0_ : w2.cell? ⟨gx, 0, none⟩ = some (.int .i64 0) := (blk_cell BX.out 0).trans rfl; have hc1_ : w2.cell? ⟨gx, 1, none⟩ = some (.int .i64 0) := (blk_cell BX.out 1).trans rfl; have hc2_ : w2.cell? ⟨gx, 2, none⟩ = some (.int .i64 0) := (blk_cell BX.out 2).trans rfl; have hf0_ := blk_frozen BX.out 0; have hf1_ := blk_frozen BX.out 1; have hf2_ := blk_frozen BX.out 2))
   obtain ⟨w3, hw3⟩ : ∃ w3, w3 = ((w2.setCell ⟨gx, 0, none⟩ (.int .i64 x.f0)).setCell ⟨gx, 1, none⟩ (.int .i64 x.f1)).setCell ⟨gx, 2, none⟩ (.int .i64 x.f2) := ⟨_, rfl⟩
   rw [← hw3]
   have HK := Aside0.mk (show Kept w2 w3 (fun k => k = gx) from by rw [hw3]; exact (((Kept.refl w2 (fun k => k = gx)).setCell (p := ⟨gx, 0, none⟩) (.inl rfl) _).setCell (p := ⟨gx, 1, none⟩) (.inl rfl) _).setCell (p := ⟨gx, 2, none⟩) (.inl rfl) _)
   have n0_ := Aside0.mk (show w3.heap[gx]? = some (.cells #[.int .i64 x.f0, .int .i64 x.f1, .int .i64 x.f2] 47 (0, 0)) from by
    rw [hw3]
    refine blk_put (cs := #[.int .i64 x.f0, .int .i64 x.f1, .int .i64 0]) ?_ 2 _ rfl
    refine blk_put (cs := #[.int .i64 x.f0, .int .i64 0, .int .i64 0]) ?_ 1 _ rfl
    exact blk_put (cs := #[.int .i64 0, .int .i64 0, .int .i64 0]) BX.out 0 _ rfl)
   have n1_ := Aside0.mk (show Below w.heap.size w w3 from by rw [hw3]; exact below_set (below_set (below_set HB.out HGX.out) HGX.out) HGX.out)
   have n2_ := Aside0.mk (HG.out.move (HK.out.2 g HG.out.lt HNE.out))
   clear BX HB HG HK hw3 hc0_ hc1_ hc2_ hf0_ hf1_ hf2_ hx0 hx1 hx2
   have BX := n0_
   have HB := n1_
   have HG := n2_
   clear n0_ n1_ n2_
   go_loopw [6] (fun v wi => ∃ m : Int, Aside0 (x.f1 ≤ m ∧ (m ≤ x.f2 ∨ m = x.f1)) ∧ v = .int .i64 m ∧ Aside0 (Grid wi g (upTo (openAt (l0.take i.toNat)) x m)) ∧ Aside0 (wi.heap[gx]? = some (.cells #[.int .i64 x.f0, .int .i64 x.f1, .int .i64 x.f2] 47 (0, 0))) ∧ Aside0 (Below w.heap.size w wi)) (fun v _ => (x.f2 - intOf v).toNat)
   case atStart => exact ⟨x.f1, ⟨Int.le_refl _, .inr rfl⟩, rfl, ⟨HG.out.congr (fun t s _ _ => (upTo_zero _ _ _ _).symm)⟩, BX, HB⟩
   case round =>
    clear HG BX HB p q
    obtain ⟨m, hm, rfl, HG, BX, HB⟩ := hrel
    have hc0_ : wr.cell? ⟨gx, 0, none⟩ = some (.int .i64 x.f0) := (blk_cell BX.out 0).trans rfl
    have hc2_ : wr.cell? ⟨gx, 2, none⟩ = some (.int .i64 x.f2) := (blk_cell BX.out 2).trans rfl
    by_cases hlt : m < x.f2
    ·have hb : decide (m < x.f2) = true := decide_eq_true hlt
     have h0 : 0 ≤ x.f0 := HXV.out.1
     have h1 : x.f0 < 20 := HXV.out.2.1
     have h2 : 0 ≤ m := by have := HXV.out.2.2.1; have := hm.out; omega
     have h3 : m < 2000 := by have := HXV.out.2.2.2; omega
     obtain ⟨hgc, hgf⟩ := HG.out.cell h0 h1 h2 h3
     have HM := Aside0.mk (show 0 ≤ x.f0 ∧ x.f0 < 20 ∧ 0 ≤ m ∧ m < 2000 ∧ m < x.f2 from ⟨h0, h1, h2, h3, hlt⟩)
     replace h0 := eq_true h0
     replace h1 := eq_true h1
     replace h2 := eq_true h2
     replace h3 := eq_true h3
     clear hlt
     go_wp2
     go_region
     obtain ⟨w4, hw4⟩ : ∃ w4, w4 = (wr.setCell ⟨g, x.f0.toNat * 2000 + m.toNat, none⟩ (.bool true)).drew := ⟨_, rfl⟩
     rw [← hw4]
     have n0_ := Aside0.mk (show Grid w4 g (upTo (openAt (l0.take i.toNat)) x (m + 1)) from by
      rw [hw4]
      exact ((HG.out.set HM.out.1 HM.out.2.1 HM.out.2.2.1 HM.out.2.2.2.1 true).congr (fun t s _ _ => upTo_step _ x m hm.out.1 t s)).move rfl)
     have n1_ := Aside0.mk (show w4.heap[gx]? = some (.cells #[.int .i64 x.f0, .int .i64 x.f1, .int .i64 x.f2] 47 (0, 0)) from by rw [hw4]; exact (Below.heap_setCell wr ⟨g, x.f0.toNat * 2000 + m.toNat, none⟩ (.bool true) gx (Ne.symm HNE.out)).trans BX.out)
     have n2_ := Aside0.mk (show Below w.heap.size w w4 from by rw [hw4]; exact below_drew1 (below_set HB.out HGE.out))
     clear hgc hgf hw4 HG BX HB hc0_ hc2_
     have HG := n0_
     have BX := n1_
     have HB := n2_
     clear n0_ n1_ n2_
     go_wp2
     go_roundw
     case rel => exact ⟨m + 1, ⟨by have := HM.out; have := hm.out; omega⟩, (by first | rfl | (congr 1; have := HM.out; unfold wrap64; omega)), HG, BX, HB⟩
     case measure => have := HM.out; have hw : wrap64 (m + 1) = m + 1 := (by unfold wrap64; omega); simp [intOf, hw]; omega
    ·have hb : decide (m < x.f2) = false := decide_eq_false hlt
     have HM := Aside0.mk hlt
     clear hlt
     go_wp2
     go_roundw
     case rel => exact ⟨i + 1, ⟨by have := HLT.out; have := hi.out; omega⟩, (by first | rfl | (congr 1; have := HLT.out; have := HL.out; have := hi.out; unfold wrap64; omega)), ⟨HG.out.congr (fun t s _ _ => by
      have hi0 := hi.out.1
      have e : l0.take (i + 1).toNat = l0.take i.toNat ++ [x] := by
       rw [show (i + 1).toNat = i.toNat + 1 by omega, List.take_add_one, HX.out]
       rfl
      rw [e, openAt_snoc]
      unfold upTo
      congr 1
      have h1 := HM.out
      have h2 := hm.out
      exact decide_eq_decide.2 ⟨fun h => ⟨h.1, h.2.1, by omega⟩, fun h => ⟨h.1, h.2.1, by omega⟩⟩)⟩, HB⟩
     case measure => have := HLT.out; have := hi.out; have := HL.out; have hw : wrap64 (i + 1) = i + 1 := (by unfold wrap64; omega); simp [intOf, hw]; omega
  ·have hb : decide (i < (l0.length : Int)) = false := decide_eq_false q
   have HQ := Aside0.mk q
   clear q
   go_wp2
   go_ret
   refine ⟨g, rfl, HG.out.congr (fun t s _ _ => ?_), HGE.out, HB.out⟩
   have hi0 := hi.out
   have hq := HQ.out
   rw [show l0.take i.toNat = l0 from List.take_of_length_le (by omega)]
end grid
namespace grid
def grStep (h : Int → Int → Bool) (t : Int) (st : List (List Int) × Int) (s : Int) : List (List Int) × Int :=
 if s < 2000 ∧ h t s = true then (st.1, if st.2 < 0 then s else st.2) else (if 0 ≤ st.2 then (st.1 ++ [[t, st.2, s]], -1) else st)
def grS (h : Int → Int → Bool) (t : Int) (o : List (List Int)) : Nat → List (List Int) × Int
 | 0 => (o, -1)
 | s + 1 => grStep h t (grS h t o s) s
def grT (h : Int → Int → Bool) : Nat → List (List Int)
 | 0 => []
 | t + 1 => (grS h t (grT h t) 2001).1
def gr (h : Int → Int → Bool) : List (List Int) := grT h 20
theorem grS_snd (h : Int → Int → Bool) (t : Int) (o : List (List Int)) (s : Nat) : (grS h t o s).2 = -1 ∨ 0 ≤ (grS h t o s).2 ∧ (grS h t o s).2 < s := by
 induction s with
 | zero => exact .inl rfl
 | succ s ih =>
  have e : grS h t o (s + 1) = grStep h t (grS h t o s) s := rfl
  rw [e]
  unfold grStep
  split
  ·right
   by_cases hf : (grS h t o s).2 < 0
   ·simp only [if_pos hf]; omega
   ·simp only [if_neg hf]; omega
  ·split
   ·exact .inl rfl
   ·rcases ih with h | h
    ·exact .inl h
    ·right; omega
theorem grS_len (h : Int → Int → Bool) (t : Int) (o : List (List Int)) (s : Nat) : (grS h t o s).1.length ≤ o.length + s := by
 induction s with
 | zero => exact Nat.le_refl _
 | succ s ih =>
  show (grStep h t (grS h t o s) s).1.length ≤ _
  unfold grStep
  split
  ·show (grS h t o s).1.length ≤ _; omega
  ·split
   ·show ((grS h t o s).1 ++ [_]).length ≤ _
    rw [List.length_append, List.length_singleton]; omega
   ·omega
theorem grT_len (h : Int → Int → Bool) (n : Nat) : (grT h n).length ≤ n * 2001 := by
 induction n with
 | zero => exact Nat.le_refl _
 | succ n ih =>
  show (grS h n (grT h n) 2001).1.length ≤ _
  have := grS_len h n (grT h n) 2001
  omega
theorem gr_len (h : Int → Int → Bool) : (gr h).length ≤ 40020 := grT_len h 20
end grid
namespace grid
set_option maxHeartbeats 16000000 in
set_option maxRecDepth 100000 in
theorem gridRanges_sheet.calls (hold : Int → Int → Bool) (ba : Nat) (w : World)
  (hcl : ∀ W, Below w.heap.size w W → ∀ t s : Int, 0 ≤ t → t < 20 → 0 ≤ s → s < 2000 → Calls Try.prog 49 #[.int .i64 t, .int .i64 s, .pointer (some ⟨ba, 0, none⟩)] W fun e w' => e = .returned (.bool (hold t s)) ∧ W = w') :
  Calls Try.prog 48 #[.func (.func 49) #[] #[.pointer (some ⟨ba, 0, none⟩)]] w fun e w' => ∃ v0_ : Value, e = .returned v0_ ∧ Kd.S (Kd.slice 3 (Kd.int .i64)) 39 w' w.heap.size (fun _ => True) v0_ (gr hold) ∧ Below w.heap.size w w' := by
 have HCL := Aside0.mk hcl
 have HB := Aside0.mk (Below.refl w.heap.size w)
 clear hcl
 go_enter Try.func48, Try.ntmps48
 go_wp2_with (first | ((with_reducible refine gate_dst (N := 8) rfl ?_); refine Kd.S_lit (Kd.slice 3 (Kd.int .i64)) (w0 := w) w.heap.size 39 rfl (N := 8) rfl (xs := []) (inner := []) (ok := fun _ => True) (okp := fun _ => True) ?hr (Reps.none _ _) (fun _ hk => hk) trivial HB.out (below_size HB.out) (by simp) ?_; (case hr => first | (go_simp; done) | (go_simp; rfl)); intro v0_ w1 ho hb hg_ hnew_; have HO := Aside0.mk ho; clear HB; have HB := Aside0.mk hb; clear ho hb hg_ hnew_))
 go_loopw [3, 9] (fun v3 v9 wr => ∃ t : Int, Aside0 (0 ≤ t ∧ t ≤ 20) ∧ v9 = .int .i64 t ∧ Aside0 (Kd.S (Kd.slice 3 (Kd.int .i64)) 39 wr w.heap.size (fun _ => True) v3 (grT hold t.toNat)) ∧ Aside0 (Below w.heap.size w wr)) (fun _ v9 _ => (20 - intOf v9).toNat)
 case atStart => exact ⟨0, ⟨by omega⟩, rfl, HO, HB⟩
 case round =>
  clear HO HB
  obtain ⟨t, HT0, rfl, HO, HB⟩ := hrel
  by_cases q : t < 20
  ·have hq : decide (t < 20) = true := decide_eq_true q
   have HT := Aside0.mk (show 0 ≤ t ∧ t < 20 from ⟨HT0.out.1, q⟩)
   clear q
   go_wp2
   go_loopw [3, 5, 6] (fun v3 v5 v6 wi => ∃ (s fr : Int) (o : List (List Int)), Aside0 (0 ≤ s ∧ s ≤ 2001) ∧ v5 = .int .i64 fr ∧ v6 = .int .i64 s ∧ Aside0 (grS hold t (grT hold t.toNat) s.toNat = (o, fr)) ∧ Aside0 (Kd.S (Kd.slice 3 (Kd.int .i64)) 39 wi w.heap.size (fun _ => True) v3 o) ∧ Aside0 (Below w.heap.size w wi)) (fun _ _ v6 _ => (2001 - intOf v6).toNat)
   case atStart => exact ⟨0, -1, grT hold t.toNat, ⟨by omega⟩, rfl, rfl, ⟨rfl⟩, HO, HB⟩
   case round =>
    clear HO HB hq
    obtain ⟨s, fr, o, HS0, rfl, rfl, HE, HO, HB⟩ := hrel
    have HLEN := Aside0.mk (show o.length ≤ 100000 from by
     have h1 := grS_len hold t (grT hold t.toNat) s.toNat
     have h2 := grT_len hold t.toNat
     rw [HE.out] at h1
     have h3 := HT.out
     have h4 := HS0.out
     simp only at h1
     have h5 : t.toNat * 2001 ≤ 19 * 2001 := Nat.mul_le_mul_right _ (by omega)
     omega)
    by_cases hs : s ≤ 2000
    ·have hs1 : decide (s ≤ 2000) = true := decide_eq_true hs
     have HLE := Aside0.mk hs
     by_cases hs2 : s < 2000
     ·have hs3 : decide (s < 2000) = true := decide_eq_true hs2
      have HS := Aside0.mk (show 0 ≤ s ∧ s < 2000 from ⟨HS0.out.1, hs2⟩)
      clear hs hs2
      cases hh : hold t s with
      | true =>
       have HH := Aside0.mk hh
       clear hh
       by_cases hf : fr < 0
       ·have hf1 : decide (fr < 0) = true := decide_eq_true hf
        have HF := Aside0.mk hf
        clear hf
        go_wp2_with (first | (go_at_call 49; refine (HCL.out _ HB.out t s HT.out.1 HT.out.2 HS.out.1 HS.out.2 ).mono ?_; rintro e w_ ⟨rfl, rfl⟩; rw [HH.out]))
        go_roundw
        case rel => exact ⟨s + 1, s, o, ⟨by have := HS0.out; have := HLE.out; omega⟩, (by first | rfl | (simp; done) | (congr 1)), (by first | rfl | (congr 1; have := HS0.out; have := HLE.out; unfold wrap64; omega)), ⟨by have e := HS0.out.1; rw [show (s + 1).toNat = s.toNat + 1 by omega]; show grStep hold t (grS hold t (grT hold t.toNat) s.toNat) (s.toNat : Nat) = _; rw [HE.out, show ((s.toNat : Nat) : Int) = s by omega]; unfold grStep; rw [if_pos ⟨HS.out.2, HH.out⟩, if_pos HF.out]⟩, HO, HB⟩
        case measure => have := HS0.out; have := HLE.out; have hw : wrap64 (s + 1) = s + 1 := (by unfold wrap64; omega); simp [intOf, hw]; omega
       ·have hf1 : decide (fr < 0) = false := decide_eq_false hf
        have HF := Aside0.mk hf
        clear hf
        go_wp2_with (first | (go_at_call 49; refine (HCL.out _ HB.out t s HT.out.1 HT.out.2 HS.out.1 HS.out.2 ).mono ?_; rintro e w_ ⟨rfl, rfl⟩; rw [HH.out]))
        go_roundw
        case rel => exact ⟨s + 1, fr, o, ⟨by have := HS0.out; have := HLE.out; omega⟩, (by first | rfl | (simp; done) | (congr 1)), (by first | rfl | (congr 1; have := HS0.out; have := HLE.out; unfold wrap64; omega)), ⟨by have e := HS0.out.1; rw [show (s + 1).toNat = s.toNat + 1 by omega]; show grStep hold t (grS hold t (grT hold t.toNat) s.toNat) (s.toNat : Nat) = _; rw [HE.out, show ((s.toNat : Nat) : Int) = s by omega]; unfold grStep; rw [if_pos ⟨HS.out.2, HH.out⟩]; have hF := HF.out; show (o, if fr < 0 then s else fr) = (o, fr); rw [if_neg (by omega)]⟩, HO, HB⟩
        case measure => have := HS0.out; have := HLE.out; have hw : wrap64 (s + 1) = s + 1 := (by unfold wrap64; omega); simp [intOf, hw]; omega
      | false =>
       have HH := Aside0.mk hh
       clear hh
       by_cases hf : 0 ≤ fr
       ·have hf1 : decide (0 ≤ fr) = true := decide_eq_true hf
        have HF := Aside0.mk hf
        clear hf
        obtain ⟨Ao, co, eo⟩ := Kd.S_slice HO.out
        subst eo
        go_wp2_with (first | (go_at_call 49; refine (HCL.out _ HB.out t s HT.out.1 HT.out.2 HS.out.1 HS.out.2 ).mono ?_; rintro e w_ ⟨rfl, rfl⟩; rw [HH.out]) | ((with_reducible refine gate_dst (N := 40) rfl ?_); refine Kd.R_lit (Kd.int .i64) _ 3 ?hg (N := 40) ?hd (xs := ([t, fr, s] : List Int)) (inner := [.int .i64 t, .int .i64 fr, .int .i64 s]) (ok := fun _ => True) (okp := fun _ => True) ?hr ?hp (fun _ hk => hk) trivial (Below.refl _ _) (Nat.le_refl _) (by simp) ?_; (case hd => rfl); (case hg => rfl); (case hr => first | (go_simp; done) | (go_simp; rfl)); (case hp => exact (Reps.one (show Kd.M (Kd.int .i64) _ _ _ t [.int .i64 t] from rfl) (Reps.one (show Kd.M (Kd.int .i64) _ _ _ fr [.int .i64 fr] from rfl) (Reps.one (show Kd.M (Kd.int .i64) _ _ _ s [.int .i64 s] from rfl) (Reps.none _ _))))); intro v1_ w5 ho5 hb hg_ hnew_; clear hg_ hnew_; have n0_ := Aside0.mk (Kd.S_elder' HO.out (Kd.R_base ho5) hb); have n1_ := Aside0.mk (Kd.R_lower ho5 (below_size HB.out)); have n2_ := Aside0.mk (below_step HB.out hb); clear HO HB; have HO := n0_; have HI := n1_; have HB := n2_; clear n0_ n1_ n2_; clear hb ho5; obtain ⟨Ai, ci, ei⟩ := Kd.R_slice HI.out; subst ei) | ((with_reducible refine gate_builtin (b := .append) (xs := #[.tmp 36, .tmp 41]) rfl ?_); at_builtin; refine Kd.S_append (Kd.slice 3 (Kd.int .i64)) (w0 := w) w.heap.size rfl (.tmp 36) (.tmp 41) 23 39 (.slice none 0 0) 24 rfl Try.underlying23 info39 rfl (by decide) (by omega) (.slice Ao o.length co) o [t, fr, s] [.slice Ai ([t, fr, s] : List Int).length ci] (fun _ => True) (fun k_ => some k_ = (.slice Ai ([t, fr, s] : List Int).length ci : Value).ownBlock) rfl rfl ?aP (fun k_ hk_ => ((Kd.R_mono (ok' := fun k_ => ((fun _ => True)) k_ ∧ some k_ ≠ (.slice Ao o.length co : Value).ownBlock) (Kd.R_apart' (HI.out) (Kd.S_typed HO.out) (by decide)) (fun k_ hk => ⟨trivial, hk.2⟩))).1 k_ hk_.symm) ?aF ?aO ?aB ?aS ?aL ?_; (case aP => exact Kd.M_row (Kd.R_mono (Kd.R_tight rfl (Kd.R_mono (ok' := fun k_ => ((fun _ => True)) k_ ∧ some k_ ≠ (.slice Ao o.length co : Value).ownBlock) (Kd.R_apart' (HI.out) (Kd.S_typed HO.out) (by decide)) (fun k_ hk => ⟨trivial, hk.2⟩))) (fun _ h_ => h_))); (case aB => exact HB.out); (case aF => exact (fun _ _ => trivial)); (case aO => exact Kd.S_mono HO.out (fun k_ hk => ⟨trivial, fun e_ => hk.2 e_⟩)); (case aS => exact below_size HB.out); (case aL => have := HLEN.out; omega); intro v2_ w6 ho hb hg hat; have n0_ := Aside0.mk hb; have n1_ := Aside0.mk ho; clear HB HO HI ho hb hg hat; have HB := n0_; have HO := n1_; clear n0_ n1_))
        go_roundw
        case rel => exact ⟨s + 1, -1, o ++ [[t, fr, s]], ⟨by have := HS0.out; have := HLE.out; omega⟩, (by first | rfl | (simp; done) | (congr 1)), (by first | rfl | (congr 1; have := HS0.out; have := HLE.out; unfold wrap64; omega)), ⟨by have e := HS0.out.1; rw [show (s + 1).toNat = s.toNat + 1 by omega]; show grStep hold t (grS hold t (grT hold t.toNat) s.toNat) (s.toNat : Nat) = _; rw [HE.out, show ((s.toNat : Nat) : Int) = s by omega]; unfold grStep; rw [if_neg (fun h => by rw [HH.out] at h; cases h.2), if_pos HF.out]⟩, HO, HB⟩
        case measure => have := HS0.out; have := HLE.out; have hw : wrap64 (s + 1) = s + 1 := (by unfold wrap64; omega); simp [intOf, hw]; omega
       ·have hf1 : decide (0 ≤ fr) = false := decide_eq_false hf
        have HF := Aside0.mk hf
        clear hf
        go_wp2_with (first | (go_at_call 49; refine (HCL.out _ HB.out t s HT.out.1 HT.out.2 HS.out.1 HS.out.2 ).mono ?_; rintro e w_ ⟨rfl, rfl⟩; rw [HH.out]))
        go_roundw
        case rel => exact ⟨s + 1, fr, o, ⟨by have := HS0.out; have := HLE.out; omega⟩, (by first | rfl | (simp; done) | (congr 1)), (by first | rfl | (congr 1; have := HS0.out; have := HLE.out; unfold wrap64; omega)), ⟨by have e := HS0.out.1; rw [show (s + 1).toNat = s.toNat + 1 by omega]; show grStep hold t (grS hold t (grT hold t.toNat) s.toNat) (s.toNat : Nat) = _; rw [HE.out, show ((s.toNat : Nat) : Int) = s by omega]; unfold grStep; rw [if_neg (fun h => by rw [HH.out] at h; cases h.2)]; have hF := HF.out; show (if 0 ≤ fr then _ else (o, fr)) = (o, fr); rw [if_neg (by omega)]⟩, HO, HB⟩
        case measure => have := HS0.out; have := HLE.out; have hw : wrap64 (s + 1) = s + 1 := (by unfold wrap64; omega); simp [intOf, hw]; omega
     ·have hs3 : decide (s < 2000) = false := decide_eq_false hs2
      have HS := Aside0.mk hs2
      clear hs hs2
      by_cases hf : 0 ≤ fr
      ·have hf1 : decide (0 ≤ fr) = true := decide_eq_true hf
       have HF := Aside0.mk hf
       clear hf
       obtain ⟨Ao, co, eo⟩ := Kd.S_slice HO.out
       subst eo
       go_wp2_with (first | ((with_reducible refine gate_dst (N := 40) rfl ?_); refine Kd.R_lit (Kd.int .i64) _ 3 ?hg (N := 40) ?hd (xs := ([t, fr, s] : List Int)) (inner := [.int .i64 t, .int .i64 fr, .int .i64 s]) (ok := fun _ => True) (okp := fun _ => True) ?hr ?hp (fun _ hk => hk) trivial (Below.refl _ _) (Nat.le_refl _) (by simp) ?_; (case hd => rfl); (case hg => rfl); (case hr => first | (go_simp; done) | (go_simp; rfl)); (case hp => exact (Reps.one (show Kd.M (Kd.int .i64) _ _ _ t [.int .i64 t] from rfl) (Reps.one (show Kd.M (Kd.int .i64) _ _ _ fr [.int .i64 fr] from rfl) (Reps.one (show Kd.M (Kd.int .i64) _ _ _ s [.int .i64 s] from rfl) (Reps.none _ _))))); intro v1_ w5 ho5 hb hg_ hnew_; clear hg_ hnew_; have n0_ := Aside0.mk (Kd.S_elder' HO.out (Kd.R_base ho5) hb); have n1_ := Aside0.mk (Kd.R_lower ho5 (below_size HB.out)); have n2_ := Aside0.mk (below_step HB.out hb); clear HO HB; have HO := n0_; have HI := n1_; have HB := n2_; clear n0_ n1_ n2_; clear hb ho5; obtain ⟨Ai, ci, ei⟩ := Kd.R_slice HI.out; subst ei) | ((with_reducible refine gate_builtin (b := .append) (xs := #[.tmp 36, .tmp 41]) rfl ?_); at_builtin; refine Kd.S_append (Kd.slice 3 (Kd.int .i64)) (w0 := w) w.heap.size rfl (.tmp 36) (.tmp 41) 23 39 (.slice none 0 0) 24 rfl Try.underlying23 info39 rfl (by decide) (by omega) (.slice Ao o.length co) o [t, fr, s] [.slice Ai ([t, fr, s] : List Int).length ci] (fun _ => True) (fun k_ => some k_ = (.slice Ai ([t, fr, s] : List Int).length ci : Value).ownBlock) rfl rfl ?aP (fun k_ hk_ => ((Kd.R_mono (ok' := fun k_ => ((fun _ => True)) k_ ∧ some k_ ≠ (.slice Ao o.length co : Value).ownBlock) (Kd.R_apart' (HI.out) (Kd.S_typed HO.out) (by decide)) (fun k_ hk => ⟨trivial, hk.2⟩))).1 k_ hk_.symm) ?aF ?aO ?aB ?aS ?aL ?_; (case aP => exact Kd.M_row (Kd.R_mono (Kd.R_tight rfl (Kd.R_mono (ok' := fun k_ => ((fun _ => True)) k_ ∧ some k_ ≠ (.slice Ao o.length co : Value).ownBlock) (Kd.R_apart' (HI.out) (Kd.S_typed HO.out) (by decide)) (fun k_ hk => ⟨trivial, hk.2⟩))) (fun _ h_ => h_))); (case aB => exact HB.out); (case aF => exact (fun _ _ => trivial)); (case aO => exact Kd.S_mono HO.out (fun k_ hk => ⟨trivial, fun e_ => hk.2 e_⟩)); (case aS => exact below_size HB.out); (case aL => have := HLEN.out; omega); intro v2_ w6 ho hb hg hat; have n0_ := Aside0.mk hb; have n1_ := Aside0.mk ho; clear HB HO HI ho hb hg hat; have HB := n0_; have HO := n1_; clear n0_ n1_))
       go_roundw
       case rel => exact ⟨s + 1, -1, o ++ [[t, fr, s]], ⟨by have := HS0.out; have := HLE.out; omega⟩, (by first | rfl | (simp; done) | (congr 1)), (by first | rfl | (congr 1; have := HS0.out; have := HLE.out; unfold wrap64; omega)), ⟨by have e := HS0.out.1; rw [show (s + 1).toNat = s.toNat + 1 by omega]; show grStep hold t (grS hold t (grT hold t.toNat) s.toNat) (s.toNat : Nat) = _; rw [HE.out, show ((s.toNat : Nat) : Int) = s by omega]; unfold grStep; rw [if_neg (fun h => by have := HS.out; have := h.1; omega), if_pos HF.out]⟩, HO, HB⟩
       case measure => have := HS0.out; have := HLE.out; have hw : wrap64 (s + 1) = s + 1 := (by unfold wrap64; omega); simp [intOf, hw]; omega
      ·have hf1 : decide (0 ≤ fr) = false := decide_eq_false hf
       have HF := Aside0.mk hf
       clear hf
       go_wp2
       go_roundw
       case rel => exact ⟨s + 1, fr, o, ⟨by have := HS0.out; have := HLE.out; omega⟩, (by first | rfl | (simp; done) | (congr 1)), (by first | rfl | (congr 1; have := HS0.out; have := HLE.out; unfold wrap64; omega)), ⟨by have e := HS0.out.1; rw [show (s + 1).toNat = s.toNat + 1 by omega]; show grStep hold t (grS hold t (grT hold t.toNat) s.toNat) (s.toNat : Nat) = _; rw [HE.out, show ((s.toNat : Nat) : Int) = s by omega]; unfold grStep; rw [if_neg (fun h => by have := HS.out; have := h.1; omega)]; have hF := HF.out; show (if 0 ≤ fr then _ else (o, fr)) = (o, fr); rw [if_neg (by omega)]⟩, HO, HB⟩
       case measure => have := HS0.out; have := HLE.out; have hw : wrap64 (s + 1) = s + 1 := (by unfold wrap64; omega); simp [intOf, hw]; omega
    ·have hs1 : decide (s ≤ 2000) = false := decide_eq_false hs
     have HLE := Aside0.mk hs
     clear hs
     go_wp2
     go_roundw
     case rel => exact ⟨t + 1, ⟨by have := HT.out; omega⟩, (by first | rfl | (congr 1; have := HT.out; unfold wrap64; omega)), ⟨by
      have h1 := HT.out
      have h2 := HS0.out
      have h3 := HLE.out
      rw [show (t + 1).toNat = t.toNat + 1 by omega]
      show Kd.S _ _ _ _ _ _ (grS hold (t.toNat : Nat) (grT hold t.toNat) 2001).1
      rw [show ((t.toNat : Nat) : Int) = t by omega, show 2001 = s.toNat by omega, HE.out]
      exact HO.out⟩, HB⟩
     case measure => have := HT.out; have hw : wrap64 (t + 1) = t + 1 := (by unfold wrap64; omega); simp [intOf, hw]; omega
  ·have hq : decide (t < 20) = false := decide_eq_false q
   have HQ := Aside0.mk q
   clear q
   go_wp2
   go_ret
   exact ⟨_, rfl, by
    have h1 := HT0.out
    have h2 := HQ.out
    unfold gr
    rw [show 20 = t.toNat by omega]
    exact HO.out, HB.out⟩
end grid
namespace grid
set_option maxHeartbeats 8000000 in
set_option maxRecDepth 100000 in
theorem close1.calls (t s : Int) (ba ga : Nat) (G : Int → Int → Bool) (w : World) (hba : w.cell? ⟨ba, 0, none⟩ = some (.pointer (some ⟨ga, 0, none⟩))) (h1 : Grid w ga G) (t0 : 0 ≤ t) (t1 : t < 20) (s0 : 0 ≤ s) (s1 : s < 2000) :
  Calls Try.prog 49 #[.int .i64 t, .int .i64 s, .pointer (some ⟨ba, 0, none⟩)] w fun e w' => e = .returned (.bool (G t s)) ∧ w = w' := by
 obtain ⟨c1, _⟩ := h1.cell t0 t1 s0 s1
 clear h1
 replace t0 := eq_true t0
 replace t1 := eq_true t1
 replace s0 := eq_true s0
 replace s1 := eq_true s1
 go_enter Try.func49, Try.ntmps49
 go_wp2
 go_ret
 exact ⟨rfl, rfl⟩
theorem grS_three (h : Int → Int → Bool) (t : Int) (o : List (List Int)) (ho : ∀ x ∈ o, x.length = 3) : ∀ (s : Nat), ∀ x ∈ (grS h t o s).1, x.length = 3 := by
 intro s
 induction s with
 | zero => exact ho
 | succ s ih =>
  intro x hx
  have e : grS h t o (s + 1) = grStep h t (grS h t o s) s := rfl
  rw [e] at hx
  unfold grStep at hx
  split at hx
  ·exact ih x hx
  ·split at hx
   ·rcases List.mem_append.1 hx with h1 | h1
    ·exact ih x h1
    ·rw [List.mem_singleton.1 h1]; rfl
   ·exact ih x hx
theorem grT_three (h : Int → Int → Bool) : ∀ (n : Nat), ∀ x ∈ grT h n, x.length = 3 := by
 intro n
 induction n with
 | zero => intro x hx; cases hx
 | succ n ih => exact grS_three h n _ ih 2001
theorem gr_three (h : Int → Int → Bool) : ∀ x ∈ gr h, x.length = 3 := grT_three h 20
def holeOf (r : List Int) : S47 := ⟨rd r 0, rd r 1, rd r 2⟩
def sgT : Bool × List (List Nat × List Nat) := (true, [([], []), ([], []), ([1], [1]), ([2], [2]), ([], []), ([4], [4]), ([5], [5]), ([], []), ([7], [7]), ([8], [8]), ([3, 6, 9], [3, 6, 9]), ([10], [10]), ([0, 11], [0, 11]), ([12, 12, 0, 1, 2, 3, 4, 5, 6, 7, 8, 9, 10, 11, 12], [0, 12])])
def sgB : List Nat := [0, 0, 2, 6, 0, 16, 48, 0, 128, 384, 1022, 2046, 4095, 8191]
theorem sg_tab : rtab .any (opsOf Try.f45 5) = sgT := by kernel_rfl
theorem sg_bits : waitsOk sgT.2 sgB = true := by kernel_rfl
theorem infoG : (Try.prog.info? 47).map (fun i => (i.zero, i.size, i.bytes)) = some (some (.agg #[.int .i64 0, .int .i64 0, .int .i64 0]), 3, 24) := by kernel_rfl
def box1 (g : Nat) (w : World) : World := w.alloc (.cells #[.pointer (some ⟨g, 0, none⟩)] 52)
def rowsG (G : Int → Int → Bool) : List S47 := (gr fun t s => G t s).map holeOf
set_option maxHeartbeats 16000000 in
set_option maxRecDepth 100000 in
theorem sheetOfGrid.calls (k g : Nat) (G : Int → Int → Bool) (r1 : List S47) (r2 : Bool) (w : World) (hG : Grid w g G) (h : impl_sheetOf.f k (rowsG G) = some (r1, r2)) :
  Calls Try.prog 45 #[.pointer (some ⟨g, 0, none⟩)] w fun e w' => ∃ v0_ : Value, e = .returned (.tuple #[v0_, .bool r2]) ∧ Kd.R k47 47 w' w.heap.size (fun _ => True) v0_ r1 ∧ Below w.heap.size w w' := by
 have hbs : Below w.heap.size w (box1 g w) := below_alloc (Below.refl _ _) _
 have HBX := Aside0.mk hbs
 have HGW := Aside0.mk (hG.below hbs)
 have HBC := Aside0.mk (show (box1 g w).cell? ⟨w.heap.size, 0, none⟩ = some (.pointer (some ⟨g, 0, none⟩)) from by simp [box1])
 have HBL := Aside0.mk (World.block_lt_of_cell? _ _ HBC.out)
 have HF := Aside0.mk h
 clear h hG hbs
 have hmf : ∀ (fn : Fn) (first cap : Array Value) (w : World), (Instr.makeFunc fn first cap).run Try.prog w = .ok (.func fn first cap) w := fun _ _ _ _ => rfl
 go_enter Try.func45, Try.ntmps45
 go_wp2_with (first | ((with_reducible refine gate_dst (N := 7) rfl ?_); refine Kd.R_lit k47 _ 47 ?hg (N := 7) ?hd (xs := ([] : List S47)) (inner := []) (ok := fun _ => True) (okp := fun _ => True) ?hr ?hp (fun _ hk => hk) trivial (Below.refl _ _) (Nat.le_refl _) (by simp) ?_; (case hd => rfl); (case hg => rfl); (case hr => first | (go_simp; done) | (go_simp; rfl)); (case hp => exact (Reps.none _ _)); intro v1 w1 ho hb hg_ hnew_; have HO := Aside0.mk (show Kd.R k47 47 w1 (box1 g w).heap.size (fun _ => True) v1 [] from ho); have HB := Aside0.mk (show Below (box1 g w).heap.size (box1 g w) w1 from hb); have HV1 := Aside0.mk (Kd.R_bound ho).1; clear ho hb hg_ hnew_) | (go_at_call 48; refine (grid.gridRanges_sheet.calls (fun t s => G t s) w.heap.size _ ?hcl).mono ?_; (case hcl => intro W hbW t s t0 t1 s0 s1; exact grid.close1.calls t s w.heap.size g G W ((hbW.cell (p := ⟨w.heap.size, 0, none⟩) (Nat.lt_of_lt_of_le HBL.out HB.out.size)).trans ((HB.out.cell (p := ⟨w.heap.size, 0, none⟩) HBL.out).trans HBC.out)) ((HGW.out.below HB.out).below hbW) t0 t1 s0 s1); rintro e w2 ⟨v2, rfl, ho2, hb2⟩; obtain ⟨At, ct, et⟩ := Kd.S_slice ho2; subst et; have HS := Aside0.mk (Kd.S_mono (Kd.S_bound ho2) (fun k_ hk_ => (show True ∧ some k_ ≠ v1.ownBlock from ⟨trivial, fun e_ => by have h1_ := (HV1.out k_ e_.symm).2.2.1; have h2_ := hk_.2.1; omega⟩))); have n0_ := Aside0.mk (Kd.R_below HO.out hb2); have n1_ := Aside0.mk (below_step HB.out hb2); clear HO HB ho2 hb2; have HO := n0_; have HB := n1_; clear n0_ n1_))
 obtain ⟨rows, hrows⟩ : ∃ rows, rows = gr (fun t s => G t s) := ⟨_, rfl⟩
 rw [← hrows] at HS ⊢
 have HRL := Aside0.mk (show rows.length ≤ 40020 from by rw [hrows]; exact gr_len _)
 have HR3 := Aside0.mk (show ∀ x ∈ rows, x.length = 3 from by rw [hrows]; exact gr_three _)
 have HRW := Aside0.mk hrows
 clear hrows
 go_loopw [4, 11] (fun v4 v11 wr => ∃ (i : Int) (out : List S47), Aside0 (0 ≤ i ∧ i ≤ rows.length) ∧ v11 = .int .i64 i ∧ Aside0 (out = (rows.take i.toNat).map holeOf) ∧ Aside0 (Kd.R k47 47 wr (box1 g w).heap.size (fun _ => True) v4 out) ∧ Aside0 (Kd.S (Kd.slice 3 (Kd.int .i64)) 39 wr w1.heap.size (fun k => True ∧ some k ≠ v4.ownBlock) (.slice At rows.length ct) rows) ∧ Aside0 (Below (box1 g w).heap.size (box1 g w) wr)) (fun _ v11 _ => ((rows.length : Int) - intOf v11).toNat)
 case atStart => exact ⟨0, [], ⟨by omega⟩, rfl, ⟨rfl⟩, HO, HS, HB⟩
 case round =>
  clear HO HS HB
  obtain ⟨i, out, HI, rfl, HE, HO, HS, HB⟩ := hrel
  obtain ⟨Ao, co, eo⟩ := Kd.R_slice HO.out
  subst eo
  have HOL := Aside0.mk (show out.length ≤ 40020 from by rw [HE.out, List.length_map, List.length_take]; have := HRL.out; omega)
  by_cases q : i < (rows.length : Int)
  ·have p : 0 ≤ i := HI.out.1
   have HI2 := Aside0.mk (show 0 ≤ i ∧ i < rows.length from ⟨p, q⟩)
   have hlt : i.toNat < rows.length := by omega
   obtain ⟨go, cs, eo2, _⟩ := Kd.S_form HS.out (by omega)
   cases eo2
   obtain ⟨oki, c, hcl, hM, hcc, hoki, hback⟩ := Kd.S_borrow HS.out [] i p q
   obtain ⟨y, ey⟩ : ∃ y, y = rows.getD i.toNat [] := ⟨_, rfl⟩
   have hy : rows[i.toNat]? = some y := by rw [ey, List.getD_eq_getElem?_getD, List.getElem?_eq_getElem hlt]; rfl
   rw [← ey] at hM
   have HX := Aside0.mk hy
   have hyl := HR3.out y (List.mem_of_getElem? hy)
   obtain ⟨hv', ec, hrowy⟩ := hM
   have hcy := hcc 0 hv' (by rw [ec]; rfl)
   rw [add_plain, show i.toNat * (Kd.slice 3 (Kd.int .i64)).sz + 0 = i.toNat from by rw [show (Kd.slice 3 (Kd.int .i64)).sz = 1 from rfl]; omega] at hcy
   obtain ⟨gy, cy, ey', gyb, gyl, cyl⟩ := Kd.R_form hrowy (by omega)
   subst ey'
   have HNE := Aside0.mk (show some gy ≠ (Value.slice Ao out.length co).ownBlock from (hoki gy (hrowy.1 gy (by simp [Value.ownBlock]))).1.2)
   rw [hyl] at hrowy hcy
   have hy0 : wr.cell? ⟨gy, 0, none⟩ = some (.int .i64 (rd y 0)) := (Kd.R_celln 0 hrowy 0 (by omega) (by omega)).1
   have hy1 : wr.cell? ⟨gy, 1, none⟩ = some (.int .i64 (rd y 1)) := (Kd.R_celln 0 hrowy 1 (by omega) (by omega)).1
   have hy2 : wr.cell? ⟨gy, 2, none⟩ = some (.int .i64 (rd y 2)) := (Kd.R_celln 0 hrowy 2 (by omega) (by omega)).1
   have qb : decide (i < (rows.length : Int)) = true := decide_eq_true q
   replace p := eq_true p
   replace q := eq_true q
   clear hcl hcc hoki hback hy hyl hrowy gyb gyl cyl ec hlt ey
   go_wp2
   refine start_ (n := 14) (S := fun w' => w'.cell? ⟨gy, 0, none⟩ = some (.int .i64 (rd y 0)) ∧ w'.cell? ⟨gy, 1, none⟩ = some (.int .i64 (rd y 1)) ∧ w'.cell? ⟨gy, 2, none⟩ = some (.int .i64 (rd y 2))) (ds := []) #[false, false, false, false, false, false, false, false, false, false, false, false, false, false] (by kernel_rfl) rfl rfl ⟨hy0, hy1, hy2⟩ (fun hHeld => ?_)
   refine with_tabW sg_tab sg_bits (fun HT_ HW_ => ?_)
   obtain ⟨w5, hw5⟩ : ∃ w5, w5 = wr.drew := ⟨_, rfl⟩
   have HO5 := Aside0.mk (show Kd.R k47 47 w5 (box1 g w).heap.size (fun _ => True) (.slice Ao out.length co) out from by rw [hw5]; exact Kd.R_drew HO.out)
   have HS5 := Aside0.mk (show Kd.S (Kd.slice 3 (Kd.int .i64)) 39 w5 w1.heap.size (fun k => True ∧ some k ≠ (Value.slice Ao out.length co).ownBlock) (.slice (some ⟨go, 0, none⟩) rows.length ct) rows from by rw [hw5]; exact Kd.S_drew HS.out)
   have HB5 := Aside0.mk (show Below (box1 g w).heap.size (box1 g w) w5 from by rw [hw5]; exact below_drew1 HB.out)
   have hlt5 : gy < w5.heap.size := by rw [hw5]; exact World.block_lt_of_cell? wr _ hy0
   rw [← hw5] at hHeld ⊢
   clear hw5 HO HS HB
   refine pure_ (i := 0) (N := some 15) (v := ?_) (a' := ?_) #[true, false, false, false, false, false, false, false, false, false, false, false, false, false] rfl rfl (any_of HT_.out (by kernel_rfl)) (fun _ _ _ h => h) (Or.inl ⟨by rfl, ?_⟩) ?_ ?_
   rotate_left
   ·intro w'
    go_simp
    with_reducible rfl
   rotate_left
   ·simp only [Act.put, List.setIfInBounds_toArray, List.set_cons_zero, List.set_cons_succ, i64_w, i32_w]
    rfl
   refine pure_ (i := 1) (N := some 16) (v := ?_) (a' := ?_) #[true, true, false, false, false, false, false, false, false, false, false, false, false, false] rfl rfl (any_of HT_.out (by kernel_rfl)) (fun _ _ _ h => h) (Or.inl ⟨by rfl, ?_⟩) ?_ ?_
   rotate_left
   ·intro w'
    go_simp
    with_reducible rfl
   rotate_left
   ·simp only [Act.put, List.setIfInBounds_toArray, List.set_cons_zero, List.set_cons_succ, i64_w, i32_w]
    rfl
   refine pure_ (i := 2) (N := some 17) (v := ?_) (a' := ?_) #[true, true, true, false, false, false, false, false, false, false, false, false, false, false] rfl rfl (any_of HT_.out (by kernel_rfl)) (fun _ _ _ h => h) (Or.inl ⟨by rfl, ?_⟩) ?_ ?_
   rotate_left
   ·intro w'
    go_simp
    with_reducible rfl
   rotate_left
   ·simp only [Act.put, List.setIfInBounds_toArray, List.set_cons_zero, List.set_cons_succ, i64_w, i32_w]
    rfl
   refine take_ (i := 3) (N := some 18) (v := ?_) (a' := ?_) #[true, true, true, true, false, false, false, false, false, false, false, false, false, false] rfl rfl (take_ofW HT_.out HW_.out (by kernel_rfl)) (fun _ _ _ h => h) (Or.inl ⟨by rfl, ?_⟩) hHeld ?_ ?_
   rotate_left
   ·rintro w' ⟨s0, s1, s2⟩
    go_simp
    with_reducible rfl
   rotate_left
   ·simp only [Act.put, List.setIfInBounds_toArray, List.set_cons_zero, List.set_cons_succ, i64_w, i32_w]
    rfl
   refine pure_ (i := 4) (N := some 19) (v := ?_) (a' := ?_) #[true, true, true, true, true, false, false, false, false, false, false, false, false, false] rfl rfl (any_of HT_.out (by kernel_rfl)) (fun _ _ _ h => h) (Or.inl ⟨by rfl, ?_⟩) ?_ ?_
   rotate_left
   ·intro w'
    go_simp
    with_reducible rfl
   rotate_left
   ·simp only [Act.put, List.setIfInBounds_toArray, List.set_cons_zero, List.set_cons_succ, i64_w, i32_w]
    rfl
   refine pure_ (i := 5) (N := some 20) (v := ?_) (a' := ?_) #[true, true, true, true, true, true, false, false, false, false, false, false, false, false] rfl rfl (any_of HT_.out (by kernel_rfl)) (fun _ _ _ h => h) (Or.inl ⟨by rfl, ?_⟩) ?_ ?_
   rotate_left
   ·intro w'
    go_simp
    with_reducible rfl
   rotate_left
   ·simp only [Act.put, List.setIfInBounds_toArray, List.set_cons_zero, List.set_cons_succ, i64_w, i32_w]
    rfl
   refine take_ (i := 6) (N := some 21) (v := ?_) (a' := ?_) #[true, true, true, true, true, true, true, false, false, false, false, false, false, false] rfl rfl (take_ofW HT_.out HW_.out (by kernel_rfl)) (fun _ _ _ h => h) (Or.inl ⟨by rfl, ?_⟩) hHeld ?_ ?_
   rotate_left
   ·rintro w' ⟨s0, s1, s2⟩
    go_simp
    with_reducible rfl
   rotate_left
   ·simp only [Act.put, List.setIfInBounds_toArray, List.set_cons_zero, List.set_cons_succ, i64_w, i32_w]
    rfl
   refine pure_ (i := 7) (N := some 22) (v := ?_) (a' := ?_) #[true, true, true, true, true, true, true, true, false, false, false, false, false, false] rfl rfl (any_of HT_.out (by kernel_rfl)) (fun _ _ _ h => h) (Or.inl ⟨by rfl, ?_⟩) ?_ ?_
   rotate_left
   ·intro w'
    go_simp
    with_reducible rfl
   rotate_left
   ·simp only [Act.put, List.setIfInBounds_toArray, List.set_cons_zero, List.set_cons_succ, i64_w, i32_w]
    rfl
   refine pure_ (i := 8) (N := some 23) (v := ?_) (a' := ?_) #[true, true, true, true, true, true, true, true, true, false, false, false, false, false] rfl rfl (any_of HT_.out (by kernel_rfl)) (fun _ _ _ h => h) (Or.inl ⟨by rfl, ?_⟩) ?_ ?_
   rotate_left
   ·intro w'
    go_simp
    with_reducible rfl
   rotate_left
   ·simp only [Act.put, List.setIfInBounds_toArray, List.set_cons_zero, List.set_cons_succ, i64_w, i32_w]
    rfl
   refine take_ (i := 9) (N := some 24) (v := ?_) (a' := ?_) #[true, true, true, true, true, true, true, true, true, true, false, false, false, false] rfl rfl (take_ofW HT_.out HW_.out (by kernel_rfl)) (fun _ _ _ h => h) (Or.inl ⟨by rfl, ?_⟩) hHeld ?_ ?_
   rotate_left
   ·rintro w' ⟨s0, s1, s2⟩
    go_simp
    with_reducible rfl
   rotate_left
   ·simp only [Act.put, List.setIfInBounds_toArray, List.set_cons_zero, List.set_cons_succ, i64_w, i32_w]
    rfl
   refine pure_ (i := 10) (N := some 25) (v := ?_) (a' := ?_) #[true, true, true, true, true, true, true, true, true, true, true, false, false, false] rfl rfl (any_of HT_.out (by kernel_rfl)) (fun _ _ _ h => h) (Or.inl ⟨by rfl, ?_⟩) ?_ ?_
   rotate_left
   ·intro w'
    go_simp
    with_reducible rfl
   rotate_left
   ·simp only [Act.put, List.setIfInBounds_toArray, List.set_cons_zero, List.set_cons_succ, i64_w, i32_w]
    rfl
   refine one_ (i := 11) (N := some 26) #[true, true, true, true, true, true, true, true, true, true, true, true, false, false] rfl rfl (one_of HT_.out (by kernel_rfl)) (by decide) (fun K hK => ?_)
   refine value_ (w1 := ?_) (v := ?_) (by rfl) rfl ?_ ?_
   rotate_left 2
   ·go_simp
    constructor
    ·rfl
    ·rfl
   obtain ⟨g0, g1, g2⟩ := hHeld
   refine hK.out _ _ ⟨(Below.cell (below_alloc (Below.refl _ _) _) (p := ⟨gy, 0, none⟩) hlt5).trans g0, (Below.cell (below_alloc (Below.refl _ _) _) (p := ⟨gy, 1, none⟩) hlt5).trans g1, (Below.cell (below_alloc (Below.refl _ _) _) (p := ⟨gy, 2, none⟩) hlt5).trans g2⟩ (fun hHeld => ?_)
   clear hK K
   refine norm_ (a' := ?_) ?_ ?_
   rotate_left
   ·show Act.put _ (some 26) _ = _
    simp only [Act.put, List.setIfInBounds_toArray, List.set_cons_zero, List.set_cons_succ, i64_w, i32_w]
    rfl
   refine one_ (i := 12) (N := some 27) #[true, true, true, true, true, true, true, true, true, true, true, true, true, false] rfl rfl (one_of HT_.out (by kernel_rfl)) (by decide) (fun K hK => ?_)
   refine Kd.R_append_step k47 (w0 := box1 g w) (box1 g w).heap.size (by rfl) (.tmp 15) (.tmp 26) 28 47 (.agg #[.int .i64 0, .int .i64 0, .int .i64 0]) 24 rfl Try.underlying28 infoG rfl (by decide) (by omega) (.slice Ao out.length co) out (holeOf y) [.int .i64 (rd y 0), .int .i64 (rd y 1), .int .i64 (rd y 2)] (fun _ => True) (fun _ => False) rfl rfl ?aP (fun _ hk => hk.elim) ?aF ?aO ?aB ?aS ?aL ?_
   (case aP => exact k47_mkM _ _ _ (holeOf y))
   (case aF => exact (fun _ _ => trivial))
   (case aO => exact HO5.out)
   (case aB => exact HB5.out)
   (case aS => exact below_size HB5.out)
   (case aL => have := HOL.out; omega)
   intro v6 w6 ho hb hg hat
   have HO6 := Aside0.mk ho
   have HB6 := Aside0.mk hb
   have HS6 := Aside0.mk (Kd.S_after HS5.out hg hat)
   obtain ⟨A6, c6, e6⟩ := Kd.R_slice ho
   subst e6
   refine hK.out _ _ ⟨(World.cell?_of_block (a := ⟨gy, 0, none⟩) (hg.block gy hlt5 HNE.out)).trans g0, (World.cell?_of_block (a := ⟨gy, 1, none⟩) (hg.block gy hlt5 HNE.out)).trans g1, (World.cell?_of_block (a := ⟨gy, 2, none⟩) (hg.block gy hlt5 HNE.out)).trans g2⟩ (fun hHeld => ?_)
   clear ho hb hg hat
   clear hK K
   refine norm_ (a' := ?_) ?_ ?_
   rotate_left
   ·show Act.put _ (some 27) _ = _
    simp only [Act.put, List.setIfInBounds_toArray, List.set_cons_zero, List.set_cons_succ, i64_w, i32_w]
    rfl
   refine pure_ (i := 13) (N := some 4) (v := ?_) (a' := ?_) #[true, true, true, true, true, true, true, true, true, true, true, true, true, true] rfl rfl (any_of HT_.out (by kernel_rfl)) (fun _ _ _ h => h) (Or.inl ⟨by rfl, ?_⟩) ?_ ?_
   rotate_left
   ·intro w'
    go_simp
    with_reducible rfl
   rotate_left
   ·simp only [Act.put, List.setIfInBounds_toArray, List.set_cons_zero, List.set_cons_succ, i64_w, i32_w]
    rfl
   refine done_ (done_of HT_.out (by kernel_rfl)) ?_
   go_wp2
   go_roundw
   case rel => exact ⟨i + 1, out ++ [holeOf y], ⟨by have := HI2.out; omega⟩, (by first | rfl | (congr 1; have := HI2.out; have := HRL.out; unfold wrap64; omega)), ⟨by
    have h0 := HI2.out.1
    rw [show (i + 1).toNat = i.toNat + 1 by omega, List.take_add_one, HX.out, List.map_append, ← HE.out]
    rfl⟩, ⟨by have h6 := HO6.out; rw [List.length_append, List.length_singleton] at h6; exact h6⟩, ⟨by have h6 := HS6.out; rw [List.length_append, List.length_singleton] at h6; exact h6⟩, HB6⟩
   case measure => have := HI2.out; have := HRL.out; have hw : wrap64 (i + 1) = i + 1 := (by unfold wrap64; omega); simp [intOf, hw]; omega
  ·have qb : decide (i < (rows.length : Int)) = false := decide_eq_false q
   have hE : out = rowsG G := by
    have h1 := HI.out
    rw [HE.out, show i.toNat = rows.length by omega, List.take_length, HRW.out]
    rfl
   subst hE
   clear q
   go_wp2_with (first | (go_at_call 50; (refine (impl_sheetOf.calls k Ao co (rowsG G) r1 r2 _ (Kd.R_reads' HO.out).2.2 (Kd.R_reads' HO.out).2.1 HF.out).mono ?_); rintro e w7 ⟨v7, rfl, hr, hb⟩; have HR7 := Aside0.mk hr; have HB7 := Aside0.mk hb; clear hr hb))
   go_ret2
   exact ⟨_, rfl, Kd.R_lower HR7.out (below_size (below_step HBX.out HB.out)), below_step (below_step HBX.out HB.out) HB7.out⟩
end grid
namespace grid
def allB (G : Int → Int → Bool) (op : Bool) (t a b : Int) : Bool := (List.range (b - a).toNat).all fun j => G t (a + (j : Nat)) == op
def jrJoins (G : Int → Int → Bool) (op : Bool) (fixed each : Int) (y r : List Int) : Prop :=
 rd y 0 = rd r 0 ∧ wrap64 (wrap64 (rd r 1 - rd y 2) * each) < fixed ∧ allB G op (rd r 0) (rd y 2) (rd r 1) = true
instance (G : Int → Int → Bool) (op : Bool) (fixed each : Int) (y r : List Int) : Decidable (jrJoins G op fixed each y r) := by unfold jrJoins; infer_instance
def okR (r : List Int) : Prop := r.length = 3 ∧ 0 ≤ rd r 0 ∧ rd r 0 < 20 ∧ 0 ≤ rd r 1 ∧ rd r 1 ≤ 2000 ∧ 0 ≤ rd r 2 ∧ rd r 2 ≤ 2000
end grid
namespace grid
/-- The grid behind a range's steps up to m. -/
def rgTo (G : Int → Int → Bool) (op : Bool) (x : List Int) (m : Int) : Int → Int → Bool := fun t s => if rd x 0 = t ∧ rd x 1 ≤ s ∧ s < m then op else G t s
def rgOne (op : Bool) (G : Int → Int → Bool) (x : List Int) : Int → Int → Bool := rgTo G op x (rd x 2)
def rgAll (op : Bool) (G : Int → Int → Bool) (xs : List (List Int)) : Int → Int → Bool := xs.foldl (rgOne op) G
theorem rgTo_step (G : Int → Int → Bool) (op : Bool) (x : List Int) (m : Int) (hm : rd x 1 ≤ m) (t s : Int) : upd (rgTo G op x m) (rd x 0) m op t s = rgTo G op x (m + 1) t s := by
 unfold upd rgTo
 by_cases e : t = rd x 0 ∧ s = m
 ·rw [if_pos e, if_pos ⟨e.1.symm, by omega, by omega⟩]
 ·rw [if_neg e]
  by_cases h : rd x 0 = t ∧ rd x 1 ≤ s ∧ s < m
  ·rw [if_pos h, if_pos ⟨h.1, h.2.1, by omega⟩]
  ·rw [if_neg h, if_neg (fun h' => h ⟨h'.1, h'.2.1, by have : s ≠ m := fun e2 => e ⟨h'.1.symm, e2⟩; omega⟩)]
theorem rgTo_zero (G : Int → Int → Bool) (op : Bool) (x : List Int) (t s : Int) : rgTo G op x (rd x 1) t s = G t s := by
 unfold rgTo
 rw [if_neg (fun h => by omega)]
theorem rgAll_snoc (op : Bool) (G : Int → Int → Bool) (xs : List (List Int)) (x : List Int) : rgAll op G (xs ++ [x]) = rgOne op (rgAll op G xs) x := by
 unfold rgAll
 rw [List.foldl_append]
 rfl
set_option maxHeartbeats 8000000 in
set_option maxRecDepth 100000 in
theorem apply.calls (g : Nat) (G : Int → Int → Bool) (op : Bool) (A0 : Option Addr) (c0 : Nat) (l0 : List (List Int)) (w0 w : World) (hr0 : Kd.C (Kd.slice 3 (Kd.int .i64)) w0 A0 l0.length l0) (hB : Below w0.heap.size w0 w) (hg : w0.heap.size ≤ g) (hG : Grid w g G) (hok : ∀ x ∈ l0, okR x) :
  Calls Try.prog 33 #[.pointer (some ⟨g, 0, none⟩), .slice A0 l0.length c0, .bool op] w fun e w' => e = .returned (.tuple #[]) ∧ Grid w' g (rgAll op G l0) ∧ Below w0.heap.size w0 w' ∧ Kept w w' (fun k => k = g) := by
 have HR := Aside0.mk hr0
 have HB := Aside0.mk hB
 have HGG := Aside0.mk hg
 have HG := Aside0.mk hG
 have HOK := Aside0.mk hok
 have HL := Aside0.mk hr0.2.1
 have HK := Aside0.mk (Kept.refl w (fun k => k = g))
 clear hr0 hB hg hG hok
 go_enter Try.func33, Try.ntmps33
 go_wp2
 go_loopw [11] (fun v wr => ∃ i : Int, Aside0 (0 ≤ i ∧ i ≤ l0.length) ∧ v = .int .i64 i ∧ Aside0 (Grid wr g (rgAll op G (l0.take i.toNat))) ∧ Aside0 (Below w0.heap.size w0 wr) ∧ Aside0 (Kept w wr (fun k => k = g))) (fun v _ => ((l0.length : Int) - intOf v).toNat)
 case atStart => exact ⟨0, ⟨by omega⟩, rfl, ⟨HG.out⟩, HB, HK⟩
 case round =>
  clear HG HB HK
  obtain ⟨i, hi, rfl, HG, HB, HK⟩ := hrel
  by_cases q : i < (l0.length : Int)
  ·have p : 0 ≤ i := hi.out.1
   have hlt : i.toNat < l0.length := by omega
   obtain ⟨ad, Ax, cx, eA, hxc0, hxl, hxr⟩ := atRow HR.out i p q
   subst eA
   have hxc := (HB.out.cell (World.block_lt_of_cell? w0 _ hxc0)).trans hxc0
   obtain ⟨x, hx⟩ : ∃ x, x = l0.getD i.toNat [] := ⟨_, rfl⟩
   rw [← hx] at hxc hxl hxr
   have ex : l0[i.toNat]? = some x := by rw [hx, List.getD_eq_getElem?_getD, List.getElem?_eq_getElem hlt]; rfl
   have HX := Aside0.mk ex
   have HXV := Aside0.mk (HOK.out x (List.mem_of_getElem? ex))
   have hx3 := HXV.out.1
   rw [hx3] at hxc hxl hxr
   obtain ⟨xd, exd, hxr0⟩ := Kd.at_int hxr 0 (by omega) (by omega)
   obtain ⟨xd1, exd1, hxr1⟩ := Kd.at_int hxr 1 (by omega) (by omega)
   obtain ⟨xd2, exd2, hxr2⟩ := Kd.at_int hxr 2 (by omega) (by omega)
   cases exd
   cases exd1
   cases exd2
   rw [show ((0 : Int)).toNat = 0 from rfl, Addr.add_zero'] at hxr0
   simp only [show (1 : Int).toNat = 1 from rfl, Nat.reduceMul, Nat.reduceEqDiff, Go.Addr.add, ↓reduceIte] at hxr1
   simp only [show (2 : Int).toNat = 2 from rfl, Nat.reduceMul, Nat.reduceEqDiff, Go.Addr.add, ↓reduceIte] at hxr2
   have HX0 := Aside0.mk hxr0
   have HX1 := Aside0.mk hxr1
   have HX2 := Aside0.mk hxr2
   have hx1 := (HB.out.cell (World.block_lt_of_cell? w0 _ hxr1)).trans hxr1
   clear hxr0 hxr1 hxr2 hxr hxl hx ex hx3
   have HLT := Aside0.mk hlt
   replace p := eq_true p
   replace q := eq_true q
   clear hlt
   go_wp2
   clear hxc hx1
   go_loopw [8] (fun v wi => ∃ m : Int, Aside0 (rd x 1 ≤ m ∧ (m ≤ rd x 2 ∨ m = rd x 1)) ∧ v = .int .i64 m ∧ Aside0 (Grid wi g (rgTo (rgAll op G (l0.take i.toNat)) op x m)) ∧ Aside0 (Below w0.heap.size w0 wi) ∧ Aside0 (Kept w wi (fun k => k = g))) (fun v _ => (rd x 2 - intOf v).toNat)
   case atStart => exact ⟨rd x 1, ⟨Int.le_refl _, .inr rfl⟩, rfl, ⟨HG.out.congr (fun t s _ _ => (rgTo_zero _ _ _ _ _).symm)⟩, HB, HK⟩
   case round =>
    clear HG HB HK p q
    obtain ⟨m, hm, rfl, HG, HB, HK⟩ := hrel
    have hx0 := (HB.out.cell (World.block_lt_of_cell? w0 _ HX0.out)).trans HX0.out
    have hx2 := (HB.out.cell (World.block_lt_of_cell? w0 _ HX2.out)).trans HX2.out
    by_cases hlt : m < rd x 2
    ·have hb : decide (m < rd x 2) = true := decide_eq_true hlt
     have h0 : 0 ≤ rd x 0 := HXV.out.2.1
     have h1 : rd x 0 < 20 := HXV.out.2.2.1
     have h2 : 0 ≤ m := by have := HXV.out.2.2.2.1; have := hm.out; omega
     have h3 : m < 2000 := by have := HXV.out.2.2.2.2.2.2; omega
     obtain ⟨hgc, hgf⟩ := HG.out.cell h0 h1 h2 h3
     have HM := Aside0.mk (show 0 ≤ rd x 0 ∧ rd x 0 < 20 ∧ 0 ≤ m ∧ m < 2000 ∧ m < rd x 2 from ⟨h0, h1, h2, h3, hlt⟩)
     replace h0 := eq_true h0
     replace h1 := eq_true h1
     replace h2 := eq_true h2
     replace h3 := eq_true h3
     clear hlt
     go_wp2
     go_region
     obtain ⟨w4, hw4⟩ : ∃ w4, w4 = (wr.setCell ⟨g, (rd x 0).toNat * 2000 + m.toNat, none⟩ (.bool op)).drew := ⟨_, rfl⟩
     rw [← hw4]
     have n0_ := Aside0.mk (show Grid w4 g (rgTo (rgAll op G (l0.take i.toNat)) op x (m + 1)) from by
      rw [hw4]
      exact ((HG.out.set HM.out.1 HM.out.2.1 HM.out.2.2.1 HM.out.2.2.2.1 op).congr (fun t s _ _ => rgTo_step _ op x m hm.out.1 t s)).move rfl)
     have n1_ := Aside0.mk (show Below w0.heap.size w0 w4 from by rw [hw4]; exact below_drew1 (below_set HB.out HGG.out))
     have n2_ := Aside0.mk (show Kept w w4 (fun k => k = g) from by rw [hw4]; exact (HK.out.setCell (p := ⟨g, (rd x 0).toNat * 2000 + m.toNat, none⟩) (.inl rfl) _).drew)
     clear hgc hgf hw4 HG HB HK hx0 hx2
     have HG := n0_
     have HB := n1_
     have HK := n2_
     clear n0_ n1_ n2_
     go_wp2
     go_roundw
     case rel => exact ⟨m + 1, ⟨by have := HM.out; have := hm.out; omega⟩, (by first | rfl | (congr 1; have := HM.out; unfold wrap64; omega)), HG, HB, HK⟩
     case measure => have := HM.out; have hw : wrap64 (m + 1) = m + 1 := (by unfold wrap64; omega); simp [intOf, hw]; omega
    ·have hb : decide (m < rd x 2) = false := decide_eq_false hlt
     have HM := Aside0.mk hlt
     clear hlt
     go_wp2
     go_roundw
     case rel => exact ⟨i + 1, ⟨by have := HLT.out; have := hi.out; omega⟩, (by first | rfl | (congr 1; have := HLT.out; have := HL.out; have := hi.out; unfold wrap64; omega)), ⟨HG.out.congr (fun t s _ _ => by
      have hi0 := hi.out.1
      have e : l0.take (i + 1).toNat = l0.take i.toNat ++ [x] := by
       rw [show (i + 1).toNat = i.toNat + 1 by omega, List.take_add_one, HX.out]
       rfl
      rw [e, rgAll_snoc]
      unfold rgOne rgTo
      have h1 := HM.out
      have h2 := hm.out
      by_cases h : rd x 0 = t ∧ rd x 1 ≤ s ∧ s < rd x 2
      ·rw [if_pos h, if_pos ⟨h.1, h.2.1, by omega⟩]
      ·rw [if_neg h, if_neg (fun h' => h ⟨h'.1, h'.2.1, by omega⟩)])⟩, HB, HK⟩
     case measure => have := HLT.out; have := hi.out; have := HL.out; have hw : wrap64 (i + 1) = i + 1 := (by unfold wrap64; omega); simp [intOf, hw]; omega
  ·have hb : decide (i < (l0.length : Int)) = false := decide_eq_false q
   have HQ := Aside0.mk q
   clear q
   go_wp2
   go_end0
   refine ⟨rfl, HG.out.congr (fun t s _ _ => ?_), HB.out, HK.out⟩
   have hi0 := hi.out
   have hq := HQ.out
   rw [show l0.take i.toNat = l0 from List.take_of_length_le (by omega)]
end grid
namespace grid
def okHB (h : S47) : Bool := decide (0 ≤ h.f0 ∧ h.f0 < 20 ∧ 0 ≤ h.f1 ∧ h.f2 ≤ 2000)
theorem okHB_all {l : List S47} (h : l.all okHB = true) : ∀ x ∈ l, okH x := fun x hx => by
 have := List.all_eq_true.1 h x hx
 simpa [okHB, okH] using this
def okRB (r : List Int) : Bool := decide (r.length = 3 ∧ 0 ≤ rd r 0 ∧ rd r 0 < 20 ∧ 0 ≤ rd r 1 ∧ rd r 1 ≤ 2000 ∧ 0 ≤ rd r 2 ∧ rd r 2 ≤ 2000)
theorem okRB_all {l : List (List Int)} (h : l.all okRB = true) : ∀ x ∈ l, okR x := fun x hx => by
 have := List.all_eq_true.1 h x hx
 simpa [okRB, okR] using this
end grid
def impl_applied.f (k : Nat) (l0 : List (S47)) (l1 : List (List Int)) (a2 : Bool) : Option (List (S47) × Bool) := (impl_IsSheet.f k l0).bind fun q => if q = true then ((impl_areRanges.f k l1).bind fun q => if q = true then (if (l0.all grid.okHB && l1.all grid.okRB) = true then impl_sheetOf.f k (grid.rowsG (grid.rgAll a2 (grid.openAt l0) l1)) else none) else some ([], false)) else some ([], false)
set_option maxHeartbeats 8000000 in
set_option maxRecDepth 100000 in
theorem impl_applied.calls (k : Nat) (A0 : Option Addr) (c0 : Nat) (l0 : List (S47)) (A1 : Option Addr) (c1 : Nat) (l1 : List (List Int)) (a2 : Bool) (r1 : List (S47)) (r2 : Bool) (w : World) (hr0 : Kd.C k47 w A0 l0.length l0) (hc0 : l0.length ≤ c0) (hr1 : Kd.C (Kd.slice 3 (Kd.int .i64)) w A1 l1.length l1) (hc1 : l1.length ≤ c1) (h : impl_applied.f k l0 l1 a2 = some (r1, r2)) :
  Calls Try.prog 38 #[.slice A0 l0.length c0, .slice A1 l1.length c1, .bool a2] w fun e w' => ∃ v0_ : Value, e = .returned (.tuple #[v0_, .bool r2]) ∧ Kd.R k47 47 w' w.heap.size (fun _ => True) v0_ r1 ∧ Below w.heap.size w w' := by
 unfold impl_applied.f at h
 have HR0 := Aside0.mk hr0
 have HC0 := Aside0.mk hc0
 have HR1 := Aside0.mk hr1
 have HC1 := Aside0.mk hc1
 have HB := Aside0.mk (Below.refl w.heap.size w)
 clear hr0 hc0 hr1 hc1
 obtain ⟨q0, hq0, h⟩ := Option.bind_eq_some_iff.1 h
 have HQ0 := Aside0.mk hq0
 clear hq0
 cases q0 with
 | false =>
  rw [if_neg (by decide)] at h
  cases h
  go_enter Try.func38, Try.ntmps38
  go_wp2_with (first | (go_at_call 29; (with_reducible refine (impl_IsSheet.calls k _ _ l0 false _ ?s1 ?s2 HQ0.out).mono ?_); (case s1 => exact Kd.C_below HR0.out HB.out); (case s2 => exact HC0.out); rintro e w1 ⟨rfl, hb⟩; have n0_ := Aside0.mk (below_step HB.out hb); clear HB hb; have HB := n0_; clear n0_))
  go_ret2
  exact ⟨_, rfl, Kd.R_nil _ _ _ _ _, HB.out⟩
 | true =>
  rw [if_pos rfl] at h
  obtain ⟨q1, hq1, h⟩ := Option.bind_eq_some_iff.1 h
  have HQ1 := Aside0.mk hq1
  clear hq1
  cases q1 with
  | false =>
   rw [if_neg (by decide)] at h
   cases h
   go_enter Try.func38, Try.ntmps38
   go_wp2_with (first | (go_at_call 29; (with_reducible refine (impl_IsSheet.calls k _ _ l0 true _ ?s1 ?s2 HQ0.out).mono ?_); (case s1 => exact Kd.C_below HR0.out HB.out); (case s2 => exact HC0.out); rintro e w1 ⟨rfl, hb⟩; have n0_ := Aside0.mk (below_step HB.out hb); clear HB hb; have HB := n0_; clear n0_) | (go_at_call 30; (with_reducible refine (impl_areRanges.calls k _ _ l1 false _ ?s1 ?s2 HQ1.out).mono ?_); (case s1 => exact Kd.C_below HR1.out HB.out); (case s2 => exact HC1.out); rintro e w2 ⟨rfl, hb⟩; have n0_ := Aside0.mk (below_step HB.out hb); clear HB hb; have HB := n0_; clear n0_))
   go_ret2
   exact ⟨_, rfl, Kd.R_nil _ _ _ _ _, HB.out⟩
  | true =>
   rw [if_pos rfl] at h
   by_cases hv : (l0.all grid.okHB && l1.all grid.okRB) = true
   ·rw [if_pos hv] at h
    have HF := Aside0.mk h
    simp only [Bool.and_eq_true] at hv
    have HV0 := Aside0.mk (grid.okHB_all hv.1)
    have HV1 := Aside0.mk (grid.okRB_all hv.2)
    clear h hv
    go_enter Try.func38, Try.ntmps38
    go_wp2_with (first | (go_at_call 29; (with_reducible refine (impl_IsSheet.calls k _ _ l0 true _ ?s1 ?s2 HQ0.out).mono ?_); (case s1 => exact Kd.C_below HR0.out HB.out); (case s2 => exact HC0.out); rintro e w1 ⟨rfl, hb⟩; have n0_ := Aside0.mk (below_step HB.out hb); clear HB hb; have HB := n0_; clear n0_) | (go_at_call 30; (with_reducible refine (impl_areRanges.calls k _ _ l1 true _ ?s1 ?s2 HQ1.out).mono ?_); (case s1 => exact Kd.C_below HR1.out HB.out); (case s2 => exact HC1.out); rintro e w2 ⟨rfl, hb⟩; have n0_ := Aside0.mk (below_step HB.out hb); clear HB hb; have HB := n0_; clear n0_) | ((with_reducible refine gate_callee (f := 31) rfl ?_); refine goesL_ (some 18) rfl rfl Try.func31 (by kernel_rfl) rfl #[.slice A0 l0.length c0] rfl (by (try simp only [List.map_toArray, List.map_cons, List.map_nil]); first | done | rfl) ?_; (with_reducible refine (grid.gridOf.calls _ _ l0 _ ?s1 ?s2 HV0.out).mono ?_); (case s1 => exact Kd.C_below HR0.out HB.out); (case s2 => exact HC0.out); rintro e w5 ⟨ga, rfl, hg, hge, hb⟩; refine ⟨_, rfl, ?_⟩; have HG := Aside0.mk hg; have HGE := Aside0.mk (Nat.le_trans (below_size HB.out) hge); have n0_ := Aside0.mk (below_step HB.out hb); clear HB hb hg hge; have HB := n0_; clear n0_) | (go_at_call 33; (refine (grid.apply.calls ga (grid.openAt l0) a2 A1 c1 l1 w _ HR1.out HB.out HGE.out HG.out HV1.out).mono ?_); rintro e w6 ⟨rfl, hg, hb, hk⟩; have n0_ := Aside0.mk hg; have n2_ := Aside0.mk hb; clear HG HB hg hb hk; have HG := n0_; have HB := n2_; clear n0_ n2_) | (go_at_call 45; (refine (grid.sheetOfGrid.calls k ga _ r1 r2 _ HG.out HF.out).mono ?_); rintro e w7 ⟨v7, rfl, hr, hb⟩; have HR7 := Aside0.mk hr; have HB7 := Aside0.mk hb; clear hr hb))
    go_ret2
    exact ⟨_, rfl, Kd.R_lower HR7.out (below_size HB.out), below_step HB.out HB7.out⟩
   ·rw [if_neg hv] at h; cases h

end Go.Proofs.Ytghdiijfpepmhaa.PFnExactApplyPatches
