/- The walks of functions that FnExactIsRepair reaches: what they return is what the plain functions of the same names say. Laid by a program of this session after the kit's print. No conditions beyond the arguments' being read. -/
import Derived.Test.YtghdiijfpepmhaaRIsRepair0
import Derived.Test.YtghdiijfpepmhaaRIsRepair5
import Derived.Test.YtghdiijfpepmhaaRIsRepair7
import Derived.Test.YtghdiijfpepmhaaRIsRepair8
namespace Go.Proofs.Ytghdiijfpepmhaa.PFnExactIsRepair
open Go.RowKit Go.Proofs.YtghdiijfpepmhaaW.PrintWords Go.Proofs.YtghdiijfpepmhaaW.PrintLast Go.Proofs.YtghdiijfpepmhaaW.PrintMore
attribute [local go_sem] max2_int min2_int max_two min_two max_three min_three max_four min_four   -- for this text's walks alone
set_option linter.unusedVariables false
set_option linter.unusedSimpArgs false

/-! ### the grid: an array of 20 rows of 2000 truth values -/
namespace grid
def allFalse : Value → Bool
  | .bool b => !b
  | _ => false
theorem zchk : (Try.zeroCells58.size == 40000 && Try.zeroCells58.toList.all allFalse) = true := by kernel_rfl
theorem Zc_spec : Try.zeroCells58.size = 40000 ∧ ∀ j, j < 40000 → Try.zeroCells58[j]? = some (.bool false) := by
  have h := zchk
  generalize Try.zeroCells58 = cs at h ⊢
  simp only [Bool.and_eq_true, beq_iff_eq, List.all_eq_true] at h
  obtain ⟨h1, h2⟩ := h
  refine ⟨h1, fun j hj => ?_⟩
  have hj' : j < cs.size := by omega
  have h4 := h2 cs[j] (by rw [Array.mem_toList_iff]; exact Array.getElem_mem hj')
  rw [Array.getElem?_eq_getElem hj']
  cases hv : cs[j] with
  | bool b =>
    rw [hv] at h4
    cases b with
    | false => rfl
    | true => simp [allFalse] at h4
  | _ => rw [hv] at h4; simp [allFalse] at h4
/-- Block g is a grid: at t, s it holds G t s. -/
def Grid (w : World) (g : Nat) (G : Int → Int → Bool) : Prop :=
  ∃ cs : Array Value, w.heap[g]? = some (.cells cs 58 (0, 0)) ∧ cs.size = 40000 ∧ ∀ t s : Nat, t < 20 → s < 2000 → cs[t * 2000 + s]? = some (.bool (G t s))
theorem Grid.lt {w : World} {g : Nat} {G : Int → Int → Bool} (h : Grid w g G) : g < w.heap.size := by
  obtain ⟨cs, h, _⟩ := h
  exact blk_lt h
theorem Grid.block {w : World} {g : Nat} {G : Int → Int → Bool} (h : Grid w g G) : ∃ cs, w.heap[g]? = some (.cells cs 58 (0, 0)) := by
  obtain ⟨cs, h, _⟩ := h
  exact ⟨cs, h⟩
theorem Grid.move {w w1 : World} {g : Nat} {G : Int → Int → Bool} (h : Grid w g G) (hm : w1.heap[g]? = w.heap[g]?) : Grid w1 g G := by
  obtain ⟨cs, h, r⟩ := h
  exact ⟨cs, hm.trans h, r⟩
theorem Grid.below {w w1 : World} {g : Nat} {G : Int → Int → Bool} (h : Grid w g G) (hb : Below w.heap.size w w1) : Grid w1 g G := h.move (hb.block g h.lt)
theorem Grid.cell {w : World} {g : Nat} {G : Int → Int → Bool} (h : Grid w g G) {t s : Int} (h0 : 0 ≤ t) (h1 : t < 20) (h2 : 0 ≤ s) (h3 : s < 2000) : w.cell? ⟨g, t.toNat * 2000 + s.toNat, none⟩ = some (.bool (G t s)) ∧ w.frozen? ⟨g, t.toNat * 2000 + s.toNat, none⟩ = false := by
  obtain ⟨cs, h, hs, hc⟩ := h
  obtain ⟨a, rfl⟩ := Int.eq_ofNat_of_zero_le h0
  obtain ⟨b, rfl⟩ := Int.eq_ofNat_of_zero_le h2
  exact ⟨(blk_cell h _).trans (hc a b (by omega) (by omega)), blk_frozen h _⟩
def upd (G : Int → Int → Bool) (t s : Int) (b : Bool) : Int → Int → Bool := fun t' s' => if t' = t ∧ s' = s then b else G t' s'
theorem Grid.set {w : World} {g : Nat} {G : Int → Int → Bool} (h : Grid w g G) {t s : Int} (h0 : 0 ≤ t) (h1 : t < 20) (h2 : 0 ≤ s) (h3 : s < 2000) (b : Bool) : Grid (w.setCell ⟨g, t.toNat * 2000 + s.toNat, none⟩ (.bool b)) g (upd G t s b) := by
  obtain ⟨cs, h, hs, hc⟩ := h
  obtain ⟨a, rfl⟩ := Int.eq_ofNat_of_zero_le h0
  obtain ⟨d, rfl⟩ := Int.eq_ofNat_of_zero_le h2
  simp only [Int.toNat_natCast]
  refine ⟨_, blk_set h (a * 2000 + d) (.bool b), by simpa using hs, fun t s ht hs' => ?_⟩
  rw [Array.getElem?_setIfInBounds]
  unfold upd
  by_cases e : (t : Int) = a ∧ (s : Int) = d
  · obtain ⟨e1, e2⟩ := e
    have e1' : t = a := by omega
    have e2' : s = d := by omega
    subst e1'; subst e2'
    rw [if_pos rfl, if_pos (by omega), if_pos ⟨rfl, rfl⟩]
  · rw [if_neg e, if_neg (by omega)]
    exact hc t s ht hs'
theorem Grid.zero {w : World} {g : Nat} (h : w.heap[g]? = some (.cells Try.zeroCells58 58 (0, 0))) : Grid w g (fun _ _ => false) := by
  obtain ⟨hs, hz⟩ := Zc_spec
  exact ⟨_, h, hs, fun t s ht hs' => hz _ (by omega)⟩
theorem Grid.congr {w : World} {g : Nat} {G G' : Int → Int → Bool} (h : Grid w g G) (e : ∀ t s : Nat, t < 20 → s < 2000 → G t s = G' t s) : Grid w g G' := by
  obtain ⟨cs, h, hs, hc⟩ := h
  exact ⟨cs, h, hs, fun t s ht hs' => by rw [← e t s ht hs']; exact hc t s ht hs'⟩
end grid
/-! ### impl.gridOf: function 31 -/
namespace grid
def okH (h : S47) : Prop := 0 ≤ h.f0 ∧ h.f0 < 20 ∧ 0 ≤ h.f1 ∧ h.f2 ≤ 2000
/-- Which steps of which tracks the holes open. -/
def openAt (l : List S47) : Int → Int → Bool := fun t s => l.any fun h => decide (h.f0 = t ∧ h.f1 ≤ s ∧ s < h.f2)
theorem openAt_snoc (l : List S47) (h : S47) (t s : Int) : openAt (l ++ [h]) t s = (openAt l t s || decide (h.f0 = t ∧ h.f1 ≤ s ∧ s < h.f2)) := by
  unfold openAt
  rw [List.any_append, List.any_cons, List.any_nil, Bool.or_false]
/-- .. and the steps of one hole more, up to a step. -/
def upTo (G : Int → Int → Bool) (h : S47) (m : Int) : Int → Int → Bool := fun t s => G t s || decide (h.f0 = t ∧ h.f1 ≤ s ∧ s < m)
theorem upTo_step (G : Int → Int → Bool) (h : S47) (m : Int) (hm : h.f1 ≤ m) (t s : Int) : upd (upTo G h m) h.f0 m true t s = upTo G h (m + 1) t s := by
  unfold upd upTo
  by_cases e : t = h.f0 ∧ s = m
  · rw [if_pos e]
    have : decide (h.f0 = t ∧ h.f1 ≤ s ∧ s < m + 1) = true := decide_eq_true ⟨e.1.symm, by omega, by omega⟩
    rw [this, Bool.or_true]
  · rw [if_neg e]
    congr 1
    exact decide_eq_decide.2 ⟨fun h => ⟨h.1, h.2.1, by omega⟩, fun h' => ⟨h'.1, h'.2.1, by have : s ≠ m := fun e2 => e ⟨h'.1.symm, e2⟩; omega⟩⟩
theorem upTo_zero (G : Int → Int → Bool) (h : S47) (t s : Int) : upTo G h h.f1 t s = G t s := by
  unfold upTo
  rw [decide_eq_false (fun h => by omega), Bool.or_false]
set_option maxHeartbeats 8000000 in
set_option maxRecDepth 100000 in
theorem gridOf.calls (A0 : Option Addr) (c0 : Nat) (l0 : List S47) (w : World) (hr0 : Kd.C k47 w A0 l0.length l0) (hc0 : l0.length ≤ c0) (hv : ∀ h ∈ l0, okH h) :
    Calls Try.prog 31 #[.slice A0 l0.length c0] w fun e w' => ∃ g, e = .returned (.pointer (some ⟨g, 0, none⟩)) ∧ Grid w' g (openAt l0) ∧ w.heap.size ≤ g ∧ Below w.heap.size w w' := by
  have hu := Try.underlying47
  have HR0 := Aside0.mk hr0
  have HC0 := Aside0.mk hc0
  have HV := Aside0.mk hv
  have HL := Aside0.mk hr0.2.1
  have HB := Aside0.mk (Below.refl w.heap.size w)
  clear hr0 hc0 hv
  go_enter Try.func31, Try.ntmps31
  go_wp2_with (first | ((with_reducible refine gate_dst (N := 8) rfl ?_); refine box_event ?hg (N := 8) ?hd (cs := Try.zeroCells58) (t := 58) ?hr ?_; (case hd => rfl); (case hg => rfl); (case hr => first | (go_simp; done) | (go_simp; rfl)); intro g hg w1 hbox hb; have HG := Aside0.mk (Grid.zero hbox); have HGE := Aside0.mk (by rw [hg]; exact below_size HB.out : w.heap.size ≤ g); have n0_ := Aside0.mk (below_step HB.out hb); clear HB; have HB := n0_; clear n0_ hbox hb hg))
  go_loopw [11] (fun v wr => ∃ i : Int, Aside0 (0 ≤ i ∧ i ≤ l0.length) ∧ v = .int .i64 i ∧ Aside0 (Grid wr g (openAt (l0.take i.toNat))) ∧ Aside0 (Below w.heap.size w wr)) (fun v _ => ((l0.length : Int) - intOf v).toNat)
  case atStart => exact ⟨0, ⟨by omega⟩, rfl, ⟨HG.out.congr (fun t s _ _ => rfl)⟩, HB⟩
  case round =>
    clear HG HB
    obtain ⟨i, hi, rfl, HG, HB⟩ := hrel
    by_cases q : i < (l0.length : Int)
    · have p : 0 ≤ i := hi.out.1
      have hlt : i.toNat < l0.length := by omega
      obtain ⟨ad, e, hx0, hx1, hx2⟩ := at_T47 HR0.out i p q
      cases e
      replace hx0 := (HB.out.cell (World.block_lt_of_cell? w _ hx0)).trans hx0
      replace hx1 := (HB.out.cell (World.block_lt_of_cell? w _ hx1)).trans hx1
      replace hx2 := (HB.out.cell (World.block_lt_of_cell? w _ hx2)).trans hx2
      obtain ⟨x, hx⟩ : ∃ x, x = rd_T47 l0 i := ⟨_, rfl⟩
      rw [← hx] at hx0 hx1 hx2
      have hxl : l0[i.toNat] = x := by
        rw [hx]
        show _ = l0.getD i.toNat _
        rw [List.getD_eq_getElem?_getD, List.getElem?_eq_getElem hlt]
        rfl
      have HX := Aside0.mk (show l0[i.toNat]? = some x from by rw [List.getElem?_eq_getElem hlt, hxl])
      have HXV := Aside0.mk (show okH x from by rw [← hxl]; exact HV.out _ (List.getElem_mem hlt))
      clear hx hxl
      replace p := eq_true p
      replace q := eq_true q
      have HLT := Aside0.mk hlt
      clear hlt
      go_wp2_with (first | ((with_reducible refine gate_dst (N := 5) rfl ?_); refine box_event ?hg (N := 5) ?hd (cs := #[.int .i64 0, .int .i64 0, .int .i64 0]) (t := 47) ?hr ?_; (case hd => rfl); (case hg => rfl); (case hr => first | (go_simp; done) | (go_simp; rfl)); intro gx hgx w2 hbox hb; have n0_ := Aside0.mk (HG.out.below hb); have n1_ := Aside0.mk (below_step HB.out hb); have HNE := Aside0.mk (by rw [hgx]; exact Nat.ne_of_lt HG.out.lt : g ≠ gx); have HGX := Aside0.mk (by rw [hgx]; exact below_size HB.out : w.heap.size ≤ gx); have BX := Aside0.mk hbox; clear HG HB hb hbox hgx; have HG := n0_; have HB := n1_; clear n0_ n1_; have hc0_ : w2.cell? ⟨gx, 0, none⟩ = some (.int .i64 0) := (blk_cell BX.out 0).trans rfl; have hc1_ : w2.cell? ⟨gx, 1, none⟩ = some (.int .i64 0) := (blk_cell BX.out 1).trans rfl; have hc2_ : w2.cell? ⟨gx, 2, none⟩ = some (.int .i64 0) := (blk_cell BX.out 2).trans rfl; have hf0_ := blk_frozen BX.out 0; have hf1_ := blk_frozen BX.out 1; have hf2_ := blk_frozen BX.out 2))
      obtain ⟨w3, hw3⟩ : ∃ w3, w3 = ((w2.setCell ⟨gx, 0, none⟩ (.int .i64 x.f0)).setCell ⟨gx, 1, none⟩ (.int .i64 x.f1)).setCell ⟨gx, 2, none⟩ (.int .i64 x.f2) := ⟨_, rfl⟩
      rw [← hw3]
      have HK := Aside0.mk (show Kept w2 w3 (fun k => k = gx) from by rw [hw3]; exact (((Kept.refl w2 (fun k => k = gx)).setCell (p := ⟨gx, 0, none⟩) (.inl rfl) _).setCell (p := ⟨gx, 1, none⟩) (.inl rfl) _).setCell (p := ⟨gx, 2, none⟩) (.inl rfl) _)
      have n0_ := Aside0.mk (show w3.heap[gx]? = some (.cells #[.int .i64 x.f0, .int .i64 x.f1, .int .i64 x.f2] 47 (0, 0)) from by
        rw [hw3]
        refine blk_put (cs := #[.int .i64 x.f0, .int .i64 x.f1, .int .i64 0]) ?_ 2 _ rfl
        refine blk_put (cs := #[.int .i64 x.f0, .int .i64 0, .int .i64 0]) ?_ 1 _ rfl
        exact blk_put (cs := #[.int .i64 0, .int .i64 0, .int .i64 0]) BX.out 0 _ rfl)
      have n1_ := Aside0.mk (show Below w.heap.size w w3 from by rw [hw3]; exact below_set (below_set (below_set HB.out HGX.out) HGX.out) HGX.out)
      have n2_ := Aside0.mk (HG.out.move (HK.out.2 g HG.out.lt HNE.out))
      clear BX HB HG HK hw3 hc0_ hc1_ hc2_ hf0_ hf1_ hf2_ hx0 hx1 hx2
      have BX := n0_
      have HB := n1_
      have HG := n2_
      clear n0_ n1_ n2_
      go_loopw [6] (fun v wi => ∃ m : Int, Aside0 (x.f1 ≤ m ∧ (m ≤ x.f2 ∨ m = x.f1)) ∧ v = .int .i64 m ∧ Aside0 (Grid wi g (upTo (openAt (l0.take i.toNat)) x m)) ∧ Aside0 (wi.heap[gx]? = some (.cells #[.int .i64 x.f0, .int .i64 x.f1, .int .i64 x.f2] 47 (0, 0))) ∧ Aside0 (Below w.heap.size w wi)) (fun v _ => (x.f2 - intOf v).toNat)
      case atStart => exact ⟨x.f1, ⟨Int.le_refl _, .inr rfl⟩, rfl, ⟨HG.out.congr (fun t s _ _ => (upTo_zero _ _ _ _).symm)⟩, BX, HB⟩
      case round =>
        clear HG BX HB p q
        obtain ⟨m, hm, rfl, HG, BX, HB⟩ := hrel
        have hc0_ : wr.cell? ⟨gx, 0, none⟩ = some (.int .i64 x.f0) := (blk_cell BX.out 0).trans rfl
        have hc2_ : wr.cell? ⟨gx, 2, none⟩ = some (.int .i64 x.f2) := (blk_cell BX.out 2).trans rfl
        by_cases hlt : m < x.f2
        · have hb : decide (m < x.f2) = true := decide_eq_true hlt
          have h0 : 0 ≤ x.f0 := HXV.out.1
          have h1 : x.f0 < 20 := HXV.out.2.1
          have h2 : 0 ≤ m := by have := HXV.out.2.2.1; have := hm.out; omega
          have h3 : m < 2000 := by have := HXV.out.2.2.2; omega
          obtain ⟨hgc, hgf⟩ := HG.out.cell h0 h1 h2 h3
          have HM := Aside0.mk (show 0 ≤ x.f0 ∧ x.f0 < 20 ∧ 0 ≤ m ∧ m < 2000 ∧ m < x.f2 from ⟨h0, h1, h2, h3, hlt⟩)
          replace h0 := eq_true h0
          replace h1 := eq_true h1
          replace h2 := eq_true h2
          replace h3 := eq_true h3
          clear hlt
          go_wp2
          go_region
          obtain ⟨w4, hw4⟩ : ∃ w4, w4 = (wr.setCell ⟨g, x.f0.toNat * 2000 + m.toNat, none⟩ (.bool true)).drew := ⟨_, rfl⟩
          rw [← hw4]
          have n0_ := Aside0.mk (show Grid w4 g (upTo (openAt (l0.take i.toNat)) x (m + 1)) from by
            rw [hw4]
            exact ((HG.out.set HM.out.1 HM.out.2.1 HM.out.2.2.1 HM.out.2.2.2.1 true).congr (fun t s _ _ => upTo_step _ x m hm.out.1 t s)).move rfl)
          have n1_ := Aside0.mk (show w4.heap[gx]? = some (.cells #[.int .i64 x.f0, .int .i64 x.f1, .int .i64 x.f2] 47 (0, 0)) from by rw [hw4]; exact (Below.heap_setCell wr ⟨g, x.f0.toNat * 2000 + m.toNat, none⟩ (.bool true) gx (Ne.symm HNE.out)).trans BX.out)
          have n2_ := Aside0.mk (show Below w.heap.size w w4 from by rw [hw4]; exact below_drew1 (below_set HB.out HGE.out))
          clear hgc hgf hw4 HG BX HB hc0_ hc2_
          have HG := n0_
          have BX := n1_
          have HB := n2_
          clear n0_ n1_ n2_
          go_wp2
          go_roundw
          case rel => exact ⟨m + 1, ⟨by have := HM.out; have := hm.out; omega⟩, (by first | rfl | (congr 1; have := HM.out; unfold wrap64; omega)), HG, BX, HB⟩
          case measure => have := HM.out; have hw : wrap64 (m + 1) = m + 1 := (by unfold wrap64; omega); simp [intOf, hw]; omega
        · have hb : decide (m < x.f2) = false := decide_eq_false hlt
          have HM := Aside0.mk hlt
          clear hlt
          go_wp2
          go_roundw
          case rel => exact ⟨i + 1, ⟨by have := HLT.out; have := hi.out; omega⟩, (by first | rfl | (congr 1; have := HLT.out; have := HL.out; have := hi.out; unfold wrap64; omega)), ⟨HG.out.congr (fun t s _ _ => by
            have hi0 := hi.out.1
            have e : l0.take (i + 1).toNat = l0.take i.toNat ++ [x] := by
              rw [show (i + 1).toNat = i.toNat + 1 by omega, List.take_add_one, HX.out]
              rfl
            rw [e, openAt_snoc]
            unfold upTo
            congr 1
            have h1 := HM.out
            have h2 := hm.out
            exact decide_eq_decide.2 ⟨fun h => ⟨h.1, h.2.1, by omega⟩, fun h => ⟨h.1, h.2.1, by omega⟩⟩)⟩, HB⟩
          case measure => have := HLT.out; have := hi.out; have := HL.out; have hw : wrap64 (i + 1) = i + 1 := (by unfold wrap64; omega); simp [intOf, hw]; omega
    · have hb : decide (i < (l0.length : Int)) = false := decide_eq_false q
      have HQ := Aside0.mk q
      clear q
      go_wp2
      go_ret
      refine ⟨g, rfl, HG.out.congr (fun t s _ _ => ?_), HGE.out, HB.out⟩
      have hi0 := hi.out
      have hq := HQ.out
      rw [show l0.take i.toNat = l0 from List.take_of_length_le (by omega)]
end grid
/-! ### ranges joined: what impl.joinedRanges computes -/
namespace grid
def allB (G : Int → Int → Bool) (op : Bool) (t a b : Int) : Bool := (List.range (b - a).toNat).all fun j => G t (a + (j : Nat)) == op
theorem allB_stop {G : Int → Int → Bool} {op : Bool} {t a b : Int} (h : ¬ a < b) : allB G op t a b = true := by
  unfold allB
  rw [show (b - a).toNat = 0 by omega]
  rfl
theorem allB_step {G : Int → Int → Bool} {op : Bool} {t a b : Int} (h : a < b) : allB G op t a b = ((G t a == op) && allB G op t (a + 1) b) := by
  unfold allB
  rw [show (b - a).toNat = (b - (a + 1)).toNat + 1 by omega, List.range_succ_eq_map, List.all_cons, List.all_map]
  congr 1
  · simp
  · congr 1
    funext j
    show (G t (a + ((j + 1 : Nat) : Int)) == op) = (G t (a + 1 + (j : Int)) == op)
    rw [show a + ((j + 1 : Nat) : Int) = a + 1 + (j : Int) by omega]
def jrY (o : List (List Int)) : List Int := o.getD (o.length - 1) []
def jrJoins (G : Int → Int → Bool) (op : Bool) (fixed each : Int) (y r : List Int) : Prop :=
  rd y 0 = rd r 0 ∧ wrap64 (wrap64 (rd r 1 - rd y 2) * each) < fixed ∧ allB G op (rd r 0) (rd y 2) (rd r 1) = true
instance (G : Int → Int → Bool) (op : Bool) (fixed each : Int) (y r : List Int) : Decidable (jrJoins G op fixed each y r) := by unfold jrJoins; infer_instance
def jrStep (G : Int → Int → Bool) (op : Bool) (fixed each : Int) (o : List (List Int)) (r : List Int) : List (List Int) :=
  if 0 < o.length ∧ jrJoins G op fixed each (jrY o) r then o.set (o.length - 1) ((jrY o).set 2 (rd r 2)) else o ++ [r]
def jr (G : Int → Int → Bool) (op : Bool) (fixed each : Int) (xs : List (List Int)) : List (List Int) := xs.foldl (jrStep G op fixed each) []
def jrOne (fixed each : Int) (c : Int) (r : List Int) : Int := wrap64 (c + wrap64 (fixed + wrap64 (each * wrap64 (rd r 2 - rd r 1))))
def jrCost (fixed each : Int) (o : List (List Int)) : Int := o.foldl (jrOne fixed each) 0
def okR (r : List Int) : Prop := r.length = 3 ∧ 0 ≤ rd r 0 ∧ rd r 0 < 20 ∧ 0 ≤ rd r 1 ∧ rd r 1 ≤ 2000 ∧ 0 ≤ rd r 2 ∧ rd r 2 ≤ 2000
theorem jrStep_ok {G : Int → Int → Bool} {op : Bool} {fixed each : Int} {o : List (List Int)} {r : List Int} (ho : ∀ y ∈ o, okR y) (hr : okR r) : ∀ y ∈ jrStep G op fixed each o r, okR y := by
  intro y hy
  unfold jrStep at hy
  split at hy
  · rename_i h
    rcases List.mem_or_eq_of_mem_set hy with h1 | rfl
    · exact ho y h1
    · have hm : okR (jrY o) := by
        refine ho _ ?_
        unfold jrY
        rw [List.getD_eq_getElem?_getD, List.getElem?_eq_getElem (by omega)]
        exact List.getElem_mem _
      obtain ⟨h1, h2, h3, h4, h5, _, _⟩ := hm
      have hl : (jrY o).length = 3 := h1
      match hq : jrY o, hl with
      | [a, b, c], _ =>
        rw [hq] at h1 h2 h3 h4 h5
        exact ⟨rfl, h2, h3, h4, h5, hr.2.2.2.2.2.1, hr.2.2.2.2.2.2⟩
  · rcases List.mem_append.1 hy with h1 | h1
    · exact ho y h1
    · rw [List.mem_singleton.1 h1]; exact hr
theorem jrStep_len {G : Int → Int → Bool} {op : Bool} {fixed each : Int} {o : List (List Int)} {r : List Int} : (jrStep G op fixed each o r).length ≤ o.length + 1 := by
  unfold jrStep
  split
  · rw [List.length_set]; omega
  · rw [List.length_append, List.length_singleton]; exact Nat.le_refl _
theorem jr_snoc {G : Int → Int → Bool} {op : Bool} {fixed each : Int} (xs : List (List Int)) (r : List Int) : jr G op fixed each (xs ++ [r]) = jrStep G op fixed each (jr G op fixed each xs) r := by
  unfold jr
  rw [List.foldl_append]
  rfl
theorem jr_ok {G : Int → Int → Bool} {op : Bool} {fixed each : Int} (xs : List (List Int)) (h : ∀ x ∈ xs, okR x) : (∀ y ∈ jr G op fixed each xs, okR y) ∧ (jr G op fixed each xs).length ≤ xs.length := by
  unfold jr
  have key : ∀ (xs o : List (List Int)), (∀ x ∈ xs, okR x) → (∀ y ∈ o, okR y) → (∀ y ∈ xs.foldl (jrStep G op fixed each) o, okR y) ∧ (xs.foldl (jrStep G op fixed each) o).length ≤ o.length + xs.length := by
    intro xs
    induction xs with
    | nil => intro o _ ho; exact ⟨ho, Nat.le_refl _⟩
    | cons x xs ih =>
      intro o hx ho
      have := ih (jrStep G op fixed each o x) (fun z hz => hx z (List.mem_cons_of_mem _ hz)) (jrStep_ok ho (hx x List.mem_cons_self))
      refine ⟨this.1, Nat.le_trans this.2 ?_⟩
      have := jrStep_len (G := G) (op := op) (fixed := fixed) (each := each) (o := o) (r := x)
      rw [List.length_cons]
      omega
  have := key xs [] h (fun y hy => absurd hy List.not_mem_nil)
  exact ⟨this.1, by simpa using this.2⟩
end grid
/-! ### impl.allAre: function 32 -/
namespace grid
set_option maxHeartbeats 8000000 in
set_option maxRecDepth 100000 in
theorem allAre.calls (g : Nat) (G : Int → Int → Bool) (op : Bool) (t a b : Int) (w : World) (hG : Grid w g G) (t0 : 0 ≤ t) (t1 : t < 20) (a0 : 0 ≤ a) (b1 : b ≤ 2000) :
    Calls Try.prog 32 #[.pointer (some ⟨g, 0, none⟩), .bool op, .int .i64 t, .int .i64 a, .int .i64 b] w fun e w' => e = .returned (.bool (allB G op t a b)) ∧ w = w' := by
  have HG := Aside0.mk hG
  have HT := Aside0.mk (show 0 ≤ t ∧ t < 20 from ⟨t0, t1⟩)
  have HAB := Aside0.mk (show 0 ≤ a ∧ b ≤ 2000 from ⟨a0, b1⟩)
  clear hG t0 t1 a0 b1
  go_enter Try.func32, Try.ntmps32
  go_wp2
  go_loopw [11] (fun v wr => ∃ m : Int, v = .int .i64 m ∧ Aside0 (a ≤ m) ∧ Aside0 (allB G op t m b = allB G op t a b) ∧ w = wr) (fun v _ => (b - intOf v).toNat)
  case atStart => exact ⟨a, rfl, ⟨Int.le_refl _⟩, ⟨rfl⟩, rfl⟩
  case round =>
    obtain ⟨m, rfl, HM, HE, rfl⟩ := hrel
    by_cases q : m < b
    · have qb : decide (m < b) = true := decide_eq_true q
      have h2 : 0 ≤ m := by have := HM.out; have := HAB.out; omega
      have h3 : m < 2000 := by have := HAB.out; omega
      obtain ⟨hgc, hgf⟩ := HG.out.cell HT.out.1 HT.out.2 h2 h3
      have HS := Aside0.mk (allB_step (G := G) (op := op) (t := t) q)
      have HQ := Aside0.mk (show 0 ≤ m ∧ m < 2000 ∧ m < b from ⟨h2, h3, q⟩)
      have h0 := eq_true HT.out.1
      have h1 := eq_true HT.out.2
      replace h2 := eq_true h2
      replace h3 := eq_true h3
      clear q hgf
      cases op with
      | true =>
        rcases hv : G t m with _ | _
        · have HV := Aside0.mk hv
          rw [hv] at hgc
          clear hv
          go_wp2
          go_ret
          refine ⟨?_, rfl⟩
          rw [← HE.out, HS.out, HV.out]
          rfl
        · have HV := Aside0.mk hv
          rw [hv] at hgc
          clear hv
          go_wp2
          go_roundw
          case rel => exact ⟨m + 1, (by first | rfl | (congr 1; have := HQ.out; unfold wrap64; omega)), ⟨by have := HM.out; omega⟩, ⟨by rw [← HE.out, HS.out, HV.out]; rfl⟩, (by first | rfl | trivial)⟩
          case measure => have := HQ.out; have hw : wrap64 (m + 1) = m + 1 := (by unfold wrap64; omega); simp [intOf, hw]; omega
      | false =>
        rcases hv : G t m with _ | _
        · have HV := Aside0.mk hv
          rw [hv] at hgc
          clear hv
          go_wp2
          go_roundw
          case rel => exact ⟨m + 1, (by first | rfl | (congr 1; have := HQ.out; unfold wrap64; omega)), ⟨by have := HM.out; omega⟩, ⟨by rw [← HE.out, HS.out, HV.out]; rfl⟩, (by first | rfl | trivial)⟩
          case measure => have := HQ.out; have hw : wrap64 (m + 1) = m + 1 := (by unfold wrap64; omega); simp [intOf, hw]; omega
        · have HV := Aside0.mk hv
          rw [hv] at hgc
          clear hv
          go_wp2
          go_ret
          refine ⟨?_, rfl⟩
          rw [← HE.out, HS.out, HV.out]
          rfl
    · have qb : decide (m < b) = false := decide_eq_false q
      have HQ := Aside0.mk q
      clear q
      go_wp2
      go_ret
      exact ⟨by rw [← HE.out, allB_stop (by have := HQ.out; omega)]; rfl, rfl⟩
end grid
/-! ### impl.applyRanges: function 33 -/
namespace grid
/-- The grid behind a range's steps up to m. -/
def rgTo (G : Int → Int → Bool) (op : Bool) (x : List Int) (m : Int) : Int → Int → Bool := fun t s => if rd x 0 = t ∧ rd x 1 ≤ s ∧ s < m then op else G t s
def rgOne (op : Bool) (G : Int → Int → Bool) (x : List Int) : Int → Int → Bool := rgTo G op x (rd x 2)
def rgAll (op : Bool) (G : Int → Int → Bool) (xs : List (List Int)) : Int → Int → Bool := xs.foldl (rgOne op) G
theorem rgTo_step (G : Int → Int → Bool) (op : Bool) (x : List Int) (m : Int) (hm : rd x 1 ≤ m) (t s : Int) : upd (rgTo G op x m) (rd x 0) m op t s = rgTo G op x (m + 1) t s := by
  unfold upd rgTo
  by_cases e : t = rd x 0 ∧ s = m
  · rw [if_pos e, if_pos ⟨e.1.symm, by omega, by omega⟩]
  · rw [if_neg e]
    by_cases h : rd x 0 = t ∧ rd x 1 ≤ s ∧ s < m
    · rw [if_pos h, if_pos ⟨h.1, h.2.1, by omega⟩]
    · rw [if_neg h, if_neg (fun h' => h ⟨h'.1, h'.2.1, by have : s ≠ m := fun e2 => e ⟨h'.1.symm, e2⟩; omega⟩)]
theorem rgTo_zero (G : Int → Int → Bool) (op : Bool) (x : List Int) (t s : Int) : rgTo G op x (rd x 1) t s = G t s := by
  unfold rgTo
  rw [if_neg (fun h => by omega)]
theorem rgAll_snoc (op : Bool) (G : Int → Int → Bool) (xs : List (List Int)) (x : List Int) : rgAll op G (xs ++ [x]) = rgOne op (rgAll op G xs) x := by
  unfold rgAll
  rw [List.foldl_append]
  rfl
set_option maxHeartbeats 8000000 in
set_option maxRecDepth 100000 in
theorem apply.calls (g : Nat) (G : Int → Int → Bool) (op : Bool) (A0 : Option Addr) (c0 : Nat) (l0 : List (List Int)) (w0 w : World) (hr0 : Kd.C (Kd.slice 3 (Kd.int .i64)) w0 A0 l0.length l0) (hB : Below w0.heap.size w0 w) (hg : w0.heap.size ≤ g) (hG : Grid w g G) (hok : ∀ x ∈ l0, okR x) :
    Calls Try.prog 33 #[.pointer (some ⟨g, 0, none⟩), .slice A0 l0.length c0, .bool op] w fun e w' => e = .returned (.tuple #[]) ∧ Grid w' g (rgAll op G l0) ∧ Below w0.heap.size w0 w' ∧ Kept w w' (fun k => k = g) := by
  have HR := Aside0.mk hr0
  have HB := Aside0.mk hB
  have HGG := Aside0.mk hg
  have HG := Aside0.mk hG
  have HOK := Aside0.mk hok
  have HL := Aside0.mk hr0.2.1
  have HK := Aside0.mk (Kept.refl w (fun k => k = g))
  clear hr0 hB hg hG hok
  go_enter Try.func33, Try.ntmps33
  go_wp2
  go_loopw [11] (fun v wr => ∃ i : Int, Aside0 (0 ≤ i ∧ i ≤ l0.length) ∧ v = .int .i64 i ∧ Aside0 (Grid wr g (rgAll op G (l0.take i.toNat))) ∧ Aside0 (Below w0.heap.size w0 wr) ∧ Aside0 (Kept w wr (fun k => k = g))) (fun v _ => ((l0.length : Int) - intOf v).toNat)
  case atStart => exact ⟨0, ⟨by omega⟩, rfl, ⟨HG.out⟩, HB, HK⟩
  case round =>
    clear HG HB HK
    obtain ⟨i, hi, rfl, HG, HB, HK⟩ := hrel
    by_cases q : i < (l0.length : Int)
    · have p : 0 ≤ i := hi.out.1
      have hlt : i.toNat < l0.length := by omega
      obtain ⟨ad, Ax, cx, eA, hxc0, hxl, hxr⟩ := atRow HR.out i p q
      subst eA
      have hxc := (HB.out.cell (World.block_lt_of_cell? w0 _ hxc0)).trans hxc0
      obtain ⟨x, hx⟩ : ∃ x, x = l0.getD i.toNat [] := ⟨_, rfl⟩
      rw [← hx] at hxc hxl hxr
      have ex : l0[i.toNat]? = some x := by rw [hx, List.getD_eq_getElem?_getD, List.getElem?_eq_getElem hlt]; rfl
      have HX := Aside0.mk ex
      have HXV := Aside0.mk (HOK.out x (List.mem_of_getElem? ex))
      have hx3 := HXV.out.1
      rw [hx3] at hxc hxl hxr
      obtain ⟨xd, exd, hxr0⟩ := Kd.at_int hxr 0 (by omega) (by omega)
      obtain ⟨xd1, exd1, hxr1⟩ := Kd.at_int hxr 1 (by omega) (by omega)
      obtain ⟨xd2, exd2, hxr2⟩ := Kd.at_int hxr 2 (by omega) (by omega)
      cases exd
      cases exd1
      cases exd2
      rw [show ((0 : Int)).toNat = 0 from rfl, Addr.add_zero'] at hxr0
      simp only [show (1 : Int).toNat = 1 from rfl, Nat.reduceMul, Nat.reduceEqDiff, Go.Addr.add, ↓reduceIte] at hxr1
      simp only [show (2 : Int).toNat = 2 from rfl, Nat.reduceMul, Nat.reduceEqDiff, Go.Addr.add, ↓reduceIte] at hxr2
      have HX0 := Aside0.mk hxr0
      have HX1 := Aside0.mk hxr1
      have HX2 := Aside0.mk hxr2
      have hx1 := (HB.out.cell (World.block_lt_of_cell? w0 _ hxr1)).trans hxr1
      clear hxr0 hxr1 hxr2 hxr hxl hx ex hx3
      have HLT := Aside0.mk hlt
      replace p := eq_true p
      replace q := eq_true q
      clear hlt
      go_wp2
      clear hxc hx1
      go_loopw [8] (fun v wi => ∃ m : Int, Aside0 (rd x 1 ≤ m ∧ (m ≤ rd x 2 ∨ m = rd x 1)) ∧ v = .int .i64 m ∧ Aside0 (Grid wi g (rgTo (rgAll op G (l0.take i.toNat)) op x m)) ∧ Aside0 (Below w0.heap.size w0 wi) ∧ Aside0 (Kept w wi (fun k => k = g))) (fun v _ => (rd x 2 - intOf v).toNat)
      case atStart => exact ⟨rd x 1, ⟨Int.le_refl _, .inr rfl⟩, rfl, ⟨HG.out.congr (fun t s _ _ => (rgTo_zero _ _ _ _ _).symm)⟩, HB, HK⟩
      case round =>
        clear HG HB HK p q
        obtain ⟨m, hm, rfl, HG, HB, HK⟩ := hrel
        have hx0 := (HB.out.cell (World.block_lt_of_cell? w0 _ HX0.out)).trans HX0.out
        have hx2 := (HB.out.cell (World.block_lt_of_cell? w0 _ HX2.out)).trans HX2.out
        by_cases hlt : m < rd x 2
        · have hb : decide (m < rd x 2) = true := decide_eq_true hlt
          have h0 : 0 ≤ rd x 0 := HXV.out.2.1
          have h1 : rd x 0 < 20 := HXV.out.2.2.1
          have h2 : 0 ≤ m := by have := HXV.out.2.2.2.1; have := hm.out; omega
          have h3 : m < 2000 := by have := HXV.out.2.2.2.2.2.2; omega
          obtain ⟨hgc, hgf⟩ := HG.out.cell h0 h1 h2 h3
          have HM := Aside0.mk (show 0 ≤ rd x 0 ∧ rd x 0 < 20 ∧ 0 ≤ m ∧ m < 2000 ∧ m < rd x 2 from ⟨h0, h1, h2, h3, hlt⟩)
          replace h0 := eq_true h0
          replace h1 := eq_true h1
          replace h2 := eq_true h2
          replace h3 := eq_true h3
          clear hlt
          go_wp2
          go_region
          obtain ⟨w4, hw4⟩ : ∃ w4, w4 = (wr.setCell ⟨g, (rd x 0).toNat * 2000 + m.toNat, none⟩ (.bool op)).drew := ⟨_, rfl⟩
          rw [← hw4]
          have n0_ := Aside0.mk (show Grid w4 g (rgTo (rgAll op G (l0.take i.toNat)) op x (m + 1)) from by
            rw [hw4]
            exact ((HG.out.set HM.out.1 HM.out.2.1 HM.out.2.2.1 HM.out.2.2.2.1 op).congr (fun t s _ _ => rgTo_step _ op x m hm.out.1 t s)).move rfl)
          have n1_ := Aside0.mk (show Below w0.heap.size w0 w4 from by rw [hw4]; exact below_drew1 (below_set HB.out HGG.out))
          have n2_ := Aside0.mk (show Kept w w4 (fun k => k = g) from by rw [hw4]; exact (HK.out.setCell (p := ⟨g, (rd x 0).toNat * 2000 + m.toNat, none⟩) (.inl rfl) _).drew)
          clear hgc hgf hw4 HG HB HK hx0 hx2
          have HG := n0_
          have HB := n1_
          have HK := n2_
          clear n0_ n1_ n2_
          go_wp2
          go_roundw
          case rel => exact ⟨m + 1, ⟨by have := HM.out; have := hm.out; omega⟩, (by first | rfl | (congr 1; have := HM.out; unfold wrap64; omega)), HG, HB, HK⟩
          case measure => have := HM.out; have hw : wrap64 (m + 1) = m + 1 := (by unfold wrap64; omega); simp [intOf, hw]; omega
        · have hb : decide (m < rd x 2) = false := decide_eq_false hlt
          have HM := Aside0.mk hlt
          clear hlt
          go_wp2
          go_roundw
          case rel => exact ⟨i + 1, ⟨by have := HLT.out; have := hi.out; omega⟩, (by first | rfl | (congr 1; have := HLT.out; have := HL.out; have := hi.out; unfold wrap64; omega)), ⟨HG.out.congr (fun t s _ _ => by
            have hi0 := hi.out.1
            have e : l0.take (i + 1).toNat = l0.take i.toNat ++ [x] := by
              rw [show (i + 1).toNat = i.toNat + 1 by omega, List.take_add_one, HX.out]
              rfl
            rw [e, rgAll_snoc]
            unfold rgOne rgTo
            have h1 := HM.out
            have h2 := hm.out
            by_cases h : rd x 0 = t ∧ rd x 1 ≤ s ∧ s < rd x 2
            · rw [if_pos h, if_pos ⟨h.1, h.2.1, by omega⟩]
            · rw [if_neg h, if_neg (fun h' => h ⟨h'.1, h'.2.1, by omega⟩)])⟩, HB, HK⟩
          case measure => have := HLT.out; have := hi.out; have := HL.out; have hw : wrap64 (i + 1) = i + 1 := (by unfold wrap64; omega); simp [intOf, hw]; omega
    · have hb : decide (i < (l0.length : Int)) = false := decide_eq_false q
      have HQ := Aside0.mk q
      clear q
      go_wp2
      go_end0
      refine ⟨rfl, HG.out.congr (fun t s _ _ => ?_), HB.out, HK.out⟩
      have hi0 := hi.out
      have hq := HQ.out
      rw [show l0.take i.toNat = l0 from List.take_of_length_le (by omega)]
end grid
/-! ### equality of arrays, element by element -/
theorem run_arr_eq {P : Program} {w : World} {t elem : TypeId} {len d n : Nat} (hu : P.underlying t = some (.array len elem)) (hs : (sizeOf elem).run P w = .ok n w) (xs ys : Array Value) (r : Nat → Bool)
    (h : ∀ i, i < len → ∃ a b, (part elem xs (i * n)).run P w = .ok a w ∧ (part elem ys (i * n)).run P w = .ok b w ∧ (Op.equalIn d elem a b).run P w = .ok (r i) w) :
    (Op.equalIn (d + 1) t (.agg xs) (.agg ys)).run P w = .ok ((List.range len).all r) w := by
  unfold Op.equalIn
  simp only [Sem.run_bind]
  rw [show (underlying t).run P w = .ok (.array len elem) w from by simp [underlying, hu]]
  simp only [Result.andThen, Sem.run_bind, hs]
  rw [Std.Legacy.Range.forIn_eq_forIn_range']
  have key : ∀ l : List Nat, (∀ i ∈ l, i < len) → Sem.run P (forIn l ((none : Option Bool), ()) fun i _ => do
      let a ← part elem xs (i * n)
      let b ← part elem ys (i * n)
      let q ← Op.equalIn d elem a b
      if (!q) = true then pure (ForInStep.done (some false, ())) else pure (ForInStep.yield (none, ()))) w = .ok (if l.all r = true then none else some false, ()) w := by
    intro l
    induction l with
    | nil => intro _; simp
    | cons i l ih =>
      intro hl
      obtain ⟨a, b, ha, hb, hq⟩ := h i (hl i List.mem_cons_self)
      have ih := ih (fun j hj => hl j (List.mem_cons_of_mem _ hj))
      rw [List.forIn_cons]
      simp only [Sem.run_bind, ha, hb, hq, Result.andThen]
      cases hr : r i with
      | true => simp only [Bool.not_true, Bool.false_eq_true, if_false, List.all_cons, hr, Bool.true_and]; simpa using ih
      | false => simp [hr]
  have k := key (List.range' [:len].start [:len].size [:len].step) (fun i hi => by
    have := List.mem_range'.1 hi
    simp at this
    omega)
  have e : List.range' [:len].start [:len].size [:len].step = List.range len := by
    simp [List.range_eq_range']
  rw [e] at k ⊢
  rw [k]
  cases (List.range len).all r <;> simp
theorem run_bool_eq {P : Program} {w : World} {B : TypeId} {d : Nat} (hb : P.underlying B = some .bool) (a b : Bool) : (Op.equalIn (d + 1) B (.bool a) (.bool b)).run P w = .ok (a == b) w := by
  unfold Op.equalIn
  simp only [Sem.run_bind]
  rw [show (underlying B).run P w = .ok .bool w from by simp [underlying, hb]]
  simp [Result.andThen]
theorem run_row_eq {P : Program} {w : World} {R B : TypeId} {d len : Nat} (hr : P.underlying R = some (.array len B)) (hb : P.underlying B = some .bool) (hs : (sizeOf B).run P w = .ok 1 w) (xs ys : Array Value) (f g : Nat → Bool)
    (hx : ∀ i, i < len → xs[i]? = some (.bool (f i))) (hy : ∀ i, i < len → ys[i]? = some (.bool (g i))) : (Op.equalIn (d + 2) R (.agg xs) (.agg ys)).run P w = .ok ((List.range len).all fun i => f i == g i) w := by
  have hu : (underlying B).run P w = .ok .bool w := by simp [underlying, hb]
  refine run_arr_eq (d := d + 1) hr hs xs ys (fun i => f i == g i) (fun i hi => ⟨.bool (f i), .bool (g i), ?_, ?_, run_bool_eq hb _ _⟩)
  · unfold part isAgg
    simp [Sem.run_bind, hu, Result.andThen, Nat.mul_one, hx i hi]
  · unfold part isAgg
    simp [Sem.run_bind, hu, Result.andThen, Nat.mul_one, hy i hi]
theorem run_grid_eq {P : Program} {w : World} {T R B : TypeId} {d m len : Nat} (ht : P.underlying T = some (.array m R)) (hr : P.underlying R = some (.array len B)) (hb : P.underlying B = some .bool) (hR : (sizeOf R).run P w = .ok len w) (hB : (sizeOf B).run P w = .ok 1 w) (xs ys : Array Value) (f g : Nat → Nat → Bool)
    (hx : ∀ t s, t < m → s < len → xs[t * len + s]? = some (.bool (f t s))) (hy : ∀ t s, t < m → s < len → ys[t * len + s]? = some (.bool (g t s))) :
    (Op.equalIn (d + 3) T (.agg xs) (.agg ys)).run P w = .ok ((List.range m).all fun t => (List.range len).all fun s => f t s == g t s) w := by
  have hu : (underlying R).run P w = .ok (.array len B) w := by simp [underlying, hr]
  refine run_arr_eq (d := d + 2) ht hR xs ys _ (fun t ht' => ⟨.agg (xs.extract (t * len) (t * len + len)), .agg (ys.extract (t * len) (t * len + len)), ?_, ?_, run_row_eq hr hb hB _ _ (f t) (g t) (fun s hs => ?_) (fun s hs => ?_)⟩)
  · unfold part isAgg
    simp [Sem.run_bind, hu, hR, Result.andThen]
  · unfold part isAgg
    simp [Sem.run_bind, hu, hR, Result.andThen]
  · have h1 := hx t s ht' hs
    obtain ⟨h2, h3⟩ := Array.getElem?_eq_some_iff.1 h1
    rw [Array.getElem?_extract, if_pos (by omega), h1]
  · have h1 := hy t s ht' hs
    obtain ⟨h2, h3⟩ := Array.getElem?_eq_some_iff.1 h1
    rw [Array.getElem?_extract, if_pos (by omega), h1]
/-! ### whole grids: read and compared -/
theorem quiet_load {P : Program} {ops : Array Oper} {o : Oper} {a : Act} {w : World} {K : Act → Prop} (ty : TypeId) (x : Operand) (ho : o.op = .load ty x) (hg : o.guard = none) (p v : Value) (hx : a.eval x = p)
    (hl : ∀ n, (Instr.loadAt ty p).run P (w.drewN n) = .ok v (w.drewN n)) (h : K (a.put o.dst v)) :
    if Region.wanted o (yielded ops a.tmps) then o.quiet P a (fun w' => ∃ n, w' = w.drewN n) K else K (a.put o.dst undef) := by
  rw [if_pos (by simp [Region.wanted, hg])]
  refine ⟨v, fun w' hw => ?_, h⟩
  obtain ⟨n, rfl⟩ := hw
  unfold Oper.quietAt execOp
  simp [ho, hx, Sem.run_bind, hl, Result.andThen, Oper.quietUpon]
theorem quiet_eql {P : Program} {ops : Array Oper} {o : Oper} {a : Act} {w : World} {K : Act → Prop} (ty ty' : TypeId) (x y : Operand) (ho : o.op = .binOp .eql ty x y ty') (hg : o.guard = none) (xs ys : Array Value) (b : Bool) (hx : a.eval x = .agg xs) (hy : a.eval y = .agg ys)
    (hm : P.eqGuardType P.depth ty = false) (he : ∀ w', (Op.equalIn 10000 ty (.agg xs) (.agg ys)).run P w' = .ok b w') (h : K (a.put o.dst (.bool b))) :
    if Region.wanted o (yielded ops a.tmps) then o.quiet P a (fun w' => ∃ n, w' = w.drewN n) K else K (a.put o.dst undef) := by
  rw [if_pos (by simp [Region.wanted, hg])]
  refine ⟨_, fun w' hw => ?_, h⟩
  obtain ⟨n, rfl⟩ := hw
  unfold Oper.quietAt execOp
  simp only [ho, hx, hy, Sem.run_bind, run_eqGuard_agg _ _ _ _ _ _ _ hm, run_eql_struct, he, Result.andThen, Sem.run_pure, Oper.quietUpon, and_self]
namespace grid
def same (G1 G2 : Int → Int → Bool) : Bool := (List.range 20).all fun t => (List.range 2000).all fun s => G1 (t : Nat) (s : Nat) == G2 (t : Nat) (s : Nat)
theorem Grid.load {w : World} {g : Nat} {G : Int → Int → Bool} (h : Grid w g G) : ∃ cs : Array Value, (∀ t s : Nat, t < 20 → s < 2000 → cs[t * 2000 + s]? = some (.bool (G t s))) ∧ ∀ n, (Instr.loadAt 58 (.pointer (some ⟨g, 0, none⟩))).run Try.prog (w.drewN n) = .ok (.agg cs) (w.drewN n) := by
  obtain ⟨cs, hb, hs, hc⟩ := h
  refine ⟨cs, hc, fun n => ?_⟩
  have hi : (Try.prog.info? 58).map (·.size) = some 40000 := by kernel_rfl
  simp only [Instr.loadAt, Instr.sureAddr, Sem.run_bind, Sem.run_pure, Result.andThen_ok, run_loadVar_row (P := Try.prog) (w.drewN n) g 58 58 cs (0, 0) _ (by exact hb) Try.underlying58 rfl (by rw [hs]; exact hi)]
theorem grid_eq (xs ys : Array Value) (F G : Int → Int → Bool) (hx : ∀ t s : Nat, t < 20 → s < 2000 → xs[t * 2000 + s]? = some (.bool (F t s))) (hy : ∀ t s : Nat, t < 20 → s < 2000 → ys[t * 2000 + s]? = some (.bool (G t s))) (w : World) :
    (Op.equalIn 10000 58 (.agg xs) (.agg ys)).run Try.prog w = .ok (same F G) w := by
  have hR : (Try.prog.info? 56).map (·.size) = some 2000 := by kernel_rfl
  have hB : (Try.prog.info? 4).map (·.size) = some 1 := by kernel_rfl
  have size : ∀ t n, (Try.prog.info? t).map (·.size) = some n → (sizeOf t).run Try.prog w = .ok n w := fun t n h => by
    cases hq : Try.prog.info? t with
    | none => simp [hq] at h
    | some i => simp [sizeOf, typeInfo, hq] at h ⊢; exact h
  exact run_grid_eq (d := 9997) (P := Try.prog) Try.underlying58 Try.underlying56 Try.underlying4 (size _ _ hR) (size _ _ hB) xs ys (fun t s => F t s) (fun t s => G t s) hx hy
theorem grid_guard : Try.prog.eqGuardType Try.prog.depth 58 = false := by kernel_rfl
end grid
/-! ### impl.IsRepair: function 11 -/
namespace grid
def okHB (h : S47) : Bool := decide (0 ≤ h.f0 ∧ h.f0 < 20 ∧ 0 ≤ h.f1 ∧ h.f2 ≤ 2000)
theorem okHB_all {l : List S47} (h : l.all okHB = true) : ∀ x ∈ l, okH x := fun x hx => by
  have := List.all_eq_true.1 h x hx
  simpa [okHB, okH] using this
def okRB (r : List Int) : Bool := decide (r.length = 3 ∧ 0 ≤ rd r 0 ∧ rd r 0 < 20 ∧ 0 ≤ rd r 1 ∧ rd r 1 ≤ 2000 ∧ 0 ≤ rd r 2 ∧ rd r 2 ≤ 2000)
theorem okRB_all {l : List (List Int)} (h : l.all okRB = true) : ∀ x ∈ l, okR x := fun x hx => by
  have := List.all_eq_true.1 h x hx
  simpa [okRB, okR] using this
def allIn (G : Int → Int → Bool) (op : Bool) (xs : List (List Int)) : Bool := xs.all fun r => allB G op (rd r 0) (rd r 1) (rd r 2)
end grid
def impl_IsRepair.f (k : Nat) (l0 : List (S47)) (l1 : List (S47)) (l2 : List (List Int)) (l3 : List (List Int)) : Option (Bool × Bool) := ((impl_IsSheet.f k l0).bind fun q => if q = true then ((impl_IsSheet.f k l1).bind fun q => if q = true then ((impl_areRanges.f k l2).bind fun q => if q = true then ((impl_areRanges.f k l3).bind fun q => if q = true then (if (l0.all grid.okHB && l1.all grid.okHB && l2.all grid.okRB && l3.all grid.okRB) = true then some (if grid.allIn (grid.openAt l1) false l2 = true then (if grid.allIn (grid.openAt l1) true l3 = true then (grid.same (grid.rgAll true (grid.rgAll false (grid.openAt l0) l2) l3) (grid.openAt l1), true) else (false, true)) else (false, true)) else none) else some (false, false)) else some (false, false)) else some (false, false)) else some (false, false))
theorem impl_IsRepair.mono : ∀ a0 a1 a2 a3 k, LeO (impl_IsRepair.f k a0 a1 a2 a3) (impl_IsRepair.f (k + 1) a0 a1 a2 a3) := by
  intro a0 a1 a2 a3 k
  unfold impl_IsRepair.f
  exact LeO.bind (impl_IsSheet.mono _ _) (fun _ => LeO.ite (LeO.bind (impl_IsSheet.mono _ _) (fun _ => LeO.ite (LeO.bind (impl_areRanges.mono _ _) (fun _ => LeO.ite (LeO.bind (impl_areRanges.mono _ _) (fun _ => LeO.refl _)) (LeO.refl _))) (LeO.refl _))) (LeO.refl _))
set_option maxHeartbeats 8000000 in
set_option maxRecDepth 100000 in
theorem impl_IsRepair.calls (k : Nat) (A0 : Option Addr) (c0 : Nat) (l0 : List (S47)) (A1 : Option Addr) (c1 : Nat) (l1 : List (S47)) (A2 : Option Addr) (c2 : Nat) (l2 : List (List Int)) (A3 : Option Addr) (c3 : Nat) (l3 : List (List Int)) (r1 : Bool) (r2 : Bool) (w : World) (hr0 : Kd.C k47 w A0 l0.length l0) (hc0 : l0.length ≤ c0) (hr1 : Kd.C k47 w A1 l1.length l1) (hc1 : l1.length ≤ c1) (hr2 : Kd.C (Kd.slice 3 (Kd.int .i64)) w A2 l2.length l2) (hc2 : l2.length ≤ c2) (hr3 : Kd.C (Kd.slice 3 (Kd.int .i64)) w A3 l3.length l3) (hc3 : l3.length ≤ c3) (h : impl_IsRepair.f k l0 l1 l2 l3 = some (r1, r2)) :
    Calls Try.prog 11 #[.slice A0 l0.length c0, .slice A1 l1.length c1, .slice A2 l2.length c2, .slice A3 l3.length c3] w fun e w' => e = .returned (.tuple #[.bool r1, .bool r2]) ∧ Below w.heap.size w w' := by
  unfold impl_IsRepair.f at h
  have HR0 := Aside0.mk hr0
  have HC0 := Aside0.mk hc0
  have HR1 := Aside0.mk hr1
  have HC1 := Aside0.mk hc1
  have HR2 := Aside0.mk hr2
  have HC2 := Aside0.mk hc2
  have HR3 := Aside0.mk hr3
  have HC3 := Aside0.mk hc3
  have HB := Aside0.mk (Below.refl w.heap.size w)
  clear hr0 hr1 hr2 hr3 hc0 hc1 hc2 hc3
  obtain ⟨q0, hq0, h⟩ := Option.bind_eq_some_iff.1 h
  have HQ0 := Aside0.mk hq0
  clear hq0
  cases q0 with
  | false =>
    rw [if_neg (by decide)] at h
    cases h
    go_enter Try.func11, Try.ntmps11
    go_wp2_with (first | (go_at_call 29; (with_reducible refine (impl_IsSheet.calls k _ _ l0 false _ ?s1 ?s2 HQ0.out).mono ?_); (case s1 => exact Kd.C_below HR0.out HB.out); (case s2 => exact HC0.out); rintro e w1 ⟨rfl, hb⟩; have n0_ := Aside0.mk (below_step HB.out hb); clear HB hb; have HB := n0_; clear n0_))
    go_ret2
    exact ⟨rfl, HB.out⟩
  | true =>
    rw [if_pos rfl] at h
    obtain ⟨q1, hq1, h⟩ := Option.bind_eq_some_iff.1 h
    have HQ1 := Aside0.mk hq1
    clear hq1
    cases q1 with
    | false =>
      rw [if_neg (by decide)] at h
      cases h
      go_enter Try.func11, Try.ntmps11
      go_wp2_with (first | (go_at_call 29; (with_reducible refine (impl_IsSheet.calls k _ _ l0 true _ ?s1 ?s2 HQ0.out).mono ?_); (case s1 => exact Kd.C_below HR0.out HB.out); (case s2 => exact HC0.out); rintro e w1 ⟨rfl, hb⟩; have n0_ := Aside0.mk (below_step HB.out hb); clear HB hb; have HB := n0_; clear n0_) | (go_at_call 29; (with_reducible refine (impl_IsSheet.calls k _ _ l1 false _ ?s1 ?s2 HQ1.out).mono ?_); (case s1 => exact Kd.C_below HR1.out HB.out); (case s2 => exact HC1.out); rintro e w2 ⟨rfl, hb⟩; have n0_ := Aside0.mk (below_step HB.out hb); clear HB hb; have HB := n0_; clear n0_))
      go_ret2
      exact ⟨rfl, HB.out⟩
    | true =>
      rw [if_pos rfl] at h
      obtain ⟨q2, hq2, h⟩ := Option.bind_eq_some_iff.1 h
      have HQ2 := Aside0.mk hq2
      clear hq2
      cases q2 with
      | false =>
        rw [if_neg (by decide)] at h
        cases h
        go_enter Try.func11, Try.ntmps11
        go_wp2_with (first | (go_at_call 29; (with_reducible refine (impl_IsSheet.calls k _ _ l0 true _ ?s1 ?s2 HQ0.out).mono ?_); (case s1 => exact Kd.C_below HR0.out HB.out); (case s2 => exact HC0.out); rintro e w1 ⟨rfl, hb⟩; have n0_ := Aside0.mk (below_step HB.out hb); clear HB hb; have HB := n0_; clear n0_) | (go_at_call 29; (with_reducible refine (impl_IsSheet.calls k _ _ l1 true _ ?s1 ?s2 HQ1.out).mono ?_); (case s1 => exact Kd.C_below HR1.out HB.out); (case s2 => exact HC1.out); rintro e w2 ⟨rfl, hb⟩; have n0_ := Aside0.mk (below_step HB.out hb); clear HB hb; have HB := n0_; clear n0_) | (go_at_call 30; (with_reducible refine (impl_areRanges.calls k _ _ l2 false _ ?s1 ?s2 HQ2.out).mono ?_); (case s1 => exact Kd.C_below HR2.out HB.out); (case s2 => exact HC2.out); rintro e w3 ⟨rfl, hb⟩; have n0_ := Aside0.mk (below_step HB.out hb); clear HB hb; have HB := n0_; clear n0_))
        go_ret2
        exact ⟨rfl, HB.out⟩
      | true =>
        rw [if_pos rfl] at h
        obtain ⟨q3, hq3, h⟩ := Option.bind_eq_some_iff.1 h
        have HQ3 := Aside0.mk hq3
        clear hq3
        cases q3 with
        | false =>
          rw [if_neg (by decide)] at h
          cases h
          go_enter Try.func11, Try.ntmps11
          go_wp2_with (first | (go_at_call 29; (with_reducible refine (impl_IsSheet.calls k _ _ l0 true _ ?s1 ?s2 HQ0.out).mono ?_); (case s1 => exact Kd.C_below HR0.out HB.out); (case s2 => exact HC0.out); rintro e w1 ⟨rfl, hb⟩; have n0_ := Aside0.mk (below_step HB.out hb); clear HB hb; have HB := n0_; clear n0_) | (go_at_call 29; (with_reducible refine (impl_IsSheet.calls k _ _ l1 true _ ?s1 ?s2 HQ1.out).mono ?_); (case s1 => exact Kd.C_below HR1.out HB.out); (case s2 => exact HC1.out); rintro e w2 ⟨rfl, hb⟩; have n0_ := Aside0.mk (below_step HB.out hb); clear HB hb; have HB := n0_; clear n0_) | (go_at_call 30; (with_reducible refine (impl_areRanges.calls k _ _ l2 true _ ?s1 ?s2 HQ2.out).mono ?_); (case s1 => exact Kd.C_below HR2.out HB.out); (case s2 => exact HC2.out); rintro e w3 ⟨rfl, hb⟩; have n0_ := Aside0.mk (below_step HB.out hb); clear HB hb; have HB := n0_; clear n0_) | (go_at_call 30; (with_reducible refine (impl_areRanges.calls k _ _ l3 false _ ?s1 ?s2 HQ3.out).mono ?_); (case s1 => exact Kd.C_below HR3.out HB.out); (case s2 => exact HC3.out); rintro e w4 ⟨rfl, hb⟩; have n0_ := Aside0.mk (below_step HB.out hb); clear HB hb; have HB := n0_; clear n0_))
          go_ret2
          exact ⟨rfl, HB.out⟩
        | true =>
          rw [if_pos rfl] at h
          by_cases hv : (l0.all grid.okHB && l1.all grid.okHB && l2.all grid.okRB && l3.all grid.okRB) = true
          · rw [if_pos hv] at h
            have hR := Option.some.inj h
            have HRES := Aside0.mk hR
            simp only [Bool.and_eq_true] at hv
            have HV0 := Aside0.mk (grid.okHB_all hv.1.1.1)
            have HV1 := Aside0.mk (grid.okHB_all hv.1.1.2)
            have HV2 := Aside0.mk (grid.okRB_all hv.1.2)
            have HV3 := Aside0.mk (grid.okRB_all hv.2)
            clear h hR hv
            go_enter Try.func11, Try.ntmps11
            go_wp2_with (first | (go_at_call 29; (with_reducible refine (impl_IsSheet.calls k _ _ l0 true _ ?s1 ?s2 HQ0.out).mono ?_); (case s1 => exact Kd.C_below HR0.out HB.out); (case s2 => exact HC0.out); rintro e w1 ⟨rfl, hb⟩; have n0_ := Aside0.mk (below_step HB.out hb); clear HB hb; have HB := n0_; clear n0_) | (go_at_call 29; (with_reducible refine (impl_IsSheet.calls k _ _ l1 true _ ?s1 ?s2 HQ1.out).mono ?_); (case s1 => exact Kd.C_below HR1.out HB.out); (case s2 => exact HC1.out); rintro e w2 ⟨rfl, hb⟩; have n0_ := Aside0.mk (below_step HB.out hb); clear HB hb; have HB := n0_; clear n0_) | (go_at_call 30; (with_reducible refine (impl_areRanges.calls k _ _ l2 true _ ?s1 ?s2 HQ2.out).mono ?_); (case s1 => exact Kd.C_below HR2.out HB.out); (case s2 => exact HC2.out); rintro e w3 ⟨rfl, hb⟩; have n0_ := Aside0.mk (below_step HB.out hb); clear HB hb; have HB := n0_; clear n0_) | (go_at_call 30; (with_reducible refine (impl_areRanges.calls k _ _ l3 true _ ?s1 ?s2 HQ3.out).mono ?_); (case s1 => exact Kd.C_below HR3.out HB.out); (case s2 => exact HC3.out); rintro e w4 ⟨rfl, hb⟩; have n0_ := Aside0.mk (below_step HB.out hb); clear HB hb; have HB := n0_; clear n0_) | ((with_reducible refine gate_callee (f := 31) rfl ?_); refine goesL_ (some 35) rfl rfl Try.func31 (by kernel_rfl) rfl #[.slice A1 l1.length c1] rfl (by (try simp only [List.map_toArray, List.map_cons, List.map_nil]); first | done | rfl) ?_; (with_reducible refine (grid.gridOf.calls _ _ l1 _ ?s1 ?s2 HV1.out).mono ?_); (case s1 => exact Kd.C_below HR1.out HB.out); (case s2 => exact HC1.out); rintro e w5 ⟨gb, rfl, hg, hge, hb⟩; refine ⟨_, rfl, ?_⟩; have HG := Aside0.mk hg; have HGE := Aside0.mk (Nat.le_trans (below_size HB.out) hge); have n0_ := Aside0.mk (below_step HB.out hb); clear HB hb hg hge; have HB := n0_; clear n0_))
            have HL2 := Aside0.mk HR2.out.2.1
            go_loopw [38] (fun v wr => ∃ i : Int, Aside0 (0 ≤ i ∧ i ≤ l2.length) ∧ v = .int .i64 i ∧ Aside0 (grid.allIn (grid.openAt l1) false (l2.take i.toNat) = true) ∧ Aside0 (grid.Grid wr gb (grid.openAt l1)) ∧ Aside0 (Below w.heap.size w wr)) (fun v _ => ((l2.length : Int) - intOf v).toNat)
            case atStart => exact ⟨0, ⟨by omega⟩, rfl, ⟨rfl⟩, HG, HB⟩
            case round =>
              clear HG HB
              obtain ⟨i, hi, rfl, HA, HG, HB⟩ := hrel
              by_cases q : i < (l2.length : Int)
              · have p : 0 ≤ i := hi.out.1
                have hlt : i.toNat < l2.length := by omega
                obtain ⟨ad, Ax, cx, eA, hxc, hxl, hxr⟩ := grid.atRow (Kd.C_below HR2.out HB.out) i p q
                subst eA
                obtain ⟨x, hx⟩ : ∃ x, x = l2.getD i.toNat [] := ⟨_, rfl⟩
                rw [← hx] at hxc hxl hxr
                have ex : l2[i.toNat]? = some x := by rw [hx, List.getD_eq_getElem?_getD, List.getElem?_eq_getElem hlt]; rfl
                have HX := Aside0.mk ex
                have HXV := Aside0.mk (HV2.out x (List.mem_of_getElem? ex))
                have hx3 := HXV.out.1
                rw [hx3] at hxc hxl hxr
                obtain ⟨xd, exd, hxr0⟩ := Kd.at_int hxr 0 (by omega) (by omega)
                obtain ⟨xd1, exd1, hxr1⟩ := Kd.at_int hxr 1 (by omega) (by omega)
                obtain ⟨xd2, exd2, hxr2⟩ := Kd.at_int hxr 2 (by omega) (by omega)
                cases exd
                cases exd1
                cases exd2
                rw [show ((0 : Int)).toNat = 0 from rfl, Addr.add_zero'] at hxr0
                simp only [show (1 : Int).toNat = 1 from rfl, Nat.reduceMul, Nat.reduceEqDiff, Go.Addr.add, ↓reduceIte] at hxr1
                simp only [show (2 : Int).toNat = 2 from rfl, Nat.reduceMul, Nat.reduceEqDiff, Go.Addr.add, ↓reduceIte] at hxr2
                clear hxr hxl hx ex hx3
                have HLT := Aside0.mk hlt
                have qb : decide (i < (l2.length : Int)) = true := decide_eq_true q
                replace p := eq_true p
                replace q := eq_true q
                clear hlt
                rcases hal : grid.allB (grid.openAt l1) false (rd x 0) (rd x 1) (rd x 2) with _ | _
                · have HAL := Aside0.mk hal
                  clear hal
                  go_wp2
                  go_quiet (first | (go_at_call 32; (refine (grid.allAre.calls gb (grid.openAt l1) false (rd x 0) (rd x 1) (rd x 2) _ (by first | exact HG.out | exact HG.out.move rfl) HXV.out.2.1 HXV.out.2.2.1 HXV.out.2.2.2.1 HXV.out.2.2.2.2.2.2).mono ?_); rintro e w_ ⟨rfl, rfl⟩; exact ⟨congrArg (fun z => Ending.returned (.bool z)) HAL.out, _, rfl⟩))
                  go_wp2
                  go_ret2
                  have hA : grid.allIn (grid.openAt l1) false l2 = false := List.all_eq_false.2 ⟨x, List.mem_of_getElem? HX.out, by rw [HAL.out]; simp⟩
                  have hR := HRES.out
                  rw [if_neg (by rw [hA]; simp)] at hR
                  rw [show r1 = false from (congrArg Prod.fst hR).symm, show r2 = true from (congrArg Prod.snd hR).symm]
                  exact ⟨rfl, pw_below_drewN HB.out _⟩
                · have HAL := Aside0.mk hal
                  clear hal
                  go_wp2
                  go_quiet (first | (go_at_call 32; (refine (grid.allAre.calls gb (grid.openAt l1) false (rd x 0) (rd x 1) (rd x 2) _ (by first | exact HG.out | exact HG.out.move rfl) HXV.out.2.1 HXV.out.2.2.1 HXV.out.2.2.2.1 HXV.out.2.2.2.2.2.2).mono ?_); rintro e w_ ⟨rfl, rfl⟩; exact ⟨congrArg (fun z => Ending.returned (.bool z)) HAL.out, _, rfl⟩))
                  go_wp2
                  go_roundw
                  case rel => exact ⟨i + 1, ⟨by have := HLT.out; have := hi.out; omega⟩, (by first | rfl | (congr 1; have := HLT.out; have := HL2.out; have := hi.out; unfold wrap64; omega)), ⟨by have h0 := hi.out.1; rw [show (i + 1).toNat = i.toNat + 1 by omega, List.take_add_one, HX.out]; have := HA.out; unfold grid.allIn at this ⊢; rw [List.all_append, this]; simp [HAL.out]⟩, ⟨HG.out.move rfl⟩, ⟨pw_below_drewN HB.out _⟩⟩
                  case measure => have := HLT.out; have := hi.out; have := HL2.out; have hw : wrap64 (i + 1) = i + 1 := (by unfold wrap64; omega); simp [intOf, hw]; omega
              · have qb : decide (i < (l2.length : Int)) = false := decide_eq_false q
                have HA2 := Aside0.mk (show grid.allIn (grid.openAt l1) false l2 = true from by have h1 := hi.out; have h2 := HA.out; rw [show i.toNat = l2.length by omega, List.take_length] at h2; exact h2)
                clear q hi HA
                go_wp2
                have HL3 := Aside0.mk HR3.out.2.1
                go_loopw [57] (fun v wr => ∃ i : Int, Aside0 (0 ≤ i ∧ i ≤ l3.length) ∧ v = .int .i64 i ∧ Aside0 (grid.allIn (grid.openAt l1) true (l3.take i.toNat) = true) ∧ Aside0 (grid.Grid wr gb (grid.openAt l1)) ∧ Aside0 (Below w.heap.size w wr)) (fun v _ => ((l3.length : Int) - intOf v).toNat)
                case atStart => exact ⟨0, ⟨by omega⟩, rfl, ⟨rfl⟩, HG, HB⟩
                case round =>
                  clear HG HB
                  obtain ⟨i, hi, rfl, HA, HG, HB⟩ := hrel
                  by_cases q : i < (l3.length : Int)
                  · have p : 0 ≤ i := hi.out.1
                    have hlt : i.toNat < l3.length := by omega
                    obtain ⟨ad, Ax, cx, eA, hxc, hxl, hxr⟩ := grid.atRow (Kd.C_below HR3.out HB.out) i p q
                    subst eA
                    obtain ⟨x, hx⟩ : ∃ x, x = l3.getD i.toNat [] := ⟨_, rfl⟩
                    rw [← hx] at hxc hxl hxr
                    have ex : l3[i.toNat]? = some x := by rw [hx, List.getD_eq_getElem?_getD, List.getElem?_eq_getElem hlt]; rfl
                    have HX := Aside0.mk ex
                    have HXV := Aside0.mk (HV3.out x (List.mem_of_getElem? ex))
                    have hx3 := HXV.out.1
                    rw [hx3] at hxc hxl hxr
                    obtain ⟨xd, exd, hxr0⟩ := Kd.at_int hxr 0 (by omega) (by omega)
                    obtain ⟨xd1, exd1, hxr1⟩ := Kd.at_int hxr 1 (by omega) (by omega)
                    obtain ⟨xd2, exd2, hxr2⟩ := Kd.at_int hxr 2 (by omega) (by omega)
                    cases exd
                    cases exd1
                    cases exd2
                    rw [show ((0 : Int)).toNat = 0 from rfl, Addr.add_zero'] at hxr0
                    simp only [show (1 : Int).toNat = 1 from rfl, Nat.reduceMul, Nat.reduceEqDiff, Go.Addr.add, ↓reduceIte] at hxr1
                    simp only [show (2 : Int).toNat = 2 from rfl, Nat.reduceMul, Nat.reduceEqDiff, Go.Addr.add, ↓reduceIte] at hxr2
                    clear hxr hxl hx ex hx3
                    have HLT := Aside0.mk hlt
                    have qb : decide (i < (l3.length : Int)) = true := decide_eq_true q
                    replace p := eq_true p
                    replace q := eq_true q
                    clear hlt
                    rcases hal : grid.allB (grid.openAt l1) true (rd x 0) (rd x 1) (rd x 2) with _ | _
                    · have HAL := Aside0.mk hal
                      clear hal
                      go_wp2
                      go_quiet (first | (go_at_call 32; (refine (grid.allAre.calls gb (grid.openAt l1) true (rd x 0) (rd x 1) (rd x 2) _ (by first | exact HG.out | exact HG.out.move rfl) HXV.out.2.1 HXV.out.2.2.1 HXV.out.2.2.2.1 HXV.out.2.2.2.2.2.2).mono ?_); rintro e w_ ⟨rfl, rfl⟩; exact ⟨congrArg (fun z => Ending.returned (.bool z)) HAL.out, _, rfl⟩))
                      go_wp2
                      go_ret2
                      have hA : grid.allIn (grid.openAt l1) true l3 = false := List.all_eq_false.2 ⟨x, List.mem_of_getElem? HX.out, by rw [HAL.out]; simp⟩
                      have hR := HRES.out
                      rw [if_pos HA2.out, if_neg (by rw [hA]; simp)] at hR
                      rw [show r1 = false from (congrArg Prod.fst hR).symm, show r2 = true from (congrArg Prod.snd hR).symm]
                      exact ⟨rfl, pw_below_drewN HB.out _⟩
                    · have HAL := Aside0.mk hal
                      clear hal
                      go_wp2
                      go_quiet (first | (go_at_call 32; (refine (grid.allAre.calls gb (grid.openAt l1) true (rd x 0) (rd x 1) (rd x 2) _ (by first | exact HG.out | exact HG.out.move rfl) HXV.out.2.1 HXV.out.2.2.1 HXV.out.2.2.2.1 HXV.out.2.2.2.2.2.2).mono ?_); rintro e w_ ⟨rfl, rfl⟩; exact ⟨congrArg (fun z => Ending.returned (.bool z)) HAL.out, _, rfl⟩))
                      go_wp2
                      go_roundw
                      case rel => exact ⟨i + 1, ⟨by have := HLT.out; have := hi.out; omega⟩, (by first | rfl | (congr 1; have := HLT.out; have := HL3.out; have := hi.out; unfold wrap64; omega)), ⟨by have h0 := hi.out.1; rw [show (i + 1).toNat = i.toNat + 1 by omega, List.take_add_one, HX.out]; have := HA.out; unfold grid.allIn at this ⊢; rw [List.all_append, this]; simp [HAL.out]⟩, ⟨HG.out.move rfl⟩, ⟨pw_below_drewN HB.out _⟩⟩
                      case measure => have := HLT.out; have := hi.out; have := HL3.out; have hw : wrap64 (i + 1) = i + 1 := (by unfold wrap64; omega); simp [intOf, hw]; omega
                  · have qb : decide (i < (l3.length : Int)) = false := decide_eq_false q
                    have HA3 := Aside0.mk (show grid.allIn (grid.openAt l1) true l3 = true from by have h1 := hi.out; have h2 := HA.out; rw [show i.toNat = l3.length by omega, List.take_length] at h2; exact h2)
                    clear q hi HA
                    go_wp2_with (first | ((with_reducible refine gate_callee (f := 31) rfl ?_); refine goesL_ (some 75) rfl rfl Try.func31 (by kernel_rfl) rfl #[.slice A0 l0.length c0] rfl (by (try simp only [List.map_toArray, List.map_cons, List.map_nil]); first | done | rfl) ?_; (with_reducible refine (grid.gridOf.calls _ _ l0 _ ?s1 ?s2 HV0.out).mono ?_); (case s1 => exact Kd.C_below HR0.out HB.out); (case s2 => exact HC0.out); rintro e w6 ⟨ga, rfl, hg, hge, hb⟩; refine ⟨_, rfl, ?_⟩; have HG2 := Aside0.mk hg; have HGE2 := Aside0.mk (Nat.le_trans (below_size HB.out) hge); have HNE := Aside0.mk (show gb ≠ ga from Nat.ne_of_lt (Nat.lt_of_lt_of_le HG.out.lt hge)); have n1_ := Aside0.mk (HG.out.below hb); have n0_ := Aside0.mk (below_step HB.out hb); clear HB HG hb hg hge; have HB := n0_; have HG := n1_; clear n0_ n1_) | (go_at_call 33; (refine (grid.apply.calls ga (grid.openAt l0) false A2 c2 l2 w _ HR2.out HB.out HGE2.out HG2.out HV2.out).mono ?_); rintro e w7 ⟨rfl, hg, hb, hk⟩; have n0_ := Aside0.mk hg; have n1_ := Aside0.mk (HG.out.move (hk.2 gb HG.out.lt HNE.out)); have n2_ := Aside0.mk hb; clear HG HG2 HB hg hb hk; have HG2 := n0_; have HG := n1_; have HB := n2_; clear n0_ n1_ n2_) | (go_at_call 33; (refine (grid.apply.calls ga (grid.rgAll false (grid.openAt l0) l2) true A3 c3 l3 w _ HR3.out HB.out HGE2.out HG2.out HV3.out).mono ?_); rintro e w8 ⟨rfl, hg, hb, hk⟩; have n0_ := Aside0.mk hg; have n1_ := Aside0.mk (HG.out.move (hk.2 gb HG.out.lt HNE.out)); have n2_ := Aside0.mk hb; clear HG HG2 HB hg hb hk; have HG2 := n0_; have HG := n1_; have HB := n2_; clear n0_ n1_ n2_))
                    have hl1_ := HG2.out.load
                    obtain ⟨xs, hx_, HX_⟩ := hl1_
                    have hl2_ := HG.out.load
                    obtain ⟨ys, hy_, HY_⟩ := hl2_
                    have HE_ := grid.grid_eq xs ys _ _ hx_ hy_
                    clear hx_ hy_
                    refine wp_region_quiet_lit (by kernel_rfl) (by kernel_rfl) ?_
                    quiet_step (fail)
                    quiet_step (fail)
                    refine wpQuiet_step (fun K hK => ?_)
                    refine quiet_load 58 (.tmp 83) rfl rfl _ _ rfl HX_ ?_
                    refine hK _ ?_
                    clear hK K
                    quiet_step (fail)
                    quiet_step (fail)
                    refine wpQuiet_step (fun K hK => ?_)
                    refine quiet_load 58 (.tmp 86) rfl rfl _ _ rfl HY_ ?_
                    refine hK _ ?_
                    clear hK K
                    refine wpQuiet_step (fun K hK => ?_)
                    refine quiet_eql 58 _ (.tmp 84) (.tmp 87) rfl rfl xs ys _ rfl rfl grid.grid_guard HE_ ?_
                    refine hK _ ?_
                    clear hK K HE_ HX_ HY_
                    quiet_step (fail)
                    quiet_step (fail)
                    refine wpQuiet_nil ?_
                    intro _ hw'
                    obtain ⟨nq, hw''⟩ := hw'
                    subst hw''
                    go_wp2
                    go_ret2
                    have hR := HRES.out
                    rw [if_pos HA2.out, if_pos HA3.out] at hR
                    rw [show r1 = _ from (congrArg Prod.fst hR).symm, show r2 = true from (congrArg Prod.snd hR).symm]
                    exact ⟨rfl, pw_below_drewN HB.out _⟩
          · rw [if_neg hv] at h; cases h

/-! ### laws_eqHole: function 34 -/
def laws_eqHole.f (a0_0 : Int) (a0_1 : Int) (a0_2 : Int) (a1_0 : Int) (a1_1 : Int) (a1_2 : Int) : Option (Bool) := if a0_0 = a1_0 then (if a0_1 = a1_1 then (if a0_2 = a1_2 then (some true) else (some false)) else (some false)) else (some false)
set_option maxHeartbeats 8000000 in
set_option maxRecDepth 100000 in
theorem laws_eqHole.calls (a0_0 : Int) (a0_1 : Int) (a0_2 : Int) (a1_0 : Int) (a1_1 : Int) (a1_2 : Int) (r : Bool) (w : World) (h : laws_eqHole.f a0_0 a0_1 a0_2 a1_0 a1_1 a1_2 = some r) :
    Calls Try.prog 34 #[.agg #[.int .i64 a0_0, .int .i64 a0_1, .int .i64 a0_2], .agg #[.int .i64 a1_0, .int .i64 a1_1, .int .i64 a1_2]] w fun e w' => e = .returned (.bool r) ∧ Below w.heap.size w w' := by
  have hu47 := Try.underlying47
  have HB := Aside0.mk (Below.refl w.heap.size w)
  have H : (if a0_0 = a1_0 then (if a0_1 = a1_1 then (if a0_2 = a1_2 then (some true) else (some false)) else (some false)) else (some false)) = some r := h
  clear h
  by_cases c3 : a0_0 = a1_0
  · rw [if_pos c3] at H
    have c3b0 : (a0_0 == a1_0) = true := beq_iff_eq.mpr c3
    have c3b1 : (a0_0 != a1_0) = false := bne_eq_false_iff_eq.mpr c3
    clear c3
    by_cases c4 : a0_1 = a1_1
    · rw [if_pos c4] at H
      have c4b0 : (a0_1 == a1_1) = true := beq_iff_eq.mpr c4
      have c4b1 : (a0_1 != a1_1) = false := bne_eq_false_iff_eq.mpr c4
      clear c4
      by_cases c5 : a0_2 = a1_2
      · rw [if_pos c5] at H
        have c5b0 : (a0_2 == a1_2) = true := beq_iff_eq.mpr c5
        have c5b1 : (a0_2 != a1_2) = false := bne_eq_false_iff_eq.mpr c5
        clear c5
        obtain rfl := Option.some.inj H
        go_enter Try.func34, Try.ntmps34
        go_wp2_with (first | ((with_reducible refine gate_dst (N := 2) rfl ?_); refine box_event ?hg (N := 2) ?hd (cs := #[.int .i64 a0_0, .int .i64 a0_1, .int .i64 a0_2]) (t := 47) ?hr ?_; (case hd => rfl); (case hg => rfl); (case hr => first | (go_simp; done) | (go_simp; rfl)); intro gb187 hg w6 hbox hb; have n0_ := Aside0.mk (below_step (by repeat (first | (with_reducible first | exact HB.out | apply below_alloc | apply pw_below_drewN | apply below_drew1) | exact HB.out)) hb); have n1_ := Aside0.mk (hbox); have n2_ := Aside0.mk ((by rw [hg]; exact (below_size (by repeat (first | (with_reducible first | exact HB.out | apply below_alloc | apply pw_below_drewN | apply below_drew1) | exact HB.out))) : w.heap.size ≤ gb187)); have n3_ := Aside0.mk ((by rw [hg]; exact (below_size (by repeat (first | (with_reducible first | exact HB.out | apply below_alloc | apply pw_below_drewN | apply below_drew1) | exact HB.out))) : w.heap.size ≤ gb187)); clear HB; have HB := n0_; have BK187 := n1_; have GW187 := n2_; have GE187 := n3_; clear n0_ n1_ n2_ n3_; clear hb hbox hg) | ((with_reducible refine gate_dst (N := 3) rfl ?_); refine box_event ?hg (N := 3) ?hd (cs := #[.int .i64 a1_0, .int .i64 a1_1, .int .i64 a1_2]) (t := 47) ?hr ?_; (case hd => rfl); (case hg => rfl); (case hr => first | (go_simp; done) | (go_simp; rfl)); intro gb188 hg w7 hbox hb; have n0_ := Aside0.mk (blk_below (g := gb187) (o := .cells #[.int .i64 a0_0, .int .i64 a0_1, .int .i64 a0_2] 47 (0, 0)) (by (with_reducible repeat (first | refine blk_drewN ?_ _ | refine blk_drew ?_ | refine blk_alloc ?_ _)); exact BK187.out) hb); have n1_ := Aside0.mk (below_step (by repeat (first | (with_reducible first | exact HB.out | apply below_alloc | apply pw_below_drewN | apply below_drew1 | refine below_set ?_ GE187.out) | exact HB.out)) hb); have n2_ := Aside0.mk (hbox); have n3_ := Aside0.mk ((by rw [hg]; exact (below_size (by repeat (first | (with_reducible first | exact HB.out | apply below_alloc | apply pw_below_drewN | apply below_drew1 | refine below_set ?_ GE187.out) | exact HB.out))) : w.heap.size ≤ gb188)); have n4_ := Aside0.mk ((by rw [hg]; exact (below_size (by repeat (first | (with_reducible first | exact HB.out | apply below_alloc | apply pw_below_drewN | apply below_drew1 | refine below_set ?_ GE187.out) | exact HB.out))) : w.heap.size ≤ gb188)); have n5_ := Aside0.mk ((by rw [hg]; exact Nat.ne_of_lt (blk_lt (g := gb187) (o := .cells #[.int .i64 a0_0, .int .i64 a0_1, .int .i64 a0_2] 47 (0, 0)) (by (with_reducible repeat (first | refine blk_drewN ?_ _ | refine blk_drew ?_ | refine blk_alloc ?_ _)); exact BK187.out)) : gb187 ≠ gb188)); have n6_ := Aside0.mk ((by rw [hg]; exact Nat.ne_of_gt (blk_lt (g := gb187) (o := .cells #[.int .i64 a0_0, .int .i64 a0_1, .int .i64 a0_2] 47 (0, 0)) (by (with_reducible repeat (first | refine blk_drewN ?_ _ | refine blk_drew ?_ | refine blk_alloc ?_ _)); exact BK187.out)) : gb188 ≠ gb187)); clear BK187; clear HB; have BK187 := n0_; have HB := n1_; have BK188 := n2_; have GW188 := n3_; have GE188 := n4_; have NB187_188 := n5_; have NB188_187 := n6_; clear n0_ n1_ n2_ n3_ n4_ n5_ n6_; clear hb hbox hg; have hnb8 := NB187_188.out; have hnc8 := NB188_187.out; have hcz9_0 : w7.cell? ⟨gb187, 0, none⟩ = some (.int .i64 a0_0) := (blk_cell BK187.out 0).trans rfl; have hcz9_1 : w7.cell? ⟨gb187, 1, none⟩ = some (.int .i64 a0_1) := (blk_cell BK187.out 1).trans rfl; have hcz9_2 : w7.cell? ⟨gb187, 2, none⟩ = some (.int .i64 a0_2) := (blk_cell BK187.out 2).trans rfl; have hfz9_0 := blk_frozen BK187.out 0; have hfz9_1 := blk_frozen BK187.out 1; have hfz9_2 := blk_frozen BK187.out 2; have hcz10_0 : w7.cell? ⟨gb188, 0, none⟩ = some (.int .i64 a1_0) := (blk_cell BK188.out 0).trans rfl; have hcz10_1 : w7.cell? ⟨gb188, 1, none⟩ = some (.int .i64 a1_1) := (blk_cell BK188.out 1).trans rfl; have hcz10_2 : w7.cell? ⟨gb188, 2, none⟩ = some (.int .i64 a1_2) := (blk_cell BK188.out 2).trans rfl; have hfz10_0 := blk_frozen BK188.out 0; have hfz10_1 := blk_frozen BK188.out 1; have hfz10_2 := blk_frozen BK188.out 2))
        go_ret
        exact ⟨by first | rfl | (simp [errW_none, errW_some] <;> rfl) | (simp [*, errW_none, errW_some] <;> rfl), by repeat (first | (with_reducible first | exact HB.out | apply below_alloc | apply pw_below_drewN | apply below_drew1 | refine below_set ?_ GE187.out | refine below_set ?_ GE188.out) | exact HB.out)⟩
      · rw [if_neg c5] at H
        have c5b0 : (a0_2 == a1_2) = false := beq_eq_false_iff_ne.mpr c5
        have c5b1 : (a0_2 != a1_2) = true := bne_iff_ne.mpr c5
        obtain rfl := Option.some.inj H
        go_enter Try.func34, Try.ntmps34
        go_wp2_with (first | ((with_reducible refine gate_dst (N := 2) rfl ?_); refine box_event ?hg (N := 2) ?hd (cs := #[.int .i64 a0_0, .int .i64 a0_1, .int .i64 a0_2]) (t := 47) ?hr ?_; (case hd => rfl); (case hg => rfl); (case hr => first | (go_simp; done) | (go_simp; rfl)); intro gb187 hg w11 hbox hb; have n0_ := Aside0.mk (below_step (by repeat (first | (with_reducible first | exact HB.out | apply below_alloc | apply pw_below_drewN | apply below_drew1) | exact HB.out)) hb); have n1_ := Aside0.mk (hbox); have n2_ := Aside0.mk ((by rw [hg]; exact (below_size (by repeat (first | (with_reducible first | exact HB.out | apply below_alloc | apply pw_below_drewN | apply below_drew1) | exact HB.out))) : w.heap.size ≤ gb187)); have n3_ := Aside0.mk ((by rw [hg]; exact (below_size (by repeat (first | (with_reducible first | exact HB.out | apply below_alloc | apply pw_below_drewN | apply below_drew1) | exact HB.out))) : w.heap.size ≤ gb187)); clear HB; have HB := n0_; have BK187 := n1_; have GW187 := n2_; have GE187 := n3_; clear n0_ n1_ n2_ n3_; clear hb hbox hg) | ((with_reducible refine gate_dst (N := 3) rfl ?_); refine box_event ?hg (N := 3) ?hd (cs := #[.int .i64 a1_0, .int .i64 a1_1, .int .i64 a1_2]) (t := 47) ?hr ?_; (case hd => rfl); (case hg => rfl); (case hr => first | (go_simp; done) | (go_simp; rfl)); intro gb188 hg w12 hbox hb; have n0_ := Aside0.mk (blk_below (g := gb187) (o := .cells #[.int .i64 a0_0, .int .i64 a0_1, .int .i64 a0_2] 47 (0, 0)) (by (with_reducible repeat (first | refine blk_drewN ?_ _ | refine blk_drew ?_ | refine blk_alloc ?_ _)); exact BK187.out) hb); have n1_ := Aside0.mk (below_step (by repeat (first | (with_reducible first | exact HB.out | apply below_alloc | apply pw_below_drewN | apply below_drew1 | refine below_set ?_ GE187.out) | exact HB.out)) hb); have n2_ := Aside0.mk (hbox); have n3_ := Aside0.mk ((by rw [hg]; exact (below_size (by repeat (first | (with_reducible first | exact HB.out | apply below_alloc | apply pw_below_drewN | apply below_drew1 | refine below_set ?_ GE187.out) | exact HB.out))) : w.heap.size ≤ gb188)); have n4_ := Aside0.mk ((by rw [hg]; exact (below_size (by repeat (first | (with_reducible first | exact HB.out | apply below_alloc | apply pw_below_drewN | apply below_drew1 | refine below_set ?_ GE187.out) | exact HB.out))) : w.heap.size ≤ gb188)); have n5_ := Aside0.mk ((by rw [hg]; exact Nat.ne_of_lt (blk_lt (g := gb187) (o := .cells #[.int .i64 a0_0, .int .i64 a0_1, .int .i64 a0_2] 47 (0, 0)) (by (with_reducible repeat (first | refine blk_drewN ?_ _ | refine blk_drew ?_ | refine blk_alloc ?_ _)); exact BK187.out)) : gb187 ≠ gb188)); have n6_ := Aside0.mk ((by rw [hg]; exact Nat.ne_of_gt (blk_lt (g := gb187) (o := .cells #[.int .i64 a0_0, .int .i64 a0_1, .int .i64 a0_2] 47 (0, 0)) (by (with_reducible repeat (first | refine blk_drewN ?_ _ | refine blk_drew ?_ | refine blk_alloc ?_ _)); exact BK187.out)) : gb188 ≠ gb187)); clear BK187; clear HB; have BK187 := n0_; have HB := n1_; have BK188 := n2_; have GW188 := n3_; have GE188 := n4_; have NB187_188 := n5_; have NB188_187 := n6_; clear n0_ n1_ n2_ n3_ n4_ n5_ n6_; clear hb hbox hg; have hnb13 := NB187_188.out; have hnc13 := NB188_187.out; have hcz14_0 : w12.cell? ⟨gb187, 0, none⟩ = some (.int .i64 a0_0) := (blk_cell BK187.out 0).trans rfl; have hcz14_1 : w12.cell? ⟨gb187, 1, none⟩ = some (.int .i64 a0_1) := (blk_cell BK187.out 1).trans rfl; have hcz14_2 : w12.cell? ⟨gb187, 2, none⟩ = some (.int .i64 a0_2) := (blk_cell BK187.out 2).trans rfl; have hfz14_0 := blk_frozen BK187.out 0; have hfz14_1 := blk_frozen BK187.out 1; have hfz14_2 := blk_frozen BK187.out 2; have hcz15_0 : w12.cell? ⟨gb188, 0, none⟩ = some (.int .i64 a1_0) := (blk_cell BK188.out 0).trans rfl; have hcz15_1 : w12.cell? ⟨gb188, 1, none⟩ = some (.int .i64 a1_1) := (blk_cell BK188.out 1).trans rfl; have hcz15_2 : w12.cell? ⟨gb188, 2, none⟩ = some (.int .i64 a1_2) := (blk_cell BK188.out 2).trans rfl; have hfz15_0 := blk_frozen BK188.out 0; have hfz15_1 := blk_frozen BK188.out 1; have hfz15_2 := blk_frozen BK188.out 2))
        go_ret
        exact ⟨by first | rfl | (simp [errW_none, errW_some] <;> rfl) | (simp [*, errW_none, errW_some] <;> rfl), by repeat (first | (with_reducible first | exact HB.out | apply below_alloc | apply pw_below_drewN | apply below_drew1 | refine below_set ?_ GE187.out | refine below_set ?_ GE188.out) | exact HB.out)⟩
    · rw [if_neg c4] at H
      have c4b0 : (a0_1 == a1_1) = false := beq_eq_false_iff_ne.mpr c4
      have c4b1 : (a0_1 != a1_1) = true := bne_iff_ne.mpr c4
      obtain rfl := Option.some.inj H
      go_enter Try.func34, Try.ntmps34
      go_wp2_with (first | ((with_reducible refine gate_dst (N := 2) rfl ?_); refine box_event ?hg (N := 2) ?hd (cs := #[.int .i64 a0_0, .int .i64 a0_1, .int .i64 a0_2]) (t := 47) ?hr ?_; (case hd => rfl); (case hg => rfl); (case hr => first | (go_simp; done) | (go_simp; rfl)); intro gb187 hg w16 hbox hb; have n0_ := Aside0.mk (below_step (by repeat (first | (with_reducible first | exact HB.out | apply below_alloc | apply pw_below_drewN | apply below_drew1) | exact HB.out)) hb); have n1_ := Aside0.mk (hbox); have n2_ := Aside0.mk ((by rw [hg]; exact (below_size (by repeat (first | (with_reducible first | exact HB.out | apply below_alloc | apply pw_below_drewN | apply below_drew1) | exact HB.out))) : w.heap.size ≤ gb187)); have n3_ := Aside0.mk ((by rw [hg]; exact (below_size (by repeat (first | (with_reducible first | exact HB.out | apply below_alloc | apply pw_below_drewN | apply below_drew1) | exact HB.out))) : w.heap.size ≤ gb187)); clear HB; have HB := n0_; have BK187 := n1_; have GW187 := n2_; have GE187 := n3_; clear n0_ n1_ n2_ n3_; clear hb hbox hg) | ((with_reducible refine gate_dst (N := 3) rfl ?_); refine box_event ?hg (N := 3) ?hd (cs := #[.int .i64 a1_0, .int .i64 a1_1, .int .i64 a1_2]) (t := 47) ?hr ?_; (case hd => rfl); (case hg => rfl); (case hr => first | (go_simp; done) | (go_simp; rfl)); intro gb188 hg w17 hbox hb; have n0_ := Aside0.mk (blk_below (g := gb187) (o := .cells #[.int .i64 a0_0, .int .i64 a0_1, .int .i64 a0_2] 47 (0, 0)) (by (with_reducible repeat (first | refine blk_drewN ?_ _ | refine blk_drew ?_ | refine blk_alloc ?_ _)); exact BK187.out) hb); have n1_ := Aside0.mk (below_step (by repeat (first | (with_reducible first | exact HB.out | apply below_alloc | apply pw_below_drewN | apply below_drew1 | refine below_set ?_ GE187.out) | exact HB.out)) hb); have n2_ := Aside0.mk (hbox); have n3_ := Aside0.mk ((by rw [hg]; exact (below_size (by repeat (first | (with_reducible first | exact HB.out | apply below_alloc | apply pw_below_drewN | apply below_drew1 | refine below_set ?_ GE187.out) | exact HB.out))) : w.heap.size ≤ gb188)); have n4_ := Aside0.mk ((by rw [hg]; exact (below_size (by repeat (first | (with_reducible first | exact HB.out | apply below_alloc | apply pw_below_drewN | apply below_drew1 | refine below_set ?_ GE187.out) | exact HB.out))) : w.heap.size ≤ gb188)); have n5_ := Aside0.mk ((by rw [hg]; exact Nat.ne_of_lt (blk_lt (g := gb187) (o := .cells #[.int .i64 a0_0, .int .i64 a0_1, .int .i64 a0_2] 47 (0, 0)) (by (with_reducible repeat (first | refine blk_drewN ?_ _ | refine blk_drew ?_ | refine blk_alloc ?_ _)); exact BK187.out)) : gb187 ≠ gb188)); have n6_ := Aside0.mk ((by rw [hg]; exact Nat.ne_of_gt (blk_lt (g := gb187) (o := .cells #[.int .i64 a0_0, .int .i64 a0_1, .int .i64 a0_2] 47 (0, 0)) (by (with_reducible repeat (first | refine blk_drewN ?_ _ | refine blk_drew ?_ | refine blk_alloc ?_ _)); exact BK187.out)) : gb188 ≠ gb187)); clear BK187; clear HB; have BK187 := n0_; have HB := n1_; have BK188 := n2_; have GW188 := n3_; have GE188 := n4_; have NB187_188 := n5_; have NB188_187 := n6_; clear n0_ n1_ n2_ n3_ n4_ n5_ n6_; clear hb hbox hg; have hnb18 := NB187_188.out; have hnc18 := NB188_187.out; have hcz19_0 : w17.cell? ⟨gb187, 0, none⟩ = some (.int .i64 a0_0) := (blk_cell BK187.out 0).trans rfl; have hcz19_1 : w17.cell? ⟨gb187, 1, none⟩ = some (.int .i64 a0_1) := (blk_cell BK187.out 1).trans rfl; have hcz19_2 : w17.cell? ⟨gb187, 2, none⟩ = some (.int .i64 a0_2) := (blk_cell BK187.out 2).trans rfl; have hfz19_0 := blk_frozen BK187.out 0; have hfz19_1 := blk_frozen BK187.out 1; have hfz19_2 := blk_frozen BK187.out 2; have hcz20_0 : w17.cell? ⟨gb188, 0, none⟩ = some (.int .i64 a1_0) := (blk_cell BK188.out 0).trans rfl; have hcz20_1 : w17.cell? ⟨gb188, 1, none⟩ = some (.int .i64 a1_1) := (blk_cell BK188.out 1).trans rfl; have hcz20_2 : w17.cell? ⟨gb188, 2, none⟩ = some (.int .i64 a1_2) := (blk_cell BK188.out 2).trans rfl; have hfz20_0 := blk_frozen BK188.out 0; have hfz20_1 := blk_frozen BK188.out 1; have hfz20_2 := blk_frozen BK188.out 2))
      go_ret
      exact ⟨by first | rfl | (simp [errW_none, errW_some] <;> rfl) | (simp [*, errW_none, errW_some] <;> rfl), by repeat (first | (with_reducible first | exact HB.out | apply below_alloc | apply pw_below_drewN | apply below_drew1 | refine below_set ?_ GE187.out | refine below_set ?_ GE188.out) | exact HB.out)⟩
  · rw [if_neg c3] at H
    have c3b0 : (a0_0 == a1_0) = false := beq_eq_false_iff_ne.mpr c3
    have c3b1 : (a0_0 != a1_0) = true := bne_iff_ne.mpr c3
    obtain rfl := Option.some.inj H
    go_enter Try.func34, Try.ntmps34
    go_wp2_with (first | ((with_reducible refine gate_dst (N := 2) rfl ?_); refine box_event ?hg (N := 2) ?hd (cs := #[.int .i64 a0_0, .int .i64 a0_1, .int .i64 a0_2]) (t := 47) ?hr ?_; (case hd => rfl); (case hg => rfl); (case hr => first | (go_simp; done) | (go_simp; rfl)); intro gb187 hg w21 hbox hb; have n0_ := Aside0.mk (below_step (by repeat (first | (with_reducible first | exact HB.out | apply below_alloc | apply pw_below_drewN | apply below_drew1) | exact HB.out)) hb); have n1_ := Aside0.mk (hbox); have n2_ := Aside0.mk ((by rw [hg]; exact (below_size (by repeat (first | (with_reducible first | exact HB.out | apply below_alloc | apply pw_below_drewN | apply below_drew1) | exact HB.out))) : w.heap.size ≤ gb187)); have n3_ := Aside0.mk ((by rw [hg]; exact (below_size (by repeat (first | (with_reducible first | exact HB.out | apply below_alloc | apply pw_below_drewN | apply below_drew1) | exact HB.out))) : w.heap.size ≤ gb187)); clear HB; have HB := n0_; have BK187 := n1_; have GW187 := n2_; have GE187 := n3_; clear n0_ n1_ n2_ n3_; clear hb hbox hg) | ((with_reducible refine gate_dst (N := 3) rfl ?_); refine box_event ?hg (N := 3) ?hd (cs := #[.int .i64 a1_0, .int .i64 a1_1, .int .i64 a1_2]) (t := 47) ?hr ?_; (case hd => rfl); (case hg => rfl); (case hr => first | (go_simp; done) | (go_simp; rfl)); intro gb188 hg w22 hbox hb; have n0_ := Aside0.mk (blk_below (g := gb187) (o := .cells #[.int .i64 a0_0, .int .i64 a0_1, .int .i64 a0_2] 47 (0, 0)) (by (with_reducible repeat (first | refine blk_drewN ?_ _ | refine blk_drew ?_ | refine blk_alloc ?_ _)); exact BK187.out) hb); have n1_ := Aside0.mk (below_step (by repeat (first | (with_reducible first | exact HB.out | apply below_alloc | apply pw_below_drewN | apply below_drew1 | refine below_set ?_ GE187.out) | exact HB.out)) hb); have n2_ := Aside0.mk (hbox); have n3_ := Aside0.mk ((by rw [hg]; exact (below_size (by repeat (first | (with_reducible first | exact HB.out | apply below_alloc | apply pw_below_drewN | apply below_drew1 | refine below_set ?_ GE187.out) | exact HB.out))) : w.heap.size ≤ gb188)); have n4_ := Aside0.mk ((by rw [hg]; exact (below_size (by repeat (first | (with_reducible first | exact HB.out | apply below_alloc | apply pw_below_drewN | apply below_drew1 | refine below_set ?_ GE187.out) | exact HB.out))) : w.heap.size ≤ gb188)); have n5_ := Aside0.mk ((by rw [hg]; exact Nat.ne_of_lt (blk_lt (g := gb187) (o := .cells #[.int .i64 a0_0, .int .i64 a0_1, .int .i64 a0_2] 47 (0, 0)) (by (with_reducible repeat (first | refine blk_drewN ?_ _ | refine blk_drew ?_ | refine blk_alloc ?_ _)); exact BK187.out)) : gb187 ≠ gb188)); have n6_ := Aside0.mk ((by rw [hg]; exact Nat.ne_of_gt (blk_lt (g := gb187) (o := .cells #[.int .i64 a0_0, .int .i64 a0_1, .int .i64 a0_2] 47 (0, 0)) (by (with_reducible repeat (first | refine blk_drewN ?_ _ | refine blk_drew ?_ | refine blk_alloc ?_ _)); exact BK187.out)) : gb188 ≠ gb187)); clear BK187; clear HB; have BK187 := n0_; have HB := n1_; have BK188 := n2_; have GW188 := n3_; have GE188 := n4_; have NB187_188 := n5_; have NB188_187 := n6_; clear n0_ n1_ n2_ n3_ n4_ n5_ n6_; clear hb hbox hg; have hnb23 := NB187_188.out; have hnc23 := NB188_187.out; have hcz24_0 : w22.cell? ⟨gb187, 0, none⟩ = some (.int .i64 a0_0) := (blk_cell BK187.out 0).trans rfl; have hcz24_1 : w22.cell? ⟨gb187, 1, none⟩ = some (.int .i64 a0_1) := (blk_cell BK187.out 1).trans rfl; have hcz24_2 : w22.cell? ⟨gb187, 2, none⟩ = some (.int .i64 a0_2) := (blk_cell BK187.out 2).trans rfl; have hfz24_0 := blk_frozen BK187.out 0; have hfz24_1 := blk_frozen BK187.out 1; have hfz24_2 := blk_frozen BK187.out 2; have hcz25_0 : w22.cell? ⟨gb188, 0, none⟩ = some (.int .i64 a1_0) := (blk_cell BK188.out 0).trans rfl; have hcz25_1 : w22.cell? ⟨gb188, 1, none⟩ = some (.int .i64 a1_1) := (blk_cell BK188.out 1).trans rfl; have hcz25_2 : w22.cell? ⟨gb188, 2, none⟩ = some (.int .i64 a1_2) := (blk_cell BK188.out 2).trans rfl; have hfz25_0 := blk_frozen BK188.out 0; have hfz25_1 := blk_frozen BK188.out 1; have hfz25_2 := blk_frozen BK188.out 2))
    go_ret
    exact ⟨by first | rfl | (simp [errW_none, errW_some] <;> rfl) | (simp [*, errW_none, errW_some] <;> rfl), by repeat (first | (with_reducible first | exact HB.out | apply below_alloc | apply pw_below_drewN | apply below_drew1 | refine below_set ?_ GE187.out | refine below_set ?_ GE188.out) | exact HB.out)⟩

end Go.Proofs.Ytghdiijfpepmhaa.PFnExactIsRepair
