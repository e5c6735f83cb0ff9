/- The walks of functions that FnExactRepairCost reaches: what they return is what the plain functions of the same names say. Laid by a program of this session after the kit's print. No conditions beyond the arguments' being read. -/
import Derived.Test.YtjniaiobnbdhhaaRRepairCost0
import Derived.Test.YtjniaiobnbdhhaaRRepairCost1
import Derived.Test.YtjniaiobnbdhhaaRRepairCost5
import Derived.Test.YtjniaiobnbdhhaaRRepairCost7
namespace Go.Proofs.Ytjniaiobnbdhhaa.PFnExactRepairCost
open Go.RowKit Go.Proofs.YtjniaiobnbdhhaaW.PrintWords Go.Proofs.YtjniaiobnbdhhaaW.PrintLast Go.Proofs.YtjniaiobnbdhhaaW.PrintMore
attribute [local go_sem] max2_int min2_int max_two min_two max_three min_three max_four min_four   -- for this text's walks alone
set_option linter.unusedVariables false
set_option linter.unusedSimpArgs false

namespace grid
theorem gr_okR (h : Int → Int → Bool) : ∀ r ∈ gr h, okR r := by
  have one : ∀ (t : Nat) (o : List (List Int)), t < 20 → (∀ r ∈ o, okR r) → ∀ s : Nat, s ≤ 2001 → ∀ r ∈ (grS h t o s).1, okR r := by
    intro t o ht ho s
    induction s with
    | zero => intro _ r hr; exact ho r hr
    | succ s ih =>
      intro hs r hr
      have e : grS h t o (s + 1) = grStep h t (grS h t o s) s := rfl
      rw [e] at hr
      have h2 := grS_snd h t o s
      have ih := ih (by omega)
      unfold grStep at hr
      split at hr
      · exact ih r hr
      · split at hr
        · rcases List.mem_append.1 hr with h3 | h3
          · exact ih r h3
          · rw [List.mem_singleton.1 h3]
            refine ⟨rfl, ?_, ?_, ?_, ?_, ?_, ?_⟩
            · show (0 : Int) ≤ (t : Int); omega
            · show (t : Int) < 20; omega
            · show (0 : Int) ≤ (grS h t o s).2; omega
            · show (grS h t o s).2 ≤ 2000; omega
            · show (0 : Int) ≤ (s : Int); omega
            · show (s : Int) ≤ 2000; omega
        · exact ih r hr
  have all : ∀ n, n ≤ 20 → ∀ r ∈ grT h n, okR r := by
    intro n
    induction n with
    | zero => intro _ r hr; exact absurd hr List.not_mem_nil
    | succ n ih => intro hn; exact one n _ (by omega) (ih (by omega)) 2001 (Nat.le_refl _)
  exact all 20 (Nat.le_refl _)
end grid
/-! ### impl.allAre: function 107 -/
namespace grid
set_option maxHeartbeats 8000000 in
set_option maxRecDepth 100000 in
theorem allAre.calls (g : Nat) (G : Int → Int → Bool) (op : Bool) (t a b : Int) (w : World) (hG : Grid w g G) (t0 : 0 ≤ t) (t1 : t < 20) (a0 : 0 ≤ a) (b1 : b ≤ 2000) :
    Calls Try.prog 107 #[.pointer (some ⟨g, 0, none⟩), .bool op, .int .i64 t, .int .i64 a, .int .i64 b] w fun e w' => e = .returned (.bool (allB G op t a b)) ∧ w = w' := by
  have HG := Aside0.mk hG
  have HT := Aside0.mk (show 0 ≤ t ∧ t < 20 from ⟨t0, t1⟩)
  have HAB := Aside0.mk (show 0 ≤ a ∧ b ≤ 2000 from ⟨a0, b1⟩)
  clear hG t0 t1 a0 b1
  go_enter Try.func107, Try.ntmps107
  go_wp2
  go_loopw [11] (fun v wr => ∃ m : Int, v = .int .i64 m ∧ Aside0 (a ≤ m) ∧ Aside0 (allB G op t m b = allB G op t a b) ∧ w = wr) (fun v _ => (b - intOf v).toNat)
  case atStart => exact ⟨a, rfl, ⟨Int.le_refl _⟩, ⟨rfl⟩, rfl⟩
  case round =>
    obtain ⟨m, rfl, HM, HE, rfl⟩ := hrel
    by_cases q : m < b
    · have qb : decide (m < b) = true := decide_eq_true q
      have h2 : 0 ≤ m := by have := HM.out; have := HAB.out; omega
      have h3 : m < 2000 := by have := HAB.out; omega
      obtain ⟨hgc, hgf⟩ := HG.out.cell HT.out.1 HT.out.2 h2 h3
      have HS := Aside0.mk (allB_step (G := G) (op := op) (t := t) q)
      have HQ := Aside0.mk (show 0 ≤ m ∧ m < 2000 ∧ m < b from ⟨h2, h3, q⟩)
      have h0 := eq_true HT.out.1
      have h1 := eq_true HT.out.2
      replace h2 := eq_true h2
      replace h3 := eq_true h3
      clear q hgf
      cases op with
      | true =>
        rcases hv : G t m with _ | _
        · have HV := Aside0.mk hv
          rw [hv] at hgc
          clear hv
          go_wp2
          go_ret
          refine ⟨?_, rfl⟩
          rw [← HE.out, HS.out, HV.out]
          rfl
        · have HV := Aside0.mk hv
          rw [hv] at hgc
          clear hv
          go_wp2
          go_roundw
          case rel => exact ⟨m + 1, (by first | rfl | (congr 1; have := HQ.out; unfold wrap64; omega)), ⟨by have := HM.out; omega⟩, ⟨by rw [← HE.out, HS.out, HV.out]; rfl⟩, (by first | rfl | trivial)⟩
          case measure => have := HQ.out; have hw : wrap64 (m + 1) = m + 1 := (by unfold wrap64; omega); simp [intOf, hw]; omega
      | false =>
        rcases hv : G t m with _ | _
        · have HV := Aside0.mk hv
          rw [hv] at hgc
          clear hv
          go_wp2
          go_roundw
          case rel => exact ⟨m + 1, (by first | rfl | (congr 1; have := HQ.out; unfold wrap64; omega)), ⟨by have := HM.out; omega⟩, ⟨by rw [← HE.out, HS.out, HV.out]; rfl⟩, (by first | rfl | trivial)⟩
          case measure => have := HQ.out; have hw : wrap64 (m + 1) = m + 1 := (by unfold wrap64; omega); simp [intOf, hw]; omega
        · have HV := Aside0.mk hv
          rw [hv] at hgc
          clear hv
          go_wp2
          go_ret
          refine ⟨?_, rfl⟩
          rw [← HE.out, HS.out, HV.out]
          rfl
    · have qb : decide (m < b) = false := decide_eq_false q
      have HQ := Aside0.mk q
      clear q
      go_wp2
      go_ret
      exact ⟨by rw [← HE.out, allB_stop (by have := HQ.out; omega)]; rfl, rfl⟩
end grid
/-! ### impl.joinedRanges: function 141 -/
namespace grid
/-- The elements of a row of rows, each by itself: its header, and its own row; f tells whose a block is. -/
theorem S_pool {e : Nat} {W : World} {base n cap g : Nat} {ok : Nat → Prop} {xs : List (List Int)} (h : Kd.S (Kd.slice 3 (Kd.int .i64)) e W base ok (.slice (some ⟨g, 0, none⟩) n cap) xs) :
    ∃ f : Nat → Nat, ∀ i, i < xs.length → ∃ hv, W.cell? ⟨g, i, none⟩ = some hv ∧ Kd.R (Kd.int .i64) 3 W base (fun k => k < W.heap.size ∧ k ≠ g ∧ f k = i) hv (xs.getD i []) := by
  obtain ⟨f, hR⟩ := h
  have hgo : some g = (Value.slice (some ⟨g, 0, none⟩) n cap).ownBlock := by simp [Value.ownBlock]
  obtain ⟨hok0, inner, ho, hr⟩ := hR
  refine ⟨f, fun i hi => ?_⟩
  have hM : (Kd.slice 3 (Kd.int .i64)).M W base (fun k => (ok k ∧ some k ≠ (Value.slice (some ⟨g, 0, none⟩) n cap).ownBlock) ∧ f k = i) xs[i] ((inner.drop (i * 1)).take 1) := hr.2 i (xs[i], i) (Kd.zip_at (List.getElem?_eq_getElem hi))
  obtain ⟨hv, he, hrow⟩ := hM
  have hin : inner[i]? = some hv := by
    have h1 : ((inner.drop (i * 1)).take 1)[0]? = some hv := by rw [he]; rfl
    rw [List.getElem?_take, if_pos (by omega), List.getElem?_drop] at h1
    simpa using h1
  have hc := ho.cells (g := g) hgo.symm i hv hin
  rw [add_plain] at hc
  refine ⟨hv, hc, ?_⟩
  rw [List.getD_eq_getElem?_getD, List.getElem?_eq_getElem hi]
  refine Kd.R_mono (Kd.R_bound hrow) (fun k hk => ⟨hk.2.2.1, fun e => hk.1.1.2 (by rw [e]; exact hgo), hk.1.2⟩)
end grid
/-! #### the walk -/
namespace grid
def okO (B g : Nat) (f : Nat → Nat) (i : Nat) (k : Nat) : Prop := (k < B ∧ k ≠ g ∧ f k < i) ∨ B ≤ k
def Pool (w : World) (base B g : Nat) (f : Nat → Nat) (A : Option Addr) (xs : List (List Int)) (i : Nat) : Prop :=
  ∀ j, i ≤ j → j < xs.length → A = some ⟨g, 0, none⟩ ∧ g < B ∧ ∃ hv, w.cell? ⟨g, j, none⟩ = some hv ∧ Kd.R (Kd.int .i64) 3 w base (fun k => k < B ∧ k ≠ g ∧ f k = j) hv (xs.getD j [])
theorem okO_split {B g : Nat} {f : Nat → Nat} {i k : Nat} (h : okO B g f i k) : okO B g f (i + 1) k ∧ ¬ (k < B ∧ k ≠ g ∧ f k = i) := by
  rcases h with h | h
  · exact ⟨.inl ⟨h.1, h.2.1, Nat.lt_succ_of_lt h.2.2⟩, fun h2 => by have := h.2.2; have := h2.2.2; omega⟩
  · exact ⟨.inr h, fun h2 => by have := h2.1; omega⟩
theorem cell_move {w w1 : World} {p : Addr} (h : w1.heap[p.block]? = w.heap[p.block]?) : w1.cell? p = w.cell? p := by
  simp only [World.cell?, h]
theorem Pool.step {w w1 : World} {base B g : Nat} {f : Nat → Nat} {A : Option Addr} {xs : List (List Int)} {i : Nat} (h : Pool w base B g f A xs i) (hm : ∀ k, k < B → (k ≠ g → i ≤ f k) → w1.heap[k]? = w.heap[k]?) : Pool w1 base B g f A xs i := by
  intro j hj hx
  obtain ⟨e, hg, hv, hc, hr⟩ := h j hj hx
  refine ⟨e, hg, hv, (cell_move (hm g hg (fun e => absurd rfl e))).trans hc, Kd.R_step hr (fun k hk _ => hm k hk.1 (fun _ => by rw [hk.2.2]; exact hj))⟩
theorem Pool.next {w : World} {base B g : Nat} {f : Nat → Nat} {A : Option Addr} {xs : List (List Int)} {i j : Nat} (h : Pool w base B g f A xs i) (hij : i ≤ j) : Pool w base B g f A xs j := fun q hq hx => h q (by omega) hx
theorem pool_start {W : World} {base c0 : Nat} {A0 : Option Addr} {xs : List (List Int)} (h : Kd.S (Kd.slice 3 (Kd.int .i64)) 73 W base (fun _ => True) (.slice A0 xs.length c0) xs) : ∃ g f, Pool W base W.heap.size g f A0 xs 0 := by
  rcases A0 with _ | ad
  · refine ⟨0, fun _ => 0, fun j _ hj => ?_⟩
    obtain ⟨g, cap, e, _⟩ := Kd.S_form h (by omega)
    cases e
  · obtain ⟨g, rfl⟩ := Kd.R_head (Kd.S_R h)
    obtain ⟨f, hf⟩ := S_pool h
    refine ⟨g, f, fun j _ hj => ⟨rfl, ?_, hf j hj⟩⟩
    obtain ⟨hv, hc, _⟩ := hf j hj
    exact World.block_lt_of_cell? _ _ hc
set_option maxHeartbeats 16000000 in
set_option maxRecDepth 100000 in
theorem joined.calls (b : Nat) (G : Int → Int → Bool) (op : Bool) (fixed each : Int) (v : Value) (xs : List (List Int)) (w0 w : World) (HS : Kd.S (Kd.slice 3 (Kd.int .i64)) 73 w w0.heap.size (fun _ => True) v xs) (hG : Grid w b G) (hok : ∀ x ∈ xs, okR x) (hlen : xs.length ≤ 100000) (hB : Below w0.heap.size w0 w) :
    Calls Try.prog 141 #[v, .pointer (some ⟨b, 0, none⟩), .bool op, .int .i64 fixed, .int .i64 each] w fun e w' => ∃ v0_ : Value, e = .returned (.tuple #[v0_, .int .i64 (jrCost fixed each (jr G op fixed each xs))]) ∧ Kd.S (Kd.slice 3 (Kd.int .i64)) 73 w' w0.heap.size (fun _ => True) v0_ (jr G op fixed each xs) ∧ Below w0.heap.size w0 w' := by
  obtain ⟨A0, c0, rfl⟩ := Kd.S_slice HS
  obtain ⟨g, f, hpool⟩ := pool_start HS
  have HP := Aside0.mk hpool
  have HG := Aside0.mk hG
  have HOK := Aside0.mk hok
  have HL := Aside0.mk hlen
  have HB := Aside0.mk hB
  have HGL := Aside0.mk hG.lt
  obtain ⟨Bs, hBs⟩ : ∃ Bs, Bs = w.heap.size := ⟨_, rfl⟩
  rw [← hBs] at HP HGL
  have HBS := Aside0.mk hBs
  clear hG hok hlen hB HS hpool hBs
  go_enter Try.func141, Try.ntmps141
  go_wp2_with (first | ((with_reducible refine gate_dst (N := 19) rfl ?_); refine Kd.S_lit (Kd.slice 3 (Kd.int .i64)) (w0 := w0) w0.heap.size 73 rfl (N := 19) rfl (xs := []) (inner := []) (ok := okO Bs g f 0) (okp := fun _ => False) ?hr (Reps.none _ _) (fun _ hk => hk.elim) (.inr (by rw [HBS.out]; exact Nat.le_refl _)) HB.out (below_size HB.out) (by simp) ?_; (case hr => first | (go_simp; done) | (go_simp; rfl)); intro v0_ w1 ho hb hg_ hnew_; have HO := Aside0.mk ho; have n0_ := Aside0.mk (HP.out.step (w1 := w1) (fun k hk _ => hg_.block k (by rw [← HBS.out]; exact hk) (by simp))); have n1_ := Aside0.mk (HG.out.move (hg_.block b HG.out.lt (by simp))); have n2_ := Aside0.mk (show Bs ≤ w1.heap.size from by rw [HBS.out]; exact hg_.size); clear HB HP HG; have HB := Aside0.mk hb; have HP := n0_; have HG := n1_; have HSZ := n2_; clear n0_ n1_ n2_; clear ho hb hg_ hnew_))
  go_loopw [12, 22] (fun v12 v22 wr => ∃ (i : Int) (o : List (List Int)), Aside0 (0 ≤ i ∧ i ≤ xs.length) ∧ v22 = .int .i64 i ∧ Aside0 (o = jr G op fixed each (xs.take i.toNat)) ∧ Aside0 (Kd.S (Kd.slice 3 (Kd.int .i64)) 73 wr w0.heap.size (okO Bs g f i.toNat) v12 o) ∧ Aside0 (Pool wr w0.heap.size Bs g f A0 xs i.toNat) ∧ Aside0 (Grid wr b G) ∧ Aside0 (Bs ≤ wr.heap.size) ∧ Aside0 (Below w0.heap.size w0 wr)) (fun _ v22 _ => ((xs.length : Int) - intOf v22).toNat)
  case atStart => exact ⟨0, [], ⟨by omega⟩, rfl, ⟨rfl⟩, HO, HP, HG, HSZ, HB⟩
  case round =>
    clear HO HP HG HSZ HB
    obtain ⟨i, o, HI, rfl, HJ, HO, HP, HG, HSZ, HB⟩ := hrel
    by_cases q : i < (xs.length : Int)
    · have p : 0 ≤ i := HI.out.1
      have hlt : i.toNat < xs.length := by omega
      have HIL := Aside0.mk (show 0 ≤ i ∧ i < xs.length from ⟨p, q⟩)
      obtain ⟨rfl, hgB, hv, hcv, hrow⟩ := HP.out i.toNat (Nat.le_refl _) hlt
      have hxi : xs[i.toNat]? = some (xs.getD i.toNat []) := by rw [List.getD_eq_getElem?_getD, List.getElem?_eq_getElem hlt]; rfl
      obtain ⟨x, hx⟩ : ∃ x, x = xs.getD i.toNat [] := ⟨_, rfl⟩
      rw [← hx] at hrow hxi
      have HX := Aside0.mk hxi
      have HXR := Aside0.mk (HOK.out x (List.mem_of_getElem? hxi))
      have hxl := HXR.out.1
      obtain ⟨gr, cr, eo, gb, gl, cl⟩ := Kd.R_form hrow (by omega)
      subst eo
      rw [hxl] at hrow hcv
      have HR := Aside0.mk hrow
      have hr0 : wr.cell? ⟨gr, 0, none⟩ = some (.int .i64 (rd x 0)) := (Kd.R_celln 0 hrow 0 (by omega) (by omega)).1
      have hr1 : wr.cell? ⟨gr, 1, none⟩ = some (.int .i64 (rd x 1)) := (Kd.R_celln 0 hrow 1 (by omega) (by omega)).1
      have hr2 : wr.cell? ⟨gr, 2, none⟩ = some (.int .i64 (rd x 2)) := (Kd.R_celln 0 hrow 2 (by omega) (by omega)).1
      have HGB := Aside0.mk hgB
      obtain ⟨Ao, co, eo⟩ := Kd.S_slice HO.out
      subst eo
      have HOL := Aside0.mk (show o.length ≤ 100000 from by
        have h1 := (jr_ok (G := G) (op := op) (fixed := fixed) (each := each) (xs.take i.toNat) (fun y hy => HOK.out y (List.mem_of_mem_take hy))).2
        rw [← HJ.out, List.length_take] at h1
        have := HL.out
        omega)
      clear gb gl cl hrow hgB hlt hxi hx hxl
      have qb : decide (i < (xs.length : Int)) = true := decide_eq_true q
      replace p := eq_true p
      replace q := eq_true q
      have HN := Aside0.mk (show ∀ k, k < Bs → (k ≠ g → i.toNat ≤ f k) → some k ≠ (Value.slice Ao o.length co).ownBlock from fun k hk hf e => by
        rcases (Kd.S_R HO.out).1 k e.symm with h | h
        · have := hf h.2.1; have := h.2.2; omega
        · omega)
      have HNB := Aside0.mk (show some b ≠ (Value.slice Ao o.length co).ownBlock from by
        obtain ⟨cs, hcs⟩ := HG.out.block
        exact Kd.S_ne HO.out hcs (by decide))
      by_cases ho0 : o.length = 0
      · have hg1 : decide (0 ≤ wrap64 ((o.length : Int) - 1)) = false := decide_eq_false (by rw [ho0]; unfold wrap64; omega)
        have HO0 := Aside0.mk ho0
        clear ho0
        skip
        go_wp2
        iterate 2 ((try go_quiet (fail)); (try go_wp2_with (first | ((with_reducible refine gate_builtin (b := .append) (xs := #[.tmp 84, .tmp 86]) rfl ?_); at_builtin; refine Kd.S_append (Kd.slice 3 (Kd.int .i64)) (w0 := w0) w0.heap.size rfl (.tmp 84) (.tmp 86) 61 73 (.slice none 0 0) 24 rfl Try.underlying61 info73 rfl (by decide) (by omega) (.slice Ao o.length co) o x [.slice (some ⟨gr, 0, none⟩) 3 cr] (okO Bs g f (i.toNat + 1)) (fun k => k < Bs ∧ k ≠ g ∧ f k = i.toNat) rfl rfl ?aP (fun k hk => ⟨.inl ⟨hk.1, hk.2.1, by have := hk.2.2; omega⟩, fun e => HN.out k hk.1 (fun _ => by have := hk.2.2; omega) e⟩) ?aF ?aO ?aB ?aS ?aL ?_; (case aP => exact Kd.M_row (by (with_reducible repeat (first | apply Kd.R_alloc | apply Kd.R_drewN | apply Kd.R_drew)); exact HR.out)); (case aF => exact fun k hk => .inr (Nat.le_trans HSZ.out hk)); (case aO => exact Kd.S_mono (ok := okO Bs g f i.toNat) (by (with_reducible repeat (first | apply Kd.S_alloc | apply Kd.S_drewN | apply Kd.S_drew)); exact HO.out) (fun k hk => okO_split hk)); (case aB => exact (by repeat (first | exact HB.out | apply below_alloc | apply pw_below_drewN | apply below_drew1))); (case aS => exact below_size (by repeat (first | exact HB.out | apply below_alloc | apply pw_below_drewN | apply below_drew1))); (case aL => have := HOL.out; omega); intro v1_ w6 ho hb hg_ hat; have n0_ := Aside0.mk (show Pool w6 w0.heap.size Bs g f (some ⟨g, 0, none⟩) xs (i.toNat + 1) from (HP.out.next (Nat.le_succ _)).step (fun k hk hf => hg_.block k (Nat.lt_of_lt_of_le hk HSZ.out) (fun e => HN.out k hk (fun h => by have := hf h; omega) e))); have n1_ := Aside0.mk (HG.out.move (hg_.block b HG.out.lt HNB.out)); have n2_ := Aside0.mk (Nat.le_trans HSZ.out hg_.size); clear HB HO HP HG HSZ; have HB := Aside0.mk hb; have HO := Aside0.mk ho; have HP := n0_; have HG := n1_; have HSZ := n2_; clear n0_ n1_ n2_ hat hb ho hg_))))
        go_roundw
        case rel => exact ⟨i + 1, o ++ [x], ⟨by have := HIL.out; omega⟩, (by first | rfl | (congr 1; have := HIL.out; have := HL.out; unfold wrap64; omega)), ⟨by have h0 := HIL.out.1; rw [show (i + 1).toNat = i.toNat + 1 by omega, List.take_add_one, HX.out]; show _ = jr G op fixed each (xs.take i.toNat ++ [x]); rw [jr_snoc, ← HJ.out]; unfold jrStep; rw [if_neg (fun h => by have := HO0.out; omega)]⟩, ⟨by have h0 := HIL.out.1; rw [show (i + 1).toNat = i.toNat + 1 by omega]; exact HO.out⟩, ⟨by have h0 := HIL.out.1; rw [show (i + 1).toNat = i.toNat + 1 by omega]; exact HP.out⟩, HG, HSZ, HB⟩
        case measure => have h1 := HIL.out; have h2 := HL.out; have hw : wrap64 (i + 1) = i + 1 := (by unfold wrap64; omega); simp [intOf, hw]; omega
      · have hL : wrap64 ((o.length : Int) - 1) = (o.length : Int) - 1 := by have := HOL.out; unfold wrap64; omega
        obtain ⟨go, co', eo, _⟩ := Kd.S_form HO.out (by omega)
        cases eo
        have p1 : 0 ≤ wrap64 ((o.length : Int) - 1) := by omega
        have q1 : wrap64 ((o.length : Int) - 1) < (o.length : Int) := by omega
        obtain ⟨oki, c, hcl, hM, hcc, hoki, hback⟩ := Kd.S_borrow HO.out [] (wrap64 ((o.length : Int) - 1)) p1 q1
        have hy : o.getD (wrap64 ((o.length : Int) - 1)).toNat [] = jrY o := by unfold jrY; congr 1; omega
        rw [hy] at hM
        have HYR := Aside0.mk (show okR (jrY o) from (jr_ok (xs.take i.toNat) (fun y hy => HOK.out y (List.mem_of_mem_take hy))).1 _ (by
          rw [← HJ.out]
          unfold jrY
          rw [List.getD_eq_getElem?_getD, List.getElem?_eq_getElem (by omega)]
          exact List.getElem_mem _))
        have hyl := HYR.out.1
        obtain ⟨hv', ec, hrowy⟩ := hM
        have hcy := hcc 0 hv' (by rw [ec]; rfl)
        rw [add_plain, show (wrap64 ((o.length : Int) - 1)).toNat * (Kd.slice 3 (Kd.int .i64)).sz + 0 = (wrap64 ((o.length : Int) - 1)).toNat from by rw [show (Kd.slice 3 (Kd.int .i64)).sz = 1 from rfl]; omega] at hcy
        obtain ⟨gy, cy, ey, gyb, gyl, cyl⟩ := Kd.R_form hrowy (by omega)
        subst ey
        rw [hyl] at hrowy hcy ec
        have hy0 : wr.cell? ⟨gy, 0, none⟩ = some (.int .i64 (rd (jrY o) 0)) := (Kd.R_celln 0 hrowy 0 (by omega) (by omega)).1
        have hy1 : wr.cell? ⟨gy, 1, none⟩ = some (.int .i64 (rd (jrY o) 1)) := (Kd.R_celln 0 hrowy 1 (by omega) (by omega)).1
        have hy2 : wr.cell? ⟨gy, 2, none⟩ = some (.int .i64 (rd (jrY o) 2)) := (Kd.R_celln 0 hrowy 2 (by omega) (by omega)).1
        have hyf : wr.frozen? ⟨gy, 2, none⟩ = false := (Kd.R_celln 0 hrowy 2 (by omega) (by omega)).2
        have HYY := Aside0.mk hrowy
        have HGY := Aside0.mk gyb
        have HBK := Aside0.mk @hback
        have HLL := Aside0.mk (show (wrap64 ((o.length : Int) - 1)).toNat = o.length - 1 from by omega)
        have HGI := Aside0.mk (show oki gy from hrowy.1 gy (by simp [Value.ownBlock]))
        have HEC := Aside0.mk ec
        have HNY := Aside0.mk (show ∀ k, k < Bs → (k ≠ g → i.toNat ≤ f k) → some k ≠ some gy from fun k hk hf e => by
          cases e
          rcases (hoki gy HGI.out).1 with h | h
          · have := hf h.2.1; have := h.2.2; omega
          · omega)
        have HNC := Aside0.mk (show some b ≠ some gy from by
          obtain ⟨cs, hcs⟩ := HG.out.block
          exact Kd.R_ne hrowy hcs (by decide))
        have HO0 := Aside0.mk (show 0 < o.length by omega)
        have hg1 : decide (0 ≤ wrap64 ((o.length : Int) - 1)) = true := decide_eq_true p1
        replace p1 := eq_true p1
        replace q1 := eq_true q1
        clear ho0 hL hcl hcc hoki hback hy hyl hrowy gyb gyl cyl ec
        by_cases hc1 : rd (jrY o) 0 = rd x 0
        · have hd1 : decide (rd (jrY o) 0 = rd x 0) = true := decide_eq_true hc1
          have hd1' : (rd (jrY o) 0 == rd x 0) = true := beq_iff_eq.2 hc1
          by_cases hc2 : wrap64 (wrap64 (rd x 1 - rd (jrY o) 2) * each) < fixed
          · have hd2 : decide (wrap64 (wrap64 (rd x 1 - rd (jrY o) 2) * each) < fixed) = true := decide_eq_true hc2
            rcases hal : allB G op (rd x 0) (rd (jrY o) 2) (rd x 1) with _ | _
            · have HAL := Aside0.mk hal
              have HNJ := Aside0.mk (show ¬ (0 < o.length ∧ jrJoins G op fixed each (jrY o) x) from fun h => by rw [h.2.2.2] at hal; cases hal)
              clear hc1 hc2 hal
              go_wp2
              iterate 2 ((try go_quiet (first | (go_at_call 107; refine (allAre.calls b G op (rd x 0) (rd (jrY o) 2) (rd x 1) _ (by first | exact HG.out | exact HG.out.move rfl | exact HG.out.move (by simp)) HXR.out.2.1 HXR.out.2.2.1 HYR.out.2.2.2.2.2.1 HXR.out.2.2.2.2.1).mono ?_; rintro e w_ ⟨rfl, rfl⟩; exact ⟨congrArg (fun z => Ending.returned (.bool z)) HAL.out, _, rfl⟩))); (try go_wp2_with (first | ((with_reducible refine gate_builtin (b := .append) (xs := #[.tmp 84, .tmp 86]) rfl ?_); at_builtin; refine Kd.S_append (Kd.slice 3 (Kd.int .i64)) (w0 := w0) w0.heap.size rfl (.tmp 84) (.tmp 86) 61 73 (.slice none 0 0) 24 rfl Try.underlying61 info73 rfl (by decide) (by omega) (.slice (some ⟨go, 0, none⟩) o.length co) o x [.slice (some ⟨gr, 0, none⟩) 3 cr] (okO Bs g f (i.toNat + 1)) (fun k => k < Bs ∧ k ≠ g ∧ f k = i.toNat) rfl rfl ?aP (fun k hk => ⟨.inl ⟨hk.1, hk.2.1, by have := hk.2.2; omega⟩, fun e => HN.out k hk.1 (fun _ => by have := hk.2.2; omega) e⟩) ?aF ?aO ?aB ?aS ?aL ?_; (case aP => exact Kd.M_row (by (with_reducible repeat (first | apply Kd.R_alloc | apply Kd.R_drewN | apply Kd.R_drew)); exact HR.out)); (case aF => exact fun k hk => .inr (Nat.le_trans HSZ.out hk)); (case aO => exact Kd.S_mono (ok := okO Bs g f i.toNat) (by (with_reducible repeat (first | apply Kd.S_alloc | apply Kd.S_drewN | apply Kd.S_drew)); exact HO.out) (fun k hk => okO_split hk)); (case aB => exact (by repeat (first | exact HB.out | apply below_alloc | apply pw_below_drewN | apply below_drew1))); (case aS => exact below_size (by repeat (first | exact HB.out | apply below_alloc | apply pw_below_drewN | apply below_drew1))); (case aL => have := HOL.out; omega); intro v1_ w6 ho hb hg_ hat; have n0_ := Aside0.mk (show Pool w6 w0.heap.size Bs g f (some ⟨g, 0, none⟩) xs (i.toNat + 1) from (HP.out.next (Nat.le_succ _)).step (fun k hk hf => hg_.block k (Nat.lt_of_lt_of_le hk HSZ.out) (fun e => HN.out k hk (fun h => by have := hf h; omega) e))); have n1_ := Aside0.mk (HG.out.move (hg_.block b HG.out.lt HNB.out)); have n2_ := Aside0.mk (Nat.le_trans HSZ.out hg_.size); clear HB HO HP HG HSZ; have HB := Aside0.mk hb; have HO := Aside0.mk ho; have HP := n0_; have HG := n1_; have HSZ := n2_; clear n0_ n1_ n2_ hat hb ho hg_))))
              go_roundw
              case rel => exact ⟨i + 1, o ++ [x], ⟨by have := HIL.out; omega⟩, (by first | rfl | (congr 1; have := HIL.out; have := HL.out; unfold wrap64; omega)), ⟨by have h0 := HIL.out.1; rw [show (i + 1).toNat = i.toNat + 1 by omega, List.take_add_one, HX.out]; show _ = jr G op fixed each (xs.take i.toNat ++ [x]); rw [jr_snoc, ← HJ.out]; unfold jrStep; rw [if_neg HNJ.out]⟩, ⟨by have h0 := HIL.out.1; rw [show (i + 1).toNat = i.toNat + 1 by omega]; exact HO.out⟩, ⟨by have h0 := HIL.out.1; rw [show (i + 1).toNat = i.toNat + 1 by omega]; exact HP.out⟩, HG, HSZ, HB⟩
              case measure => have h1 := HIL.out; have h2 := HL.out; have hw : wrap64 (i + 1) = i + 1 := (by unfold wrap64; omega); simp [intOf, hw]; omega
            · have HAL := Aside0.mk hal
              have HJJ := Aside0.mk (show 0 < o.length ∧ jrJoins G op fixed each (jrY o) x from ⟨HO0.out, hc1, hc2, hal⟩)
              clear hc1 hc2 hal
              go_wp2
              go_quiet (first | (go_at_call 107; refine (allAre.calls b G op (rd x 0) (rd (jrY o) 2) (rd x 1) _ (by first | exact HG.out | exact HG.out.move rfl | exact HG.out.move (by simp)) HXR.out.2.1 HXR.out.2.2.1 HYR.out.2.2.2.2.2.1 HXR.out.2.2.2.2.1).mono ?_; rintro e w_ ⟨rfl, rfl⟩; exact ⟨congrArg (fun z => Ending.returned (.bool z)) HAL.out, _, rfl⟩))
              go_wp2
              go_region
              have HPU := Aside0.mk (Kd.R_putg (Kd.R_drewN HYY.out (nq + 1)) 2 (rd x 2))
              have HGW := Aside0.mk (show wr.grownBy ((wr.drewN (nq + 1)).setCell ⟨gy, 2, none⟩ (.int .i64 (rd x 2))) (some gy) from ⟨HPU.out.2.os, HPU.out.2.tape, HPU.out.2.output, HPU.out.2.size, HPU.out.2.block⟩)
              have HO2 := Aside0.mk (HBK.out (w1 := (wr.drewN (nq + 1)).setCell ⟨gy, 2, none⟩ (.int .i64 (rd x 2))) HGW.out (fun k hk => by cases hk; exact HGI.out) (x' := (jrY o).set 2 (rd x 2)) ⟨_, HEC.out, HPU.out.1⟩)
              have HP2 := Aside0.mk ((HP.out.next (Nat.le_succ i.toNat)).step (w1 := (wr.drewN (nq + 1)).setCell ⟨gy, 2, none⟩ (.int .i64 (rd x 2))) (fun k hk hf => HGW.out.block k (Nat.lt_of_lt_of_le hk HSZ.out) (HNY.out k hk (fun h => by have := hf h; omega))))
              have HG2 := Aside0.mk (HG.out.move (w1 := (wr.drewN (nq + 1)).setCell ⟨gy, 2, none⟩ (.int .i64 (rd x 2))) (HGW.out.block b (Nat.lt_of_lt_of_le HGL.out HSZ.out) HNC.out))
              have HSZ2 := Aside0.mk (Nat.le_trans HSZ.out HGW.out.size)
              have HB2 := Aside0.mk (show Below w0.heap.size w0 ((wr.drewN (nq + 1)).setCell ⟨gy, 2, none⟩ (.int .i64 (rd x 2))) from below_set (pw_below_drewN HB.out (nq + 1)) HGY.out)
              clear HPU HGW
              obtain ⟨w6, hw6⟩ : ∃ w6, w6 = (wr.drewN (nq + 1)).setCell ⟨gy, 2, none⟩ (.int .i64 (rd x 2)) := ⟨_, rfl⟩
              rw [← hw6] at HO2 HP2 HG2 HSZ2 HB2 ⊢
              clear hw6 HO HP HG HSZ HB HBK HYY HEC hcv hr0 hr1 hr2 hcy hy0 hy1 hy2 hyf HR
              go_wp2
              go_roundw
              case rel => exact ⟨i + 1, o.set (o.length - 1) ((jrY o).set 2 (rd x 2)), ⟨by have := HIL.out; omega⟩, (by first | rfl | (congr 1; have := HIL.out; have := HL.out; unfold wrap64; omega)), ⟨by have h0 := HIL.out.1; rw [show (i + 1).toNat = i.toNat + 1 by omega, List.take_add_one, HX.out]; show _ = jr G op fixed each (xs.take i.toNat ++ [x]); rw [jr_snoc, ← HJ.out]; unfold jrStep; rw [if_pos HJJ.out]⟩, ⟨by have h0 := HIL.out.1; rw [show (i + 1).toNat = i.toNat + 1 by omega]; have := HO2.out; rw [HLL.out] at this; exact Kd.S_mono this (fun k hk => (okO_split hk).1)⟩, ⟨by have h0 := HIL.out.1; rw [show (i + 1).toNat = i.toNat + 1 by omega]; exact HP2.out⟩, HG2, HSZ2, HB2⟩
              case measure => have h1 := HIL.out; have h2 := HL.out; have hw : wrap64 (i + 1) = i + 1 := (by unfold wrap64; omega); simp [intOf, hw]; omega
          · have hd2 : decide (wrap64 (wrap64 (rd x 1 - rd (jrY o) 2) * each) < fixed) = false := decide_eq_false hc2
            have HNJ := Aside0.mk (show ¬ (0 < o.length ∧ jrJoins G op fixed each (jrY o) x) from fun h => hc2 h.2.2.1)
            clear hc1 hc2
            go_wp2
            iterate 2 ((try go_quiet (fail)); (try go_wp2_with (first | ((with_reducible refine gate_builtin (b := .append) (xs := #[.tmp 84, .tmp 86]) rfl ?_); at_builtin; refine Kd.S_append (Kd.slice 3 (Kd.int .i64)) (w0 := w0) w0.heap.size rfl (.tmp 84) (.tmp 86) 61 73 (.slice none 0 0) 24 rfl Try.underlying61 info73 rfl (by decide) (by omega) (.slice (some ⟨go, 0, none⟩) o.length co) o x [.slice (some ⟨gr, 0, none⟩) 3 cr] (okO Bs g f (i.toNat + 1)) (fun k => k < Bs ∧ k ≠ g ∧ f k = i.toNat) rfl rfl ?aP (fun k hk => ⟨.inl ⟨hk.1, hk.2.1, by have := hk.2.2; omega⟩, fun e => HN.out k hk.1 (fun _ => by have := hk.2.2; omega) e⟩) ?aF ?aO ?aB ?aS ?aL ?_; (case aP => exact Kd.M_row (by (with_reducible repeat (first | apply Kd.R_alloc | apply Kd.R_drewN | apply Kd.R_drew)); exact HR.out)); (case aF => exact fun k hk => .inr (Nat.le_trans HSZ.out hk)); (case aO => exact Kd.S_mono (ok := okO Bs g f i.toNat) (by (with_reducible repeat (first | apply Kd.S_alloc | apply Kd.S_drewN | apply Kd.S_drew)); exact HO.out) (fun k hk => okO_split hk)); (case aB => exact (by repeat (first | exact HB.out | apply below_alloc | apply pw_below_drewN | apply below_drew1))); (case aS => exact below_size (by repeat (first | exact HB.out | apply below_alloc | apply pw_below_drewN | apply below_drew1))); (case aL => have := HOL.out; omega); intro v1_ w6 ho hb hg_ hat; have n0_ := Aside0.mk (show Pool w6 w0.heap.size Bs g f (some ⟨g, 0, none⟩) xs (i.toNat + 1) from (HP.out.next (Nat.le_succ _)).step (fun k hk hf => hg_.block k (Nat.lt_of_lt_of_le hk HSZ.out) (fun e => HN.out k hk (fun h => by have := hf h; omega) e))); have n1_ := Aside0.mk (HG.out.move (hg_.block b HG.out.lt HNB.out)); have n2_ := Aside0.mk (Nat.le_trans HSZ.out hg_.size); clear HB HO HP HG HSZ; have HB := Aside0.mk hb; have HO := Aside0.mk ho; have HP := n0_; have HG := n1_; have HSZ := n2_; clear n0_ n1_ n2_ hat hb ho hg_))))
            go_roundw
            case rel => exact ⟨i + 1, o ++ [x], ⟨by have := HIL.out; omega⟩, (by first | rfl | (congr 1; have := HIL.out; have := HL.out; unfold wrap64; omega)), ⟨by have h0 := HIL.out.1; rw [show (i + 1).toNat = i.toNat + 1 by omega, List.take_add_one, HX.out]; show _ = jr G op fixed each (xs.take i.toNat ++ [x]); rw [jr_snoc, ← HJ.out]; unfold jrStep; rw [if_neg HNJ.out]⟩, ⟨by have h0 := HIL.out.1; rw [show (i + 1).toNat = i.toNat + 1 by omega]; exact HO.out⟩, ⟨by have h0 := HIL.out.1; rw [show (i + 1).toNat = i.toNat + 1 by omega]; exact HP.out⟩, HG, HSZ, HB⟩
            case measure => have h1 := HIL.out; have h2 := HL.out; have hw : wrap64 (i + 1) = i + 1 := (by unfold wrap64; omega); simp [intOf, hw]; omega
        · have hd1 : decide (rd (jrY o) 0 = rd x 0) = false := decide_eq_false hc1
          have hd1' : (rd (jrY o) 0 == rd x 0) = false := beq_eq_false_iff_ne.2 hc1
          have HNJ := Aside0.mk (show ¬ (0 < o.length ∧ jrJoins G op fixed each (jrY o) x) from fun h => hc1 h.2.1)
          clear hc1
          go_wp2
          iterate 2 ((try go_quiet (fail)); (try go_wp2_with (first | ((with_reducible refine gate_builtin (b := .append) (xs := #[.tmp 84, .tmp 86]) rfl ?_); at_builtin; refine Kd.S_append (Kd.slice 3 (Kd.int .i64)) (w0 := w0) w0.heap.size rfl (.tmp 84) (.tmp 86) 61 73 (.slice none 0 0) 24 rfl Try.underlying61 info73 rfl (by decide) (by omega) (.slice (some ⟨go, 0, none⟩) o.length co) o x [.slice (some ⟨gr, 0, none⟩) 3 cr] (okO Bs g f (i.toNat + 1)) (fun k => k < Bs ∧ k ≠ g ∧ f k = i.toNat) rfl rfl ?aP (fun k hk => ⟨.inl ⟨hk.1, hk.2.1, by have := hk.2.2; omega⟩, fun e => HN.out k hk.1 (fun _ => by have := hk.2.2; omega) e⟩) ?aF ?aO ?aB ?aS ?aL ?_; (case aP => exact Kd.M_row (by (with_reducible repeat (first | apply Kd.R_alloc | apply Kd.R_drewN | apply Kd.R_drew)); exact HR.out)); (case aF => exact fun k hk => .inr (Nat.le_trans HSZ.out hk)); (case aO => exact Kd.S_mono (ok := okO Bs g f i.toNat) (by (with_reducible repeat (first | apply Kd.S_alloc | apply Kd.S_drewN | apply Kd.S_drew)); exact HO.out) (fun k hk => okO_split hk)); (case aB => exact (by repeat (first | exact HB.out | apply below_alloc | apply pw_below_drewN | apply below_drew1))); (case aS => exact below_size (by repeat (first | exact HB.out | apply below_alloc | apply pw_below_drewN | apply below_drew1))); (case aL => have := HOL.out; omega); intro v1_ w6 ho hb hg_ hat; have n0_ := Aside0.mk (show Pool w6 w0.heap.size Bs g f (some ⟨g, 0, none⟩) xs (i.toNat + 1) from (HP.out.next (Nat.le_succ _)).step (fun k hk hf => hg_.block k (Nat.lt_of_lt_of_le hk HSZ.out) (fun e => HN.out k hk (fun h => by have := hf h; omega) e))); have n1_ := Aside0.mk (HG.out.move (hg_.block b HG.out.lt HNB.out)); have n2_ := Aside0.mk (Nat.le_trans HSZ.out hg_.size); clear HB HO HP HG HSZ; have HB := Aside0.mk hb; have HO := Aside0.mk ho; have HP := n0_; have HG := n1_; have HSZ := n2_; clear n0_ n1_ n2_ hat hb ho hg_))))
          go_roundw
          case rel => exact ⟨i + 1, o ++ [x], ⟨by have := HIL.out; omega⟩, (by first | rfl | (congr 1; have := HIL.out; have := HL.out; unfold wrap64; omega)), ⟨by have h0 := HIL.out.1; rw [show (i + 1).toNat = i.toNat + 1 by omega, List.take_add_one, HX.out]; show _ = jr G op fixed each (xs.take i.toNat ++ [x]); rw [jr_snoc, ← HJ.out]; unfold jrStep; rw [if_neg HNJ.out]⟩, ⟨by have h0 := HIL.out.1; rw [show (i + 1).toNat = i.toNat + 1 by omega]; exact HO.out⟩, ⟨by have h0 := HIL.out.1; rw [show (i + 1).toNat = i.toNat + 1 by omega]; exact HP.out⟩, HG, HSZ, HB⟩
          case measure => have h1 := HIL.out; have h2 := HL.out; have hw : wrap64 (i + 1) = i + 1 := (by unfold wrap64; omega); simp [intOf, hw]; omega
    · have qb : decide (i < (xs.length : Int)) = false := decide_eq_false q
      have hJ : o = jr G op fixed each xs := by
        have h1 := HI.out
        have h2 := HJ.out
        rw [show i.toNat = xs.length by omega, List.take_length] at h2
        exact h2
      obtain ⟨Ao, co, eo⟩ := Kd.S_slice HO.out
      subst eo
      have HO := Aside0.mk (Kd.S_mono (ok' := fun _ => True) HO.out (fun _ _ => trivial))
      have hok2 := jr_ok (G := G) (op := op) (fixed := fixed) (each := each) xs HOK.out
      rw [← hJ] at hok2
      have HOK2 := Aside0.mk hok2.1
      have HOL := Aside0.mk (Nat.le_trans hok2.2 HL.out)
      have HJ2 := Aside0.mk hJ
      clear q hJ HP HG HSZ HJ hok2 HI
      go_wp2
      go_loopw [16, 91] (fun v16 v91 wq => ∃ m c : Int, Aside0 (0 ≤ m ∧ m ≤ o.length) ∧ v16 = .int .i64 c ∧ v91 = .int .i64 m ∧ Aside0 (c = jrCost fixed each (o.take m.toNat)) ∧ Aside0 (Kd.S (Kd.slice 3 (Kd.int .i64)) 73 wq w0.heap.size (fun _ => True) (.slice Ao o.length co) o) ∧ Aside0 (Below w0.heap.size w0 wq)) (fun _ v91 _ => ((o.length : Int) - intOf v91).toNat)
      case atStart => exact ⟨0, 0, ⟨by omega⟩, rfl, rfl, ⟨rfl⟩, HO, HB⟩
      case round =>
        clear HO HB
        obtain ⟨m, c, HM, rfl, rfl, HC, HO, HB⟩ := hrel
        by_cases q : m < (o.length : Int)
        · have p : 0 ≤ m := HM.out.1
          have HML := Aside0.mk (show 0 ≤ m ∧ m < o.length from ⟨p, q⟩)
          have hlt : m.toNat < o.length := by omega
          obtain ⟨go, co', eo, _⟩ := Kd.S_form HO.out (by omega)
          cases eo
          obtain ⟨oki, c1, hcl, hM, hcc, hoki, hback⟩ := Kd.S_borrow HO.out [] m p q
          have hy : o[m.toNat]? = some (o.getD m.toNat []) := by rw [List.getD_eq_getElem?_getD, List.getElem?_eq_getElem hlt]; rfl
          obtain ⟨y, ey⟩ : ∃ y, y = o.getD m.toNat [] := ⟨_, rfl⟩
          rw [← ey] at hM hy
          have HY := Aside0.mk hy
          have hyl := (HOK2.out y (List.mem_of_getElem? hy)).1
          obtain ⟨hv', ec, hrowy⟩ := hM
          have hcy := hcc 0 hv' (by rw [ec]; rfl)
          rw [add_plain, show m.toNat * (Kd.slice 3 (Kd.int .i64)).sz + 0 = m.toNat from by rw [show (Kd.slice 3 (Kd.int .i64)).sz = 1 from rfl]; omega] at hcy
          obtain ⟨gy, cy, ey', gyb, gyl, cyl⟩ := Kd.R_form hrowy (by omega)
          subst ey'
          rw [hyl] at hrowy hcy
          have hy1 : wr.cell? ⟨gy, 1, none⟩ = some (.int .i64 (rd y 1)) := (Kd.R_celln 0 hrowy 1 (by omega) (by omega)).1
          have hy2 : wr.cell? ⟨gy, 2, none⟩ = some (.int .i64 (rd y 2)) := (Kd.R_celln 0 hrowy 2 (by omega) (by omega)).1
          have qb : decide (m < (o.length : Int)) = true := decide_eq_true q
          replace p := eq_true p
          replace q := eq_true q
          clear hcl hcc hoki hback hy hyl hrowy gyb gyl cyl ec hlt ey
          go_wp2
          go_quiet (fail)
          go_wp2
          go_roundw
          case rel => exact ⟨m + 1, jrOne fixed each c y, ⟨by have := HML.out; omega⟩, rfl, (by first | rfl | (congr 1; have := HML.out; have := HOL.out; unfold wrap64; omega)), ⟨by have h0 := HML.out.1; rw [show (m + 1).toNat = m.toNat + 1 by omega, List.take_add_one, HY.out]; show _ = jrCost fixed each (o.take m.toNat ++ [y]); unfold jrCost; rw [List.foldl_append]; show _ = jrOne fixed each (jrCost fixed each (o.take m.toNat)) y; rw [← HC.out]⟩, ⟨by first | exact HO.out | exact Kd.S_drewN HO.out _⟩, ⟨by first | exact HB.out | exact pw_below_drewN HB.out _⟩⟩
          case measure => have h1 := HML.out; have h2 := HOL.out; have hw : wrap64 (m + 1) = m + 1 := (by unfold wrap64; omega); simp [intOf, hw]; omega
        · have qb : decide (m < (o.length : Int)) = false := decide_eq_false q
          have HE := Aside0.mk (show jrCost fixed each (jr G op fixed each xs) = c from by
            have h1 := HM.out
            rw [HC.out, show m.toNat = o.length by omega, List.take_length, ← HJ2.out])
          clear q
          go_wp2
          go_ret2
          rw [HE.out, ← HJ2.out]
          exact ⟨_, rfl, HO.out, HB.out⟩
end grid
/-! ### impl.PatchesFor: function 131 -/
def impl_PatchesFor.f (k : Nat) (l0 : List (S117)) (l1 : List (S117)) (a2 : Int) (a3 : Int) : Option (List (List Int) × Int × Bool) := (impl_canRepair.f k l0 l1 a2 a3).bind fun q => if q = true then ((impl_mustChange.f l0 l1).bind fun xs => if xs.length ≤ 100000 ∧ l1.all grid.okHB = true then some (grid.jr (grid.openAt l1) false a2 a3 xs, grid.jrCost a2 a3 (grid.jr (grid.openAt l1) false a2 a3 xs), true) else none) else some ([], 0, false)
theorem impl_PatchesFor.mono : ∀ a0 a1 a2 a3 k, LeO (impl_PatchesFor.f k a0 a1 a2 a3) (impl_PatchesFor.f (k + 1) a0 a1 a2 a3) := by
  intro a0 a1 a2 a3 k
  unfold impl_PatchesFor.f
  exact LeO.bind (impl_canRepair.mono _ _ _ _ _) (fun _ => LeO.refl _)
set_option maxHeartbeats 8000000 in
set_option maxRecDepth 100000 in
theorem impl_PatchesFor.calls (k : Nat) (A0 : Option Addr) (c0 : Nat) (l0 : List (S117)) (A1 : Option Addr) (c1 : Nat) (l1 : List (S117)) (a2 : Int) (a3 : Int) (r1 : List (List Int)) (r2 : Int) (r3 : Bool) (w : World) (hr0 : Kd.C k117 w A0 l0.length l0) (hc0 : l0.length ≤ c0) (hr1 : Kd.C k117 w A1 l1.length l1) (hc1 : l1.length ≤ c1) (h : impl_PatchesFor.f k l0 l1 a2 a3 = some (r1, r2, r3)) :
    Calls Try.prog 131 #[.slice A0 l0.length c0, .slice A1 l1.length c1, .int .i64 a2, .int .i64 a3] w fun e w' => ∃ v0_ : Value, e = .returned (.tuple #[v0_, .int .i64 r2, .bool r3]) ∧ Kd.S (Kd.slice 3 (Kd.int .i64)) 73 w' w.heap.size (fun _ => True) v0_ r1 ∧ Below w.heap.size w w' := by
  unfold impl_PatchesFor.f at h
  obtain ⟨q, hq, h⟩ := Option.bind_eq_some_iff.1 h
  have HR0 := Aside0.mk hr0
  have HR1 := Aside0.mk hr1
  have HC0 := Aside0.mk hc0
  have HC1 := Aside0.mk hc1
  have HQ := Aside0.mk hq
  clear hr0 hr1 hc0 hc1 hq
  cases q with
  | false =>
    rw [if_neg (by decide)] at h
    cases h
    go_enter Try.func131, Try.ntmps131
    go_wp2_with (first | (go_at_call 96; (with_reducible refine (impl_canRepair.calls k _ _ l0 _ _ l1 a2 a3 false _ ?s1 ?s2 ?s3 ?s4 HQ.out).mono ?_); (case s1 => exact HR0.out); (case s2 => exact HC0.out); (case s3 => exact HR1.out); (case s4 => exact HC1.out); rintro e w1 ⟨rfl, hb⟩; have HB := Aside0.mk hb; clear hb))
    go_ret3
    exact ⟨_, rfl, Kd.S_nil _ _ _ _ _, HB.out⟩
  | true =>
    rw [if_pos rfl] at h
    obtain ⟨xs, hxs, h⟩ := Option.bind_eq_some_iff.1 h
    by_cases hv : xs.length ≤ 100000 ∧ l1.all grid.okHB = true
    · rw [if_pos hv] at h
      cases h
      have HXS := Aside0.mk hxs
      have HXL := Aside0.mk hv.1
      have HV := Aside0.mk (grid.okHB_all hv.2)
      have HOK := Aside0.mk (show ∀ x ∈ xs, grid.okR x from by
        have h2 := hxs
        unfold impl_mustChange.f at h2
        split at h2
        · cases h2; exact grid.gr_okR _
        · cases h2)
      clear hxs hv
      go_enter Try.func131, Try.ntmps131
      go_wp2_with (first | (go_at_call 96; (with_reducible refine (impl_canRepair.calls k _ _ l0 _ _ l1 a2 a3 true _ ?s1 ?s2 ?s3 ?s4 HQ.out).mono ?_); (case s1 => exact HR0.out); (case s2 => exact HC0.out); (case s3 => exact HR1.out); (case s4 => exact HC1.out); rintro e w1 ⟨rfl, hb⟩; have HB := Aside0.mk hb; clear hb) | ((with_reducible refine gate_callee (f := 92) rfl ?_); refine goesL_ (some 22) rfl rfl Try.func92 (by kernel_rfl) rfl #[.slice A0 l0.length c0, .slice A1 l1.length c1] rfl (by (try simp only [List.map_toArray, List.map_cons, List.map_nil]); first | done | rfl) ?_; (with_reducible refine (impl_mustChange.calls _ _ l0 _ _ l1 xs _ ?s1 ?s2 ?s3 ?s4 HXS.out).mono ?_); (case s1 => exact Kd.C_below HR0.out HB.out); (case s2 => exact HC0.out); (case s3 => exact Kd.C_below HR1.out HB.out); (case s4 => exact HC1.out); rintro e w2 ⟨v2, rfl, ho, hb⟩; refine ⟨_, rfl, ?_⟩; have HO := Aside0.mk (Kd.S_lower ho (below_size HB.out)); have n0_ := Aside0.mk (below_step HB.out hb); clear HB hb ho; have HB := n0_; clear n0_) | ((with_reducible refine gate_callee (f := 106) rfl ?_); refine goesL_ (some 24) rfl rfl Try.func106 (by kernel_rfl) rfl #[.slice A1 l1.length c1] rfl (by (try simp only [List.map_toArray, List.map_cons, List.map_nil]); first | done | rfl) ?_; (with_reducible refine (grid.gridOf.calls _ _ l1 _ ?s1 ?s2 HV.out).mono ?_); (case s1 => exact Kd.C_below HR1.out HB.out); (case s2 => exact HC1.out); rintro e w3 ⟨gb, rfl, hg, hge, hb⟩; refine ⟨_, rfl, ?_⟩; have HG := Aside0.mk hg; have HO3 := Aside0.mk (Kd.S_below HO.out hb); have n0_ := Aside0.mk (below_step HB.out hb); clear HB hb hg hge HO; have HB := n0_; clear n0_) | ((with_reducible refine gate_callee (f := 141) rfl ?_); refine goesL_ (some 27) rfl rfl Try.func141 (by kernel_rfl) rfl #[v2, .pointer (some ⟨gb, 0, none⟩), .bool false, .int .i64 a2, .int .i64 a3] rfl (by (try simp only [List.map_toArray, List.map_cons, List.map_nil]); first | done | rfl) ?_; (with_reducible refine (grid.joined.calls gb (grid.openAt l1) false a2 a3 v2 xs w _ ?s1 HG.out HOK.out HXL.out ?s2).mono ?_); (case s1 => exact HO3.out); (case s2 => exact HB.out); rintro e w4 ⟨v4, rfl, ho, hb⟩; refine ⟨_, rfl, ?_⟩; have HO4 := Aside0.mk ho; have HB4 := Aside0.mk hb; clear ho hb))
      go_ret3
      exact ⟨_, rfl, HO4.out, HB4.out⟩
    · rw [if_neg hv] at h; cases h

/-! ### impl.CutsFor: function 132 -/
def impl_CutsFor.f (k : Nat) (l0 : List (S117)) (l1 : List (S117)) (a2 : Int) (a3 : Int) : Option (List (List Int) × Int × Bool) := (impl_canRepair.f k l0 l1 a2 a3).bind fun q => if q = true then ((impl_mustChange.f l1 l0).bind fun xs => if xs.length ≤ 100000 ∧ l1.all grid.okHB = true then some (grid.jr (grid.openAt l1) true a2 a3 xs, grid.jrCost a2 a3 (grid.jr (grid.openAt l1) true a2 a3 xs), true) else none) else some ([], 0, false)
theorem impl_CutsFor.mono : ∀ a0 a1 a2 a3 k, LeO (impl_CutsFor.f k a0 a1 a2 a3) (impl_CutsFor.f (k + 1) a0 a1 a2 a3) := by
  intro a0 a1 a2 a3 k
  unfold impl_CutsFor.f
  exact LeO.bind (impl_canRepair.mono _ _ _ _ _) (fun _ => LeO.refl _)
set_option maxHeartbeats 8000000 in
set_option maxRecDepth 100000 in
theorem impl_CutsFor.calls (k : Nat) (A0 : Option Addr) (c0 : Nat) (l0 : List (S117)) (A1 : Option Addr) (c1 : Nat) (l1 : List (S117)) (a2 : Int) (a3 : Int) (r1 : List (List Int)) (r2 : Int) (r3 : Bool) (w : World) (hr0 : Kd.C k117 w A0 l0.length l0) (hc0 : l0.length ≤ c0) (hr1 : Kd.C k117 w A1 l1.length l1) (hc1 : l1.length ≤ c1) (h : impl_CutsFor.f k l0 l1 a2 a3 = some (r1, r2, r3)) :
    Calls Try.prog 132 #[.slice A0 l0.length c0, .slice A1 l1.length c1, .int .i64 a2, .int .i64 a3] w fun e w' => ∃ v0_ : Value, e = .returned (.tuple #[v0_, .int .i64 r2, .bool r3]) ∧ Kd.S (Kd.slice 3 (Kd.int .i64)) 73 w' w.heap.size (fun _ => True) v0_ r1 ∧ Below w.heap.size w w' := by
  unfold impl_CutsFor.f at h
  obtain ⟨q, hq, h⟩ := Option.bind_eq_some_iff.1 h
  have HR0 := Aside0.mk hr0
  have HR1 := Aside0.mk hr1
  have HC0 := Aside0.mk hc0
  have HC1 := Aside0.mk hc1
  have HQ := Aside0.mk hq
  clear hr0 hr1 hc0 hc1 hq
  cases q with
  | false =>
    rw [if_neg (by decide)] at h
    cases h
    go_enter Try.func132, Try.ntmps132
    go_wp2_with (first | (go_at_call 96; (with_reducible refine (impl_canRepair.calls k _ _ l0 _ _ l1 a2 a3 false _ ?s1 ?s2 ?s3 ?s4 HQ.out).mono ?_); (case s1 => exact HR0.out); (case s2 => exact HC0.out); (case s3 => exact HR1.out); (case s4 => exact HC1.out); rintro e w1 ⟨rfl, hb⟩; have HB := Aside0.mk hb; clear hb))
    go_ret3
    exact ⟨_, rfl, Kd.S_nil _ _ _ _ _, HB.out⟩
  | true =>
    rw [if_pos rfl] at h
    obtain ⟨xs, hxs, h⟩ := Option.bind_eq_some_iff.1 h
    by_cases hv : xs.length ≤ 100000 ∧ l1.all grid.okHB = true
    · rw [if_pos hv] at h
      cases h
      have HXS := Aside0.mk hxs
      have HXL := Aside0.mk hv.1
      have HV := Aside0.mk (grid.okHB_all hv.2)
      have HOK := Aside0.mk (show ∀ x ∈ xs, grid.okR x from by
        have h2 := hxs
        unfold impl_mustChange.f at h2
        split at h2
        · cases h2; exact grid.gr_okR _
        · cases h2)
      clear hxs hv
      go_enter Try.func132, Try.ntmps132
      go_wp2_with (first | (go_at_call 96; (with_reducible refine (impl_canRepair.calls k _ _ l0 _ _ l1 a2 a3 true _ ?s1 ?s2 ?s3 ?s4 HQ.out).mono ?_); (case s1 => exact HR0.out); (case s2 => exact HC0.out); (case s3 => exact HR1.out); (case s4 => exact HC1.out); rintro e w1 ⟨rfl, hb⟩; have HB := Aside0.mk hb; clear hb) | ((with_reducible refine gate_callee (f := 92) rfl ?_); refine goesL_ (some 22) rfl rfl Try.func92 (by kernel_rfl) rfl #[.slice A1 l1.length c1, .slice A0 l0.length c0] rfl (by (try simp only [List.map_toArray, List.map_cons, List.map_nil]); first | done | rfl) ?_; (with_reducible refine (impl_mustChange.calls _ _ l1 _ _ l0 xs _ ?s1 ?s2 ?s3 ?s4 HXS.out).mono ?_); (case s1 => exact Kd.C_below HR1.out HB.out); (case s2 => exact HC1.out); (case s3 => exact Kd.C_below HR0.out HB.out); (case s4 => exact HC0.out); rintro e w2 ⟨v2, rfl, ho, hb⟩; refine ⟨_, rfl, ?_⟩; have HO := Aside0.mk (Kd.S_lower ho (below_size HB.out)); have n0_ := Aside0.mk (below_step HB.out hb); clear HB hb ho; have HB := n0_; clear n0_) | ((with_reducible refine gate_callee (f := 106) rfl ?_); refine goesL_ (some 24) rfl rfl Try.func106 (by kernel_rfl) rfl #[.slice A1 l1.length c1] rfl (by (try simp only [List.map_toArray, List.map_cons, List.map_nil]); first | done | rfl) ?_; (with_reducible refine (grid.gridOf.calls _ _ l1 _ ?s1 ?s2 HV.out).mono ?_); (case s1 => exact Kd.C_below HR1.out HB.out); (case s2 => exact HC1.out); rintro e w3 ⟨gb, rfl, hg, hge, hb⟩; refine ⟨_, rfl, ?_⟩; have HG := Aside0.mk hg; have HO3 := Aside0.mk (Kd.S_below HO.out hb); have n0_ := Aside0.mk (below_step HB.out hb); clear HB hb hg hge HO; have HB := n0_; clear n0_) | ((with_reducible refine gate_callee (f := 141) rfl ?_); refine goesL_ (some 27) rfl rfl Try.func141 (by kernel_rfl) rfl #[v2, .pointer (some ⟨gb, 0, none⟩), .bool true, .int .i64 a2, .int .i64 a3] rfl (by (try simp only [List.map_toArray, List.map_cons, List.map_nil]); first | done | rfl) ?_; (with_reducible refine (grid.joined.calls gb (grid.openAt l1) true a2 a3 v2 xs w _ ?s1 HG.out HOK.out HXL.out ?s2).mono ?_); (case s1 => exact HO3.out); (case s2 => exact HB.out); rintro e w4 ⟨v4, rfl, ho, hb⟩; refine ⟨_, rfl, ?_⟩; have HO4 := Aside0.mk ho; have HB4 := Aside0.mk hb; clear ho hb))
      go_ret3
      exact ⟨_, rfl, HO4.out, HB4.out⟩
    · rw [if_neg hv] at h; cases h

/-! ### impl_repairCost: function 97 -/
def impl_repairCost.f (k : Nat) (l0 : List (S117)) (l1 : List (S117)) (a2 : Int) (a3 : Int) : Option (Int) := (impl_PatchesFor.f k l0 l1 a2 a3).bind fun bt235 => ((impl_CutsFor.f k l0 l1 a2 a3).bind fun bt240 => (some (wrap64 (bt235.2.1 + bt240.2.1))))
theorem impl_repairCost.mono : ∀ a0 a1 a2 a3 k, LeO (impl_repairCost.f k a0 a1 a2 a3) (impl_repairCost.f (k + 1) a0 a1 a2 a3) := by
  intro a0 a1 a2 a3 k
  unfold impl_repairCost.f
  repeat' first
      | (with_reducible exact impl_CutsFor.mono _ _ _ _ _)
      | (with_reducible exact impl_PatchesFor.mono _ _ _ _ _)
      | (with_reducible exact LeO.refl _)
      | (with_reducible exact LeO.none _)
      | (with_reducible refine LeO.ite ?_ ?_)
      | (with_reducible refine LeO.bind ?_ (fun _ => ?_))
      | exact impl_CutsFor.mono _ _ _ _ _
      | exact impl_PatchesFor.mono _ _ _ _ _
      | exact LeO.none _
      | refine LeO.ite ?_ ?_
      | refine LeO.bind ?_ (fun _ => ?_)
set_option maxHeartbeats 8000000 in
set_option maxRecDepth 100000 in
theorem impl_repairCost.calls (k : Nat) (A0 : Option Addr) (c0 : Nat) (l0 : List (S117)) (A1 : Option Addr) (c1 : Nat) (l1 : List (S117)) (a2 : Int) (a3 : Int) (r : Int) (w : World) (hr0 : Kd.C k117 w A0 l0.length l0) (hc0 : l0.length ≤ c0) (hr1 : Kd.C k117 w A1 l1.length l1) (hc1 : l1.length ≤ c1) (h : impl_repairCost.f k l0 l1 a2 a3 = some r) :
    Calls Try.prog 97 #[.slice A0 l0.length c0, .slice A1 l1.length c1, .int .i64 a2, .int .i64 a3] w fun e w' => e = .returned (.int .i64 r) ∧ Below w.heap.size w w' := by
  have HR0 := Aside0.mk hr0
  have HC0 := Aside0.mk hc0
  clear hr0 hc0
  have HR1 := Aside0.mk hr1
  have HC1 := Aside0.mk hc1
  clear hr1 hc1
  have HB := Aside0.mk (Below.refl w.heap.size w)
  have H : ((impl_PatchesFor.f k l0 l1 a2 a3).bind fun bt235 => ((impl_CutsFor.f k l0 l1 a2 a3).bind fun bt240 => (some (wrap64 (bt235.2.1 + bt240.2.1))))) = some r := h
  clear h
  replace H := Option.bind_eq_some_iff.mp H
  obtain ⟨⟨t235, t236, t237⟩, A50, H⟩ := H
  replace H : ((impl_CutsFor.f k l0 l1 a2 a3).bind fun bt240 => (some (wrap64 (t236 + bt240.2.1)))) = some r := H
  have A5 := Aside0.mk A50
  clear A50
  replace H := Option.bind_eq_some_iff.mp H
  obtain ⟨⟨t240, t241, t242⟩, A60, H⟩ := H
  replace H : (some (wrap64 (t236 + t241))) = some r := H
  have A6 := Aside0.mk A60
  clear A60
  obtain rfl := Option.some.inj H
  go_enter Try.func97, Try.ntmps97
  go_wp2_with (first | ((with_reducible refine gate_callee (f := 131) rfl ?_); refine goesL_ (some 20) rfl rfl Try.func131 (by kernel_rfl) rfl #[.slice A0 l0.length c0, .slice A1 l1.length c1, .int .i64 a2, .int .i64 a3] rfl (by (try simp only [List.map_toArray, List.map_cons, List.map_nil]); first | done | rfl | (simp only [List.length_drop, List.length_take]; rfl)) ?_; (with_reducible refine (impl_PatchesFor.calls k _ _ l0 _ _ l1 a2 a3 t235 t236 t237 _ ?side1 ?side2 ?side3 ?side4 A5.out).mono ?_); (case side1 => repeat (first | exact HR0.out | (with_reducible refine Kd.C_alloc ?_ _) | (with_reducible refine Kd.C_drewN ?_ _) | (with_reducible refine Kd.C_drew ?_))); (case side2 => exact HC0.out); (case side3 => repeat (first | exact HR1.out | (with_reducible refine Kd.C_alloc ?_ _) | (with_reducible refine Kd.C_drewN ?_ _) | (with_reducible refine Kd.C_drew ?_))); (case side4 => exact HC1.out); rintro e w7 ⟨v238, rfl, ho0, hb⟩; refine ⟨_, rfl, ?_⟩; have n0_ := Aside0.mk (Kd.S_lower ho0 (below_size (by repeat (first | (with_reducible first | exact HB.out | apply below_alloc | apply pw_below_drewN | apply below_drew1) | exact HB.out)))); have n1_ := Aside0.mk (below_step (by repeat (first | (with_reducible first | exact HB.out | apply below_alloc | apply pw_below_drewN | apply below_drew1) | exact HB.out)) hb); clear HB; have HO239 := n0_; have HB := n1_; clear n0_ n1_; (try clear hb); (try clear hb2); (try clear hk); (try clear hi); (try clear ho0)) | ((with_reducible refine gate_callee (f := 132) rfl ?_); refine goesL_ (some 29) rfl rfl Try.func132 (by kernel_rfl) rfl #[.slice A0 l0.length c0, .slice A1 l1.length c1, .int .i64 a2, .int .i64 a3] rfl (by (try simp only [List.map_toArray, List.map_cons, List.map_nil]); first | done | rfl | (simp only [List.length_drop, List.length_take]; rfl)) ?_; (with_reducible refine (impl_CutsFor.calls k _ _ l0 _ _ l1 a2 a3 t240 t241 t242 _ ?side1 ?side2 ?side3 ?side4 A6.out).mono ?_); (case side1 => repeat (first | exact (Kd.C_below HR0.out HB.out) | (with_reducible refine Kd.C_alloc ?_ _) | (with_reducible refine Kd.C_drewN ?_ _) | (with_reducible refine Kd.C_drew ?_))); (case side2 => exact HC0.out); (case side3 => repeat (first | exact (Kd.C_below HR1.out HB.out) | (with_reducible refine Kd.C_alloc ?_ _) | (with_reducible refine Kd.C_drewN ?_ _) | (with_reducible refine Kd.C_drew ?_))); (case side4 => exact HC1.out); rintro e w8 ⟨v243, rfl, ho0, hb⟩; refine ⟨_, rfl, ?_⟩; have n0_ := Aside0.mk (Kd.S_elder' (by (with_reducible repeat (first | apply Kd.S_alloc | apply Kd.S_drewN | apply Kd.S_drew)); exact HO239.out) (Kd.S_base ho0) hb); have n1_ := Aside0.mk (Kd.S_lower (Kd.S_new' ho0 (Kd.S_lt (by (with_reducible repeat (first | apply Kd.S_alloc | apply Kd.S_drewN | apply Kd.S_drew)); exact HO239.out))) (below_size (by repeat (first | (with_reducible first | exact HB.out | apply below_alloc | apply pw_below_drewN | apply below_drew1) | exact HB.out)))); have n2_ := Aside0.mk (below_step (by repeat (first | (with_reducible first | exact HB.out | apply below_alloc | apply pw_below_drewN | apply below_drew1) | exact HB.out)) hb); clear HO239; clear HB; have HO239 := n0_; have HO244 := n1_; have HB := n2_; clear n0_ n1_ n2_; (try clear hb); (try clear hb2); (try clear hk); (try clear hi); (try clear ho0)))
  go_ret
  exact ⟨by first | rfl | (simp [errW_none, errW_some] <;> rfl) | (simp [*, errW_none, errW_some] <;> rfl), by repeat (first | (with_reducible first | exact HB.out | apply below_alloc | apply pw_below_drewN | apply below_drew1) | exact HB.out)⟩

/-! ### impl_RepairCost: function 50 -/
def impl_RepairCost.f (k : Nat) (l0 : List (S117)) (l1 : List (S117)) (a2 : Int) (a3 : Int) : Option (Int × Bool) := (impl_canRepair.f k l0 l1 a2 a3).bind fun t245 => (if t245 = true then ((impl_repairCost.f k l0 l1 a2 a3).bind fun t246 => (some (t246, true))) else (some (0, false)))
theorem impl_RepairCost.mono : ∀ a0 a1 a2 a3 k, LeO (impl_RepairCost.f k a0 a1 a2 a3) (impl_RepairCost.f (k + 1) a0 a1 a2 a3) := by
  intro a0 a1 a2 a3 k
  unfold impl_RepairCost.f
  repeat' first
      | (with_reducible exact impl_canRepair.mono _ _ _ _ _)
      | (with_reducible exact impl_repairCost.mono _ _ _ _ _)
      | (with_reducible exact LeO.refl _)
      | (with_reducible exact LeO.none _)
      | (with_reducible refine LeO.ite ?_ ?_)
      | (with_reducible refine LeO.bind ?_ (fun _ => ?_))
      | exact impl_canRepair.mono _ _ _ _ _
      | exact impl_repairCost.mono _ _ _ _ _
      | exact LeO.none _
      | refine LeO.ite ?_ ?_
      | refine LeO.bind ?_ (fun _ => ?_)
set_option maxHeartbeats 8000000 in
set_option maxRecDepth 100000 in
theorem impl_RepairCost.calls (k : Nat) (A0 : Option Addr) (c0 : Nat) (l0 : List (S117)) (A1 : Option Addr) (c1 : Nat) (l1 : List (S117)) (a2 : Int) (a3 : Int) (r1 : Int) (r2 : Bool) (w : World) (hr0 : Kd.C k117 w A0 l0.length l0) (hc0 : l0.length ≤ c0) (hr1 : Kd.C k117 w A1 l1.length l1) (hc1 : l1.length ≤ c1) (h : impl_RepairCost.f k l0 l1 a2 a3 = some (r1, r2)) :
    Calls Try.prog 50 #[.slice A0 l0.length c0, .slice A1 l1.length c1, .int .i64 a2, .int .i64 a3] w fun e w' => e = .returned (.tuple #[.int .i64 r1, .bool r2]) ∧ Below w.heap.size w w' := by
  have HR0 := Aside0.mk hr0
  have HC0 := Aside0.mk hc0
  clear hr0 hc0
  have HR1 := Aside0.mk hr1
  have HC1 := Aside0.mk hc1
  clear hr1 hc1
  have HB := Aside0.mk (Below.refl w.heap.size w)
  have H : ((impl_canRepair.f k l0 l1 a2 a3).bind fun t245 => (if t245 = true then ((impl_repairCost.f k l0 l1 a2 a3).bind fun t246 => (some (t246, true))) else (some (0, false)))) = some (r1, r2) := h
  clear h
  replace H := Option.bind_eq_some_iff.mp H
  obtain ⟨t245, A50, H⟩ := H
  replace H : (if t245 = true then ((impl_repairCost.f k l0 l1 a2 a3).bind fun t246 => (some (t246, true))) else (some (0, false))) = some (r1, r2) := H
  have A5 := Aside0.mk A50
  clear A50
  by_cases c6 : t245 = true
  · subst c6
    have H1 : ((impl_repairCost.f k l0 l1 a2 a3).bind fun t246 => (some (t246, true))) = some (r1, r2) := by rw [if_pos rfl] at H; exact H
    clear H
    have H := H1
    clear H1
    replace H := Option.bind_eq_some_iff.mp H
    obtain ⟨t246, A70, H⟩ := H
    replace H : (some (t246, true)) = some (r1, r2) := H
    have A7 := Aside0.mk A70
    clear A70
    simp only [Option.some.injEq, Prod.mk.injEq] at H
    obtain ⟨rfl, rfl⟩ := H
    go_enter Try.func50, Try.ntmps50
    go_wp2_with (first | ((with_reducible refine gate_callee (f := 96) rfl ?_); refine goesL_ (some 14) rfl rfl Try.func96 (by kernel_rfl) rfl #[.slice A0 l0.length c0, .slice A1 l1.length c1, .int .i64 a2, .int .i64 a3] rfl (by (try simp only [List.map_toArray, List.map_cons, List.map_nil]); first | done | rfl | (simp only [List.length_drop, List.length_take]; rfl)) ?_; (with_reducible refine (impl_canRepair.calls k _ _ l0 _ _ l1 a2 a3 true _ ?side1 ?side2 ?side3 ?side4 A5.out).mono ?_); (case side1 => repeat (first | exact HR0.out | (with_reducible refine Kd.C_alloc ?_ _) | (with_reducible refine Kd.C_drewN ?_ _) | (with_reducible refine Kd.C_drew ?_))); (case side2 => exact HC0.out); (case side3 => repeat (first | exact HR1.out | (with_reducible refine Kd.C_alloc ?_ _) | (with_reducible refine Kd.C_drewN ?_ _) | (with_reducible refine Kd.C_drew ?_))); (case side4 => exact HC1.out); rintro e w8 ⟨rfl, hb⟩; refine ⟨_, rfl, ?_⟩; have n0_ := Aside0.mk (below_step (by repeat (first | (with_reducible first | exact HB.out | apply below_alloc | apply pw_below_drewN | apply below_drew1) | exact HB.out)) hb); clear HB; have HB := n0_; clear n0_; (try clear hb); (try clear hb2); (try clear hk); (try clear hi)) | ((with_reducible refine gate_callee (f := 97) rfl ?_); refine goesL_ (some 20) rfl rfl Try.func97 (by kernel_rfl) rfl #[.slice A0 l0.length c0, .slice A1 l1.length c1, .int .i64 a2, .int .i64 a3] rfl (by (try simp only [List.map_toArray, List.map_cons, List.map_nil]); first | done | rfl | (simp only [List.length_drop, List.length_take]; rfl)) ?_; (with_reducible refine (impl_repairCost.calls k _ _ l0 _ _ l1 a2 a3 t246 _ ?side1 ?side2 ?side3 ?side4 A7.out).mono ?_); (case side1 => repeat (first | exact (Kd.C_below HR0.out HB.out) | (with_reducible refine Kd.C_alloc ?_ _) | (with_reducible refine Kd.C_drewN ?_ _) | (with_reducible refine Kd.C_drew ?_))); (case side2 => exact HC0.out); (case side3 => repeat (first | exact (Kd.C_below HR1.out HB.out) | (with_reducible refine Kd.C_alloc ?_ _) | (with_reducible refine Kd.C_drewN ?_ _) | (with_reducible refine Kd.C_drew ?_))); (case side4 => exact HC1.out); rintro e w9 ⟨rfl, hb⟩; refine ⟨_, rfl, ?_⟩; have n0_ := Aside0.mk (below_step (by repeat (first | (with_reducible first | exact HB.out | apply below_alloc | apply pw_below_drewN | apply below_drew1) | exact HB.out)) hb); clear HB; have HB := n0_; clear n0_; (try clear hb); (try clear hb2); (try clear hk); (try clear hi)))
    go_ret2
    exact ⟨by first | rfl | (simp [errW_none, errW_some] <;> rfl) | (simp [*, errW_none, errW_some] <;> rfl), by repeat (first | (with_reducible first | exact HB.out | apply below_alloc | apply pw_below_drewN | apply below_drew1) | exact HB.out)⟩
  · replace c6 := Bool.eq_false_iff.mpr c6
    subst c6
    have H1 : (some (0, false)) = some (r1, r2) := by rw [if_neg (show ¬ (false = true) by decide)] at H; exact H
    clear H
    have H := H1
    clear H1
    simp only [Option.some.injEq, Prod.mk.injEq] at H
    obtain ⟨rfl, rfl⟩ := H
    go_enter Try.func50, Try.ntmps50
    go_wp2_with (first | ((with_reducible refine gate_callee (f := 96) rfl ?_); refine goesL_ (some 14) rfl rfl Try.func96 (by kernel_rfl) rfl #[.slice A0 l0.length c0, .slice A1 l1.length c1, .int .i64 a2, .int .i64 a3] rfl (by (try simp only [List.map_toArray, List.map_cons, List.map_nil]); first | done | rfl | (simp only [List.length_drop, List.length_take]; rfl)) ?_; (with_reducible refine (impl_canRepair.calls k _ _ l0 _ _ l1 a2 a3 false _ ?side1 ?side2 ?side3 ?side4 A5.out).mono ?_); (case side1 => repeat (first | exact HR0.out | (with_reducible refine Kd.C_alloc ?_ _) | (with_reducible refine Kd.C_drewN ?_ _) | (with_reducible refine Kd.C_drew ?_))); (case side2 => exact HC0.out); (case side3 => repeat (first | exact HR1.out | (with_reducible refine Kd.C_alloc ?_ _) | (with_reducible refine Kd.C_drewN ?_ _) | (with_reducible refine Kd.C_drew ?_))); (case side4 => exact HC1.out); rintro e w10 ⟨rfl, hb⟩; refine ⟨_, rfl, ?_⟩; have n0_ := Aside0.mk (below_step (by repeat (first | (with_reducible first | exact HB.out | apply below_alloc | apply pw_below_drewN | apply below_drew1) | exact HB.out)) hb); clear HB; have HB := n0_; clear n0_; (try clear hb); (try clear hb2); (try clear hk); (try clear hi)))
    go_ret2
    exact ⟨by first | rfl | (simp [errW_none, errW_some] <;> rfl) | (simp [*, errW_none, errW_some] <;> rfl), by repeat (first | (with_reducible first | exact HB.out | apply below_alloc | apply pw_below_drewN | apply below_drew1) | exact HB.out)⟩

/-! ### laws_FnExactRepairCost: function 10 -/
def laws_FnExactRepairCost.j0 : Nat → List (S119) → List (S119) → List (S117) → List (S117) → Bool → Option (Bool)
  | 0, _, _, _, _, _ => none
  | k + 1, x0, x1, x12, x13, x55 => if x55 = true then (some false) else ((laws_toHoleS.f k x0).bind fun t265 => ((laws_eqHoleS.f k x12 t265).bind fun t268 => (if t268 = true then ((laws_toHoleS.f k x1).bind fun t269 => ((laws_eqHoleS.f k x13 t269).bind fun t272 => (if t272 = true then (some true) else (some false)))) else (some false))))
def laws_FnExactRepairCost.f (k : Nat) (l0 : List (S119)) (l1 : List (S119)) (a2 : Int) (a3 : Int) : Option (Bool) := (laws_szHoleS.f l0 1048576).bind fun t247 => (if t247 < 0 then (some true) else ((laws_szHoleS.f l1 t247).bind fun t248 => (if t248 < 0 then (some true) else ((laws_toHoleS.f k l0).bind fun t249 => ((laws_toHoleS.f k l1).bind fun t252 => ((spec_RepairCost.f k t249 t252 a2 a3).bind fun bt255 => ((laws_toHoleS.f k l0).bind fun t257 => ((laws_toHoleS.f k l1).bind fun t260 => ((impl_RepairCost.f k t257 t260 a2 a3).bind fun bt263 => (if bt263.1 = bt255.1 then (laws_FnExactRepairCost.j0 k l0 l1 t257 t260 (bt263.2 != bt255.2)) else (laws_FnExactRepairCost.j0 k l0 l1 t257 t260 true)))))))))))
theorem laws_FnExactRepairCost.mono_l : ∀ k, (∀ y0 y1 y2 y3 y4, LeO (laws_FnExactRepairCost.j0 k y0 y1 y2 y3 y4) (laws_FnExactRepairCost.j0 (k + 1) y0 y1 y2 y3 y4))
  | 0 => fun _ _ _ _ _ r h => by simp [laws_FnExactRepairCost.j0] at h
  | k + 1 => by
    have ih0 := laws_FnExactRepairCost.mono_l k
    · intro y0 y1 y2 y3 y4
      unfold laws_FnExactRepairCost.j0
      repeat' first
      | (with_reducible exact ih0 _ _ _ _ _)
      | (with_reducible exact impl_RepairCost.mono _ _ _ _ _)
      | (with_reducible exact laws_eqHoleS.mono _ _ _)
      | (with_reducible exact laws_toHoleS.mono _ _)
      | (with_reducible exact spec_RepairCost.mono _ _ _ _ _)
      | (with_reducible exact LeO.refl _)
      | (with_reducible exact LeO.none _)
      | (with_reducible refine LeO.ite ?_ ?_)
      | (with_reducible refine LeO.bind ?_ (fun _ => ?_))
      | exact ih0 _ _ _ _ _
      | exact impl_RepairCost.mono _ _ _ _ _
      | exact laws_eqHoleS.mono _ _ _
      | exact laws_toHoleS.mono _ _
      | exact spec_RepairCost.mono _ _ _ _ _
      | exact LeO.none _
      | refine LeO.ite ?_ ?_
      | refine LeO.bind ?_ (fun _ => ?_)
theorem laws_FnExactRepairCost.mono : ∀ a0 a1 a2 a3 k, LeO (laws_FnExactRepairCost.f k a0 a1 a2 a3) (laws_FnExactRepairCost.f (k + 1) a0 a1 a2 a3) := by
  intro a0 a1 a2 a3 k
  have ih0 := laws_FnExactRepairCost.mono_l k
  unfold laws_FnExactRepairCost.f
  repeat' first
      | (with_reducible exact ih0 _ _ _ _ _)
      | (with_reducible exact impl_RepairCost.mono _ _ _ _ _)
      | (with_reducible exact laws_eqHoleS.mono _ _ _)
      | (with_reducible exact laws_toHoleS.mono _ _)
      | (with_reducible exact spec_RepairCost.mono _ _ _ _ _)
      | (with_reducible exact LeO.refl _)
      | (with_reducible exact LeO.none _)
      | (with_reducible refine LeO.ite ?_ ?_)
      | (with_reducible refine LeO.bind ?_ (fun _ => ?_))
      | exact ih0 _ _ _ _ _
      | exact impl_RepairCost.mono _ _ _ _ _
      | exact laws_eqHoleS.mono _ _ _
      | exact laws_toHoleS.mono _ _
      | exact spec_RepairCost.mono _ _ _ _ _
      | exact LeO.none _
      | refine LeO.ite ?_ ?_
      | refine LeO.bind ?_ (fun _ => ?_)
set_option maxHeartbeats 8000000 in
set_option maxRecDepth 100000 in
theorem laws_FnExactRepairCost.calls (k : Nat) (A0 : Option Addr) (c0 : Nat) (l0 : List (S119)) (A1 : Option Addr) (c1 : Nat) (l1 : List (S119)) (a2 : Int) (a3 : Int) (r : Bool) (w : World) (hr0 : Kd.C k119 w A0 l0.length l0) (hc0 : l0.length ≤ c0) (hr1 : Kd.C k119 w A1 l1.length l1) (hc1 : l1.length ≤ c1) (h : laws_FnExactRepairCost.f k l0 l1 a2 a3 = some r) :
    Calls Try.prog 10 #[.slice A0 l0.length c0, .slice A1 l1.length c1, .int .i64 a2, .int .i64 a3] w fun e w' => e = .returned (.bool r) ∧ Below w.heap.size w w' := by
  have HR0 := Aside0.mk hr0
  have HC0 := Aside0.mk hc0
  clear hr0 hc0
  have HR1 := Aside0.mk hr1
  have HC1 := Aside0.mk hc1
  clear hr1 hc1
  have HB := Aside0.mk (Below.refl w.heap.size w)
  have H : ((laws_szHoleS.f l0 1048576).bind fun t247 => (if t247 < 0 then (some true) else ((laws_szHoleS.f l1 t247).bind fun t248 => (if t248 < 0 then (some true) else ((laws_toHoleS.f k l0).bind fun t249 => ((laws_toHoleS.f k l1).bind fun t252 => ((spec_RepairCost.f k t249 t252 a2 a3).bind fun bt255 => ((laws_toHoleS.f k l0).bind fun t257 => ((laws_toHoleS.f k l1).bind fun t260 => ((impl_RepairCost.f k t257 t260 a2 a3).bind fun bt263 => (if bt263.1 = bt255.1 then (laws_FnExactRepairCost.j0 k l0 l1 t257 t260 (bt263.2 != bt255.2)) else (laws_FnExactRepairCost.j0 k l0 l1 t257 t260 true)))))))))))) = some r := h
  clear h
  replace H := Option.bind_eq_some_iff.mp H
  obtain ⟨t247, A50, H⟩ := H
  replace H : (if t247 < 0 then (some true) else ((laws_szHoleS.f l1 t247).bind fun t248 => (if t248 < 0 then (some true) else ((laws_toHoleS.f k l0).bind fun t249 => ((laws_toHoleS.f k l1).bind fun t252 => ((spec_RepairCost.f k t249 t252 a2 a3).bind fun bt255 => ((laws_toHoleS.f k l0).bind fun t257 => ((laws_toHoleS.f k l1).bind fun t260 => ((impl_RepairCost.f k t257 t260 a2 a3).bind fun bt263 => (if bt263.1 = bt255.1 then (laws_FnExactRepairCost.j0 k l0 l1 t257 t260 (bt263.2 != bt255.2)) else (laws_FnExactRepairCost.j0 k l0 l1 t257 t260 true))))))))))) = some r := H
  have A5 := Aside0.mk A50
  clear A50
  by_cases c6 : t247 < 0
  · rw [if_pos c6] at H
    have c6b0 : decide (t247 < 0) = true := decide_eq_true c6
    clear c6
    obtain rfl := Option.some.inj H
    go_enter Try.func10, Try.ntmps10
    go_wp2_with (first | ((with_reducible refine gate_callee (f := 38) rfl ?_); refine goesL_ (some 18) rfl rfl Try.func38 (by kernel_rfl) rfl #[.slice A0 l0.length c0, .int .i64 1048576] rfl (by (try simp only [List.map_toArray, List.map_cons, List.map_nil]); first | done | rfl | (simp only [List.length_drop, List.length_take]; rfl)) ?_; (with_reducible refine (laws_szHoleS.calls _ _ l0 1048576 t247 _ ?side1 ?side2 A5.out).mono ?_); (case side1 => repeat (first | exact HR0.out | (with_reducible refine Kd.C_alloc ?_ _) | (with_reducible refine Kd.C_drewN ?_ _) | (with_reducible refine Kd.C_drew ?_))); (case side2 => exact HC0.out); rintro e w' ⟨rfl, ⟨nd, rfl⟩⟩; refine ⟨_, rfl, ?_⟩))
    go_ret
    exact ⟨by first | rfl | (simp [errW_none, errW_some] <;> rfl) | (simp [*, errW_none, errW_some] <;> rfl), by repeat (first | (with_reducible first | exact HB.out | apply below_alloc | apply pw_below_drewN | apply below_drew1) | exact HB.out)⟩
  · rw [if_neg c6] at H
    have c6b0 : decide (t247 < 0) = false := decide_eq_false c6
    clear c6
    replace H := Option.bind_eq_some_iff.mp H
    obtain ⟨t248, A70, H⟩ := H
    replace H : (if t248 < 0 then (some true) else ((laws_toHoleS.f k l0).bind fun t249 => ((laws_toHoleS.f k l1).bind fun t252 => ((spec_RepairCost.f k t249 t252 a2 a3).bind fun bt255 => ((laws_toHoleS.f k l0).bind fun t257 => ((laws_toHoleS.f k l1).bind fun t260 => ((impl_RepairCost.f k t257 t260 a2 a3).bind fun bt263 => (if bt263.1 = bt255.1 then (laws_FnExactRepairCost.j0 k l0 l1 t257 t260 (bt263.2 != bt255.2)) else (laws_FnExactRepairCost.j0 k l0 l1 t257 t260 true))))))))) = some r := H
    have A7 := Aside0.mk A70
    clear A70
    by_cases c8 : t248 < 0
    · rw [if_pos c8] at H
      have c8b0 : decide (t248 < 0) = true := decide_eq_true c8
      clear c8
      obtain rfl := Option.some.inj H
      go_enter Try.func10, Try.ntmps10
      go_wp2_with (first | ((with_reducible refine gate_callee (f := 38) rfl ?_); refine goesL_ (some 18) rfl rfl Try.func38 (by kernel_rfl) rfl #[.slice A0 l0.length c0, .int .i64 1048576] rfl (by (try simp only [List.map_toArray, List.map_cons, List.map_nil]); first | done | rfl | (simp only [List.length_drop, List.length_take]; rfl)) ?_; (with_reducible refine (laws_szHoleS.calls _ _ l0 1048576 t247 _ ?side1 ?side2 A5.out).mono ?_); (case side1 => repeat (first | exact HR0.out | (with_reducible refine Kd.C_alloc ?_ _) | (with_reducible refine Kd.C_drewN ?_ _) | (with_reducible refine Kd.C_drew ?_))); (case side2 => exact HC0.out); rintro e w' ⟨rfl, ⟨nd, rfl⟩⟩; refine ⟨_, rfl, ?_⟩) | ((with_reducible refine gate_callee (f := 38) rfl ?_); refine goesL_ (some 23) rfl rfl Try.func38 (by kernel_rfl) rfl #[.slice A1 l1.length c1, .int .i64 t247] rfl (by (try simp only [List.map_toArray, List.map_cons, List.map_nil]); first | done | rfl | (simp only [List.length_drop, List.length_take]; rfl)) ?_; (with_reducible refine (laws_szHoleS.calls _ _ l1 t247 t248 _ ?side1 ?side2 A7.out).mono ?_); (case side1 => repeat (first | exact HR1.out | (with_reducible refine Kd.C_alloc ?_ _) | (with_reducible refine Kd.C_drewN ?_ _) | (with_reducible refine Kd.C_drew ?_))); (case side2 => exact HC1.out); rintro e w' ⟨rfl, ⟨nd, rfl⟩⟩; refine ⟨_, rfl, ?_⟩))
      go_ret
      exact ⟨by first | rfl | (simp [errW_none, errW_some] <;> rfl) | (simp [*, errW_none, errW_some] <;> rfl), by repeat (first | (with_reducible first | exact HB.out | apply below_alloc | apply pw_below_drewN | apply below_drew1) | exact HB.out)⟩
    · rw [if_neg c8] at H
      have c8b0 : decide (t248 < 0) = false := decide_eq_false c8
      clear c8
      replace H := Option.bind_eq_some_iff.mp H
      obtain ⟨t249, A90, H⟩ := H
      replace H : ((laws_toHoleS.f k l1).bind fun t252 => ((spec_RepairCost.f k t249 t252 a2 a3).bind fun bt255 => ((laws_toHoleS.f k l0).bind fun t257 => ((laws_toHoleS.f k l1).bind fun t260 => ((impl_RepairCost.f k t257 t260 a2 a3).bind fun bt263 => (if bt263.1 = bt255.1 then (laws_FnExactRepairCost.j0 k l0 l1 t257 t260 (bt263.2 != bt255.2)) else (laws_FnExactRepairCost.j0 k l0 l1 t257 t260 true))))))) = some r := H
      have A9 := Aside0.mk A90
      clear A90
      replace H := Option.bind_eq_some_iff.mp H
      obtain ⟨t252, A100, H⟩ := H
      replace H : ((spec_RepairCost.f k t249 t252 a2 a3).bind fun bt255 => ((laws_toHoleS.f k l0).bind fun t257 => ((laws_toHoleS.f k l1).bind fun t260 => ((impl_RepairCost.f k t257 t260 a2 a3).bind fun bt263 => (if bt263.1 = bt255.1 then (laws_FnExactRepairCost.j0 k l0 l1 t257 t260 (bt263.2 != bt255.2)) else (laws_FnExactRepairCost.j0 k l0 l1 t257 t260 true)))))) = some r := H
      have A10 := Aside0.mk A100
      clear A100
      replace H := Option.bind_eq_some_iff.mp H
      obtain ⟨⟨t255, t256⟩, A110, H⟩ := H
      replace H : ((laws_toHoleS.f k l0).bind fun t257 => ((laws_toHoleS.f k l1).bind fun t260 => ((impl_RepairCost.f k t257 t260 a2 a3).bind fun bt263 => (if bt263.1 = t255 then (laws_FnExactRepairCost.j0 k l0 l1 t257 t260 (bt263.2 != t256)) else (laws_FnExactRepairCost.j0 k l0 l1 t257 t260 true))))) = some r := H
      have A11 := Aside0.mk A110
      clear A110
      replace H := Option.bind_eq_some_iff.mp H
      obtain ⟨t257, A120, H⟩ := H
      replace H : ((laws_toHoleS.f k l1).bind fun t260 => ((impl_RepairCost.f k t257 t260 a2 a3).bind fun bt263 => (if bt263.1 = t255 then (laws_FnExactRepairCost.j0 k l0 l1 t257 t260 (bt263.2 != t256)) else (laws_FnExactRepairCost.j0 k l0 l1 t257 t260 true)))) = some r := H
      have A12 := Aside0.mk A120
      clear A120
      replace H := Option.bind_eq_some_iff.mp H
      obtain ⟨t260, A130, H⟩ := H
      replace H : ((impl_RepairCost.f k t257 t260 a2 a3).bind fun bt263 => (if bt263.1 = t255 then (laws_FnExactRepairCost.j0 k l0 l1 t257 t260 (bt263.2 != t256)) else (laws_FnExactRepairCost.j0 k l0 l1 t257 t260 true))) = some r := H
      have A13 := Aside0.mk A130
      clear A130
      replace H := Option.bind_eq_some_iff.mp H
      obtain ⟨⟨t263, t264⟩, A140, H⟩ := H
      replace H : (if t263 = t255 then (laws_FnExactRepairCost.j0 k l0 l1 t257 t260 (t264 != t256)) else (laws_FnExactRepairCost.j0 k l0 l1 t257 t260 true)) = some r := H
      have A14 := Aside0.mk A140
      clear A140
      have HC15 := Aside0.mk H
      clear H
      go_enter Try.func10, Try.ntmps10
      go_upto_region 12 with (first | ((with_reducible refine gate_callee (f := 38) rfl ?_); refine goesL_ (some 18) rfl rfl Try.func38 (by kernel_rfl) rfl #[.slice A0 l0.length c0, .int .i64 1048576] rfl (by (try simp only [List.map_toArray, List.map_cons, List.map_nil]); first | done | rfl | (simp only [List.length_drop, List.length_take]; rfl)) ?_; (with_reducible refine (laws_szHoleS.calls _ _ l0 1048576 t247 _ ?side1 ?side2 A5.out).mono ?_); (case side1 => repeat (first | exact HR0.out | (with_reducible refine Kd.C_alloc ?_ _) | (with_reducible refine Kd.C_drewN ?_ _) | (with_reducible refine Kd.C_drew ?_))); (case side2 => exact HC0.out); rintro e w' ⟨rfl, ⟨nd, rfl⟩⟩; refine ⟨_, rfl, ?_⟩) | ((with_reducible refine gate_callee (f := 38) rfl ?_); refine goesL_ (some 23) rfl rfl Try.func38 (by kernel_rfl) rfl #[.slice A1 l1.length c1, .int .i64 t247] rfl (by (try simp only [List.map_toArray, List.map_cons, List.map_nil]); first | done | rfl | (simp only [List.length_drop, List.length_take]; rfl)) ?_; (with_reducible refine (laws_szHoleS.calls _ _ l1 t247 t248 _ ?side1 ?side2 A7.out).mono ?_); (case side1 => repeat (first | exact HR1.out | (with_reducible refine Kd.C_alloc ?_ _) | (with_reducible refine Kd.C_drewN ?_ _) | (with_reducible refine Kd.C_drew ?_))); (case side2 => exact HC1.out); rintro e w' ⟨rfl, ⟨nd, rfl⟩⟩; refine ⟨_, rfl, ?_⟩) | ((with_reducible refine gate_callee (f := 40) rfl ?_); refine goesL_ (some 28) rfl rfl Try.func40 (by kernel_rfl) rfl #[.slice A0 l0.length c0] rfl (by (try simp only [List.map_toArray, List.map_cons, List.map_nil]); first | done | rfl | (simp only [List.length_drop, List.length_take]; rfl)) ?_; (with_reducible refine (laws_toHoleS.calls k _ _ l0 t249 _ ?side1 ?side2 A9.out).mono ?_); (case side1 => repeat (first | exact HR0.out | (with_reducible refine Kd.C_alloc ?_ _) | (with_reducible refine Kd.C_drewN ?_ _) | (with_reducible refine Kd.C_drew ?_))); (case side2 => exact HC0.out); rintro e w16 ⟨v250, rfl, ho0, hb⟩; refine ⟨_, rfl, ?_⟩; have n0_ := Aside0.mk (Kd.R_lower ho0 (below_size (by repeat (first | (with_reducible first | exact HB.out | apply below_alloc | apply pw_below_drewN | apply below_drew1) | exact HB.out)))); have n1_ := Aside0.mk (below_step (by repeat (first | (with_reducible first | exact HB.out | apply below_alloc | apply pw_below_drewN | apply below_drew1) | exact HB.out)) hb); clear HB; have HO251 := n0_; have HB := n1_; clear n0_ n1_; (try clear hb); (try clear hb2); (try clear hk); (try clear hi); (try clear ho0)) | ((with_reducible refine gate_callee (f := 40) rfl ?_); refine goesL_ (some 30) rfl rfl Try.func40 (by kernel_rfl) rfl #[.slice A1 l1.length c1] rfl (by (try simp only [List.map_toArray, List.map_cons, List.map_nil]); first | done | rfl | (simp only [List.length_drop, List.length_take]; rfl)) ?_; (with_reducible refine (laws_toHoleS.calls k _ _ l1 t252 _ ?side1 ?side2 A10.out).mono ?_); (case side1 => repeat (first | exact (Kd.C_below HR1.out HB.out) | (with_reducible refine Kd.C_alloc ?_ _) | (with_reducible refine Kd.C_drewN ?_ _) | (with_reducible refine Kd.C_drew ?_))); (case side2 => exact HC1.out); rintro e w17 ⟨v253, rfl, ho0, hb⟩; refine ⟨_, rfl, ?_⟩; have n0_ := Aside0.mk (Kd.R_elder' (by (with_reducible repeat (first | apply Kd.R_alloc | apply Kd.R_drewN | apply Kd.R_drew)); exact HO251.out) (Kd.R_base ho0) hb); have n1_ := Aside0.mk (Kd.R_lower (Kd.R_new' ho0 (Kd.R_lt (by (with_reducible repeat (first | apply Kd.R_alloc | apply Kd.R_drewN | apply Kd.R_drew)); exact HO251.out))) (below_size (by repeat (first | (with_reducible first | exact HB.out | apply below_alloc | apply pw_below_drewN | apply below_drew1) | exact HB.out)))); have n2_ := Aside0.mk (below_step (by repeat (first | (with_reducible first | exact HB.out | apply below_alloc | apply pw_below_drewN | apply below_drew1) | exact HB.out)) hb); clear HO251; clear HB; have HO251 := n0_; have HO254 := n1_; have HB := n2_; clear n0_ n1_ n2_; (try clear hb); (try clear hb2); (try clear hk); (try clear hi); (try clear ho0); obtain ⟨Ao18, co18, eo18⟩ := Kd.R_slice HO251.out; subst eo18; obtain ⟨Ao19, co19, eo19⟩ := Kd.R_slice HO254.out; subst eo19) | ((with_reducible refine gate_callee (f := 49) rfl ?_); refine goesL_ (some 33) rfl rfl Try.func49 (by kernel_rfl) rfl #[.slice Ao18 t249.length co18, .slice Ao19 t252.length co19, .int .i64 a2, .int .i64 a3] rfl (by (try simp only [List.map_toArray, List.map_cons, List.map_nil]); first | done | rfl | (simp only [List.length_drop, List.length_take]; rfl)) ?_; (with_reducible refine (spec_RepairCost.calls k _ _ t249 _ _ t252 a2 a3 t255 t256 _ ?side1 ?side2 ?side3 ?side4 A11.out).mono ?_); (case side1 => repeat (first | exact (Kd.R_reads' HO251.out).2.2 | (with_reducible refine Kd.C_alloc ?_ _) | (with_reducible refine Kd.C_drewN ?_ _) | (with_reducible refine Kd.C_drew ?_))); (case side2 => exact (Kd.R_reads' HO251.out).2.1); (case side3 => repeat (first | exact (Kd.R_reads' HO254.out).2.2 | (with_reducible refine Kd.C_alloc ?_ _) | (with_reducible refine Kd.C_drewN ?_ _) | (with_reducible refine Kd.C_drew ?_))); (case side4 => exact (Kd.R_reads' HO254.out).2.1); rintro e w20 ⟨rfl, hb⟩; refine ⟨_, rfl, ?_⟩; have n0_ := Aside0.mk (Kd.R_below (by (with_reducible repeat (first | apply Kd.R_alloc | apply Kd.R_drewN | apply Kd.R_drew)); exact HO251.out) hb); have n1_ := Aside0.mk (Kd.R_below (by (with_reducible repeat (first | apply Kd.R_alloc | apply Kd.R_drewN | apply Kd.R_drew)); exact HO254.out) hb); have n2_ := Aside0.mk (below_step (by repeat (first | (with_reducible first | exact HB.out | apply below_alloc | apply pw_below_drewN | apply below_drew1) | exact HB.out)) hb); clear HO251; clear HO254; clear HB; have HO251 := n0_; have HO254 := n1_; have HB := n2_; clear n0_ n1_ n2_; (try clear hb); (try clear hb2); (try clear hk); (try clear hi)) | ((with_reducible refine gate_callee (f := 40) rfl ?_); refine goesL_ (some 37) rfl rfl Try.func40 (by kernel_rfl) rfl #[.slice A0 l0.length c0] rfl (by (try simp only [List.map_toArray, List.map_cons, List.map_nil]); first | done | rfl | (simp only [List.length_drop, List.length_take]; rfl)) ?_; (with_reducible refine (laws_toHoleS.calls k _ _ l0 t257 _ ?side1 ?side2 A12.out).mono ?_); (case side1 => repeat (first | exact (Kd.C_below HR0.out HB.out) | (with_reducible refine Kd.C_alloc ?_ _) | (with_reducible refine Kd.C_drewN ?_ _) | (with_reducible refine Kd.C_drew ?_))); (case side2 => exact HC0.out); rintro e w21 ⟨v258, rfl, ho0, hb⟩; refine ⟨_, rfl, ?_⟩; have n0_ := Aside0.mk (Kd.R_elder' (by (with_reducible repeat (first | apply Kd.R_alloc | apply Kd.R_drewN | apply Kd.R_drew)); exact HO251.out) (Kd.R_base ho0) hb); have n1_ := Aside0.mk (Kd.R_elder' (by (with_reducible repeat (first | apply Kd.R_alloc | apply Kd.R_drewN | apply Kd.R_drew)); exact HO254.out) (Kd.R_base ho0) hb); have n2_ := Aside0.mk (Kd.R_lower (Kd.R_new' (Kd.R_new' ho0 (Kd.R_lt (by (with_reducible repeat (first | apply Kd.R_alloc | apply Kd.R_drewN | apply Kd.R_drew)); exact HO251.out))) (Kd.R_lt (by (with_reducible repeat (first | apply Kd.R_alloc | apply Kd.R_drewN | apply Kd.R_drew)); exact HO254.out))) (below_size (by repeat (first | (with_reducible first | exact HB.out | apply below_alloc | apply pw_below_drewN | apply below_drew1) | exact HB.out)))); have n3_ := Aside0.mk (below_step (by repeat (first | (with_reducible first | exact HB.out | apply below_alloc | apply pw_below_drewN | apply below_drew1) | exact HB.out)) hb); clear HO251; clear HO254; clear HB; have HO251 := n0_; have HO254 := n1_; have HO259 := n2_; have HB := n3_; clear n0_ n1_ n2_ n3_; (try clear hb); (try clear hb2); (try clear hk); (try clear hi); (try clear ho0)) | ((with_reducible refine gate_callee (f := 40) rfl ?_); refine goesL_ (some 39) rfl rfl Try.func40 (by kernel_rfl) rfl #[.slice A1 l1.length c1] rfl (by (try simp only [List.map_toArray, List.map_cons, List.map_nil]); first | done | rfl | (simp only [List.length_drop, List.length_take]; rfl)) ?_; (with_reducible refine (laws_toHoleS.calls k _ _ l1 t260 _ ?side1 ?side2 A13.out).mono ?_); (case side1 => repeat (first | exact (Kd.C_below HR1.out HB.out) | (with_reducible refine Kd.C_alloc ?_ _) | (with_reducible refine Kd.C_drewN ?_ _) | (with_reducible refine Kd.C_drew ?_))); (case side2 => exact HC1.out); rintro e w22 ⟨v261, rfl, ho0, hb⟩; refine ⟨_, rfl, ?_⟩; have n0_ := Aside0.mk (Kd.R_elder' (by (with_reducible repeat (first | apply Kd.R_alloc | apply Kd.R_drewN | apply Kd.R_drew)); exact HO251.out) (Kd.R_base ho0) hb); have n1_ := Aside0.mk (Kd.R_elder' (by (with_reducible repeat (first | apply Kd.R_alloc | apply Kd.R_drewN | apply Kd.R_drew)); exact HO254.out) (Kd.R_base ho0) hb); have n2_ := Aside0.mk (Kd.R_elder' (by (with_reducible repeat (first | apply Kd.R_alloc | apply Kd.R_drewN | apply Kd.R_drew)); exact HO259.out) (Kd.R_base ho0) hb); have n3_ := Aside0.mk (Kd.R_lower (Kd.R_new' (Kd.R_new' (Kd.R_new' ho0 (Kd.R_lt (by (with_reducible repeat (first | apply Kd.R_alloc | apply Kd.R_drewN | apply Kd.R_drew)); exact HO251.out))) (Kd.R_lt (by (with_reducible repeat (first | apply Kd.R_alloc | apply Kd.R_drewN | apply Kd.R_drew)); exact HO254.out))) (Kd.R_lt (by (with_reducible repeat (first | apply Kd.R_alloc | apply Kd.R_drewN | apply Kd.R_drew)); exact HO259.out))) (below_size (by repeat (first | (with_reducible first | exact HB.out | apply below_alloc | apply pw_below_drewN | apply below_drew1) | exact HB.out)))); have n4_ := Aside0.mk (below_step (by repeat (first | (with_reducible first | exact HB.out | apply below_alloc | apply pw_below_drewN | apply below_drew1) | exact HB.out)) hb); clear HO251; clear HO254; clear HO259; clear HB; have HO251 := n0_; have HO254 := n1_; have HO259 := n2_; have HO262 := n3_; have HB := n4_; clear n0_ n1_ n2_ n3_ n4_; (try clear hb); (try clear hb2); (try clear hk); (try clear hi); (try clear ho0); obtain ⟨Ao23, co23, eo23⟩ := Kd.R_slice HO259.out; subst eo23; obtain ⟨Ao24, co24, eo24⟩ := Kd.R_slice HO262.out; subst eo24) | ((with_reducible refine gate_callee (f := 50) rfl ?_); refine goesL_ (some 45) rfl rfl Try.func50 (by kernel_rfl) rfl #[.slice Ao23 t257.length co23, .slice Ao24 t260.length co24, .int .i64 a2, .int .i64 a3] rfl (by (try simp only [List.map_toArray, List.map_cons, List.map_nil]); first | done | rfl | (simp only [List.length_drop, List.length_take]; rfl)) ?_; (with_reducible refine (impl_RepairCost.calls k _ _ t257 _ _ t260 a2 a3 t263 t264 _ ?side1 ?side2 ?side3 ?side4 A14.out).mono ?_); (case side1 => repeat (first | exact (Kd.R_reads' HO259.out).2.2 | (with_reducible refine Kd.C_alloc ?_ _) | (with_reducible refine Kd.C_drewN ?_ _) | (with_reducible refine Kd.C_drew ?_))); (case side2 => exact (Kd.R_reads' HO259.out).2.1); (case side3 => repeat (first | exact (Kd.R_reads' HO262.out).2.2 | (with_reducible refine Kd.C_alloc ?_ _) | (with_reducible refine Kd.C_drewN ?_ _) | (with_reducible refine Kd.C_drew ?_))); (case side4 => exact (Kd.R_reads' HO262.out).2.1); rintro e w25 ⟨rfl, hb⟩; refine ⟨_, rfl, ?_⟩; have n0_ := Aside0.mk (Kd.R_below (by (with_reducible repeat (first | apply Kd.R_alloc | apply Kd.R_drewN | apply Kd.R_drew)); exact HO251.out) hb); have n1_ := Aside0.mk (Kd.R_below (by (with_reducible repeat (first | apply Kd.R_alloc | apply Kd.R_drewN | apply Kd.R_drew)); exact HO254.out) hb); have n2_ := Aside0.mk (Kd.R_below (by (with_reducible repeat (first | apply Kd.R_alloc | apply Kd.R_drewN | apply Kd.R_drew)); exact HO259.out) hb); have n3_ := Aside0.mk (Kd.R_below (by (with_reducible repeat (first | apply Kd.R_alloc | apply Kd.R_drewN | apply Kd.R_drew)); exact HO262.out) hb); have n4_ := Aside0.mk (below_step (by repeat (first | (with_reducible first | exact HB.out | apply below_alloc | apply pw_below_drewN | apply below_drew1) | exact HB.out)) hb); clear HO251; clear HO254; clear HO259; clear HO262; clear HB; have HO251 := n0_; have HO254 := n1_; have HO259 := n2_; have HO262 := n3_; have HB := n4_; clear n0_ n1_ n2_ n3_ n4_; (try clear hb); (try clear hb2); (try clear hk); (try clear hi)))
      (try simp only [Act.put, List.setIfInBounds_toArray, List.set_cons_zero, List.set_cons_succ])
      go_cut [55] (fun v55 wc => ∃ (kq : Nat) (x55_14 : Bool), v55 = .bool x55_14 ∧ Aside0 (laws_FnExactRepairCost.j0 kq l0 l1 t257 t260 x55_14 = some r) ∧ Aside0 (kq ≤ k) ∧ Aside0 (Kd.R k117 117 wc w.heap.size (fun k_ => some k_ ≠ ((.slice Ao24 t260.length co24) : Value).ownBlock) (.slice Ao23 t257.length co23) t257) ∧ Aside0 (Kd.R k117 117 wc w.heap.size (fun k_ => some k_ ≠ ((.slice Ao23 t257.length co23) : Value).ownBlock) (.slice Ao24 t260.length co24) t260) ∧ Aside0 (Below w.heap.size w wc))
      case first =>
        have H := HC15.out
        clear HC15
        by_cases c26 : t263 = t255
        · rw [if_pos c26] at H
          have c26b0 : (t263 == t255) = true := beq_iff_eq.mpr c26
          have c26b1 : (t263 != t255) = false := bne_eq_false_iff_eq.mpr c26
          clear c26
          (first | rw [c26b0] | (simp only [i64_w, i32_w]; rw [c26b0]) | skip)
          have H' := Aside0.mk H
          clear H
          go_wp2
          go_meet
          case rel => exact ⟨_, ((t264 != t256)), (by first | rfl | (simp; done) | (simp [*]; done)), H', ⟨by first | omega | exact Nat.le_refl _⟩, ⟨by (with_reducible repeat (first | apply Kd.R_alloc | apply Kd.R_drewN | apply Kd.R_drew)); exact Kd.R_mono HO259.out (fun _ hk => hk.2)⟩, ⟨by (with_reducible repeat (first | apply Kd.R_alloc | apply Kd.R_drewN | apply Kd.R_drew)); exact Kd.R_mono HO262.out (fun _ hk => hk.2)⟩, ⟨by repeat (first | (with_reducible first | exact HB.out | apply below_alloc | apply pw_below_drewN | apply below_drew1) | exact HB.out)⟩⟩
        · rw [if_neg c26] at H
          have c26b0 : (t263 == t255) = false := beq_eq_false_iff_ne.mpr c26
          have c26b1 : (t263 != t255) = true := bne_iff_ne.mpr c26
          (first | rw [c26b0] | (simp only [i64_w, i32_w]; rw [c26b0]) | skip)
          have H' := Aside0.mk H
          clear H
          go_wp2
          go_meet
          case rel => exact ⟨_, (true), (by first | rfl | (simp; done) | (simp [*]; done)), H', ⟨by first | omega | exact Nat.le_refl _⟩, ⟨by (with_reducible repeat (first | apply Kd.R_alloc | apply Kd.R_drewN | apply Kd.R_drew)); exact Kd.R_mono HO259.out (fun _ hk => hk.2)⟩, ⟨by (with_reducible repeat (first | apply Kd.R_alloc | apply Kd.R_drewN | apply Kd.R_drew)); exact Kd.R_mono HO262.out (fun _ hk => hk.2)⟩, ⟨by repeat (first | (with_reducible first | exact HB.out | apply below_alloc | apply pw_below_drewN | apply below_drew1) | exact HB.out)⟩⟩
      case rest =>
        clear HC15
        try clear c1
        try clear c2
        try clear p2
        try clear c3
        try clear c4
        try clear c5
        try clear c6
        try clear c6b0
        try clear c8
        try clear c8b0
        try clear c10
        try clear c26
        try clear c26b0
        try clear c26b1
        obtain ⟨kq, x55_14, rfl, HA, HJ14, HO_12, HO_13, HB⟩ := hcut
        cases kq with
        | zero => exact absurd HA.out (by simp [laws_FnExactRepairCost.j0])
        | succ kj14 =>
          have H := HA.out
          clear HA
          simp only [laws_FnExactRepairCost.j0] at H
          by_cases c27 : x55_14 = true
          · subst c27
            have H1 : (some false) = some r := by rw [if_pos rfl] at H; exact H
            clear H
            have H := H1
            clear H1
            obtain rfl := Option.some.inj H
            go_wp2
            go_ret
            exact ⟨by first | rfl | (simp [errW_none, errW_some] <;> rfl) | (simp [*, errW_none, errW_some] <;> rfl), by repeat (first | (with_reducible first | exact HB.out | apply below_alloc | apply pw_below_drewN | apply below_drew1) | exact HB.out)⟩
          · replace c27 := Bool.eq_false_iff.mpr c27
            subst c27
            have H1 : ((laws_toHoleS.f kj14 l0).bind fun t265 => ((laws_eqHoleS.f kj14 t257 t265).bind fun t268 => (if t268 = true then ((laws_toHoleS.f kj14 l1).bind fun t269 => ((laws_eqHoleS.f kj14 t260 t269).bind fun t272 => (if t272 = true then (some true) else (some false)))) else (some false)))) = some r := by rw [if_neg (show ¬ (false = true) by decide)] at H; exact H
            clear H
            have H := H1
            clear H1
            replace H := Option.bind_eq_some_iff.mp H
            obtain ⟨t265, A280, H⟩ := H
            replace H : ((laws_eqHoleS.f kj14 t257 t265).bind fun t268 => (if t268 = true then ((laws_toHoleS.f kj14 l1).bind fun t269 => ((laws_eqHoleS.f kj14 t260 t269).bind fun t272 => (if t272 = true then (some true) else (some false)))) else (some false))) = some r := H
            have A28 := Aside0.mk A280
            clear A280
            replace H := Option.bind_eq_some_iff.mp H
            obtain ⟨t268, A290, H⟩ := H
            replace H : (if t268 = true then ((laws_toHoleS.f kj14 l1).bind fun t269 => ((laws_eqHoleS.f kj14 t260 t269).bind fun t272 => (if t272 = true then (some true) else (some false)))) else (some false)) = some r := H
            have A29 := Aside0.mk A290
            clear A290
            by_cases c30 : t268 = true
            · subst c30
              have H1 : ((laws_toHoleS.f kj14 l1).bind fun t269 => ((laws_eqHoleS.f kj14 t260 t269).bind fun t272 => (if t272 = true then (some true) else (some false)))) = some r := by rw [if_pos rfl] at H; exact H
              clear H
              have H := H1
              clear H1
              replace H := Option.bind_eq_some_iff.mp H
              obtain ⟨t269, A310, H⟩ := H
              replace H : ((laws_eqHoleS.f kj14 t260 t269).bind fun t272 => (if t272 = true then (some true) else (some false))) = some r := H
              have A31 := Aside0.mk A310
              clear A310
              replace H := Option.bind_eq_some_iff.mp H
              obtain ⟨t272, A320, H⟩ := H
              replace H : (if t272 = true then (some true) else (some false)) = some r := H
              have A32 := Aside0.mk A320
              clear A320
              by_cases c33 : t272 = true
              · subst c33
                have H1 : (some true) = some r := by rw [if_pos rfl] at H; exact H
                clear H
                have H := H1
                clear H1
                obtain rfl := Option.some.inj H
                go_wp2_with (first | ((with_reducible refine gate_callee (f := 40) rfl ?_); refine goesL_ (some 58) rfl rfl Try.func40 (by kernel_rfl) rfl #[.slice A0 l0.length c0] rfl (by (try simp only [List.map_toArray, List.map_cons, List.map_nil]); first | done | rfl | (simp only [List.length_drop, List.length_take]; rfl)) ?_; (with_reducible refine (laws_toHoleS.calls kj14 _ _ l0 t265 _ ?side1 ?side2 A28.out).mono ?_); (case side1 => repeat (first | exact (Kd.C_below HR0.out HB.out) | (with_reducible refine Kd.C_alloc ?_ _) | (with_reducible refine Kd.C_drewN ?_ _) | (with_reducible refine Kd.C_drew ?_))); (case side2 => exact HC0.out); rintro e w34 ⟨v266, rfl, ho0, hb⟩; refine ⟨_, rfl, ?_⟩; have n0_ := Aside0.mk (Kd.R_elder' (by (with_reducible repeat (first | apply Kd.R_alloc | apply Kd.R_drewN | apply Kd.R_drew)); exact HO_12.out) (Kd.R_base ho0) hb); have n1_ := Aside0.mk (Kd.R_elder' (by (with_reducible repeat (first | apply Kd.R_alloc | apply Kd.R_drewN | apply Kd.R_drew)); exact HO_13.out) (Kd.R_base ho0) hb); have n2_ := Aside0.mk (Kd.R_lower (Kd.R_new' (Kd.R_new' ho0 (Kd.R_lt (by (with_reducible repeat (first | apply Kd.R_alloc | apply Kd.R_drewN | apply Kd.R_drew)); exact HO_12.out))) (Kd.R_lt (by (with_reducible repeat (first | apply Kd.R_alloc | apply Kd.R_drewN | apply Kd.R_drew)); exact HO_13.out))) (below_size (by repeat (first | (with_reducible first | exact HB.out | apply below_alloc | apply pw_below_drewN | apply below_drew1) | exact HB.out)))); have n3_ := Aside0.mk (below_step (by repeat (first | (with_reducible first | exact HB.out | apply below_alloc | apply pw_below_drewN | apply below_drew1) | exact HB.out)) hb); clear HO_12; clear HO_13; clear HB; have HO_12 := n0_; have HO_13 := n1_; have HO267 := n2_; have HB := n3_; clear n0_ n1_ n2_ n3_; (try clear hb); (try clear hb2); (try clear hk); (try clear hi); (try clear ho0); obtain ⟨Ao35, co35, eo35⟩ := Kd.R_slice HO267.out; subst eo35) | ((with_reducible refine gate_callee (f := 43) rfl ?_); refine goesL_ (some 59) rfl rfl Try.func43 (by kernel_rfl) rfl #[.slice Ao23 t257.length co23, .slice Ao35 t265.length co35] rfl (by (try simp only [List.map_toArray, List.map_cons, List.map_nil]); first | done | rfl | (simp only [List.length_drop, List.length_take]; rfl)) ?_; (with_reducible refine (laws_eqHoleS.calls kj14 _ _ t257 _ _ t265 true _ ?side1 ?side2 ?side3 ?side4 A29.out).mono ?_); (case side1 => repeat (first | exact (Kd.R_reads' HO_12.out).2.2 | (with_reducible refine Kd.C_alloc ?_ _) | (with_reducible refine Kd.C_drewN ?_ _) | (with_reducible refine Kd.C_drew ?_))); (case side2 => exact (Kd.R_reads' HO_12.out).2.1); (case side3 => repeat (first | exact (Kd.R_reads' HO267.out).2.2 | (with_reducible refine Kd.C_alloc ?_ _) | (with_reducible refine Kd.C_drewN ?_ _) | (with_reducible refine Kd.C_drew ?_))); (case side4 => exact (Kd.R_reads' HO267.out).2.1); rintro e w36 ⟨rfl, hb⟩; refine ⟨_, rfl, ?_⟩; have n0_ := Aside0.mk (Kd.R_below (by (with_reducible repeat (first | apply Kd.R_alloc | apply Kd.R_drewN | apply Kd.R_drew)); exact HO_12.out) hb); have n1_ := Aside0.mk (Kd.R_below (by (with_reducible repeat (first | apply Kd.R_alloc | apply Kd.R_drewN | apply Kd.R_drew)); exact HO_13.out) hb); have n2_ := Aside0.mk (Kd.R_below (by (with_reducible repeat (first | apply Kd.R_alloc | apply Kd.R_drewN | apply Kd.R_drew)); exact HO267.out) hb); have n3_ := Aside0.mk (below_step (by repeat (first | (with_reducible first | exact HB.out | apply below_alloc | apply pw_below_drewN | apply below_drew1) | exact HB.out)) hb); clear HO_12; clear HO_13; clear HO267; clear HB; have HO_12 := n0_; have HO_13 := n1_; have HO267 := n2_; have HB := n3_; clear n0_ n1_ n2_ n3_; (try clear hb); (try clear hb2); (try clear hk); (try clear hi)) | ((with_reducible refine gate_callee (f := 40) rfl ?_); refine goesL_ (some 63) rfl rfl Try.func40 (by kernel_rfl) rfl #[.slice A1 l1.length c1] rfl (by (try simp only [List.map_toArray, List.map_cons, List.map_nil]); first | done | rfl | (simp only [List.length_drop, List.length_take]; rfl)) ?_; (with_reducible refine (laws_toHoleS.calls kj14 _ _ l1 t269 _ ?side1 ?side2 A31.out).mono ?_); (case side1 => repeat (first | exact (Kd.C_below HR1.out HB.out) | (with_reducible refine Kd.C_alloc ?_ _) | (with_reducible refine Kd.C_drewN ?_ _) | (with_reducible refine Kd.C_drew ?_))); (case side2 => exact HC1.out); rintro e w37 ⟨v270, rfl, ho0, hb⟩; refine ⟨_, rfl, ?_⟩; have n0_ := Aside0.mk (Kd.R_elder' (by (with_reducible repeat (first | apply Kd.R_alloc | apply Kd.R_drewN | apply Kd.R_drew)); exact HO_12.out) (Kd.R_base ho0) hb); have n1_ := Aside0.mk (Kd.R_elder' (by (with_reducible repeat (first | apply Kd.R_alloc | apply Kd.R_drewN | apply Kd.R_drew)); exact HO_13.out) (Kd.R_base ho0) hb); have n2_ := Aside0.mk (Kd.R_elder' (by (with_reducible repeat (first | apply Kd.R_alloc | apply Kd.R_drewN | apply Kd.R_drew)); exact HO267.out) (Kd.R_base ho0) hb); have n3_ := Aside0.mk (Kd.R_lower (Kd.R_new' (Kd.R_new' (Kd.R_new' ho0 (Kd.R_lt (by (with_reducible repeat (first | apply Kd.R_alloc | apply Kd.R_drewN | apply Kd.R_drew)); exact HO_12.out))) (Kd.R_lt (by (with_reducible repeat (first | apply Kd.R_alloc | apply Kd.R_drewN | apply Kd.R_drew)); exact HO_13.out))) (Kd.R_lt (by (with_reducible repeat (first | apply Kd.R_alloc | apply Kd.R_drewN | apply Kd.R_drew)); exact HO267.out))) (below_size (by repeat (first | (with_reducible first | exact HB.out | apply below_alloc | apply pw_below_drewN | apply below_drew1) | exact HB.out)))); have n4_ := Aside0.mk (below_step (by repeat (first | (with_reducible first | exact HB.out | apply below_alloc | apply pw_below_drewN | apply below_drew1) | exact HB.out)) hb); clear HO_12; clear HO_13; clear HO267; clear HB; have HO_12 := n0_; have HO_13 := n1_; have HO267 := n2_; have HO271 := n3_; have HB := n4_; clear n0_ n1_ n2_ n3_ n4_; (try clear hb); (try clear hb2); (try clear hk); (try clear hi); (try clear ho0); obtain ⟨Ao38, co38, eo38⟩ := Kd.R_slice HO271.out; subst eo38) | ((with_reducible refine gate_callee (f := 43) rfl ?_); refine goesL_ (some 64) rfl rfl Try.func43 (by kernel_rfl) rfl #[.slice Ao24 t260.length co24, .slice Ao38 t269.length co38] rfl (by (try simp only [List.map_toArray, List.map_cons, List.map_nil]); first | done | rfl | (simp only [List.length_drop, List.length_take]; rfl)) ?_; (with_reducible refine (laws_eqHoleS.calls kj14 _ _ t260 _ _ t269 true _ ?side1 ?side2 ?side3 ?side4 A32.out).mono ?_); (case side1 => repeat (first | exact (Kd.R_reads' HO_13.out).2.2 | (with_reducible refine Kd.C_alloc ?_ _) | (with_reducible refine Kd.C_drewN ?_ _) | (with_reducible refine Kd.C_drew ?_))); (case side2 => exact (Kd.R_reads' HO_13.out).2.1); (case side3 => repeat (first | exact (Kd.R_reads' HO271.out).2.2 | (with_reducible refine Kd.C_alloc ?_ _) | (with_reducible refine Kd.C_drewN ?_ _) | (with_reducible refine Kd.C_drew ?_))); (case side4 => exact (Kd.R_reads' HO271.out).2.1); rintro e w39 ⟨rfl, hb⟩; refine ⟨_, rfl, ?_⟩; have n0_ := Aside0.mk (Kd.R_below (by (with_reducible repeat (first | apply Kd.R_alloc | apply Kd.R_drewN | apply Kd.R_drew)); exact HO_12.out) hb); have n1_ := Aside0.mk (Kd.R_below (by (with_reducible repeat (first | apply Kd.R_alloc | apply Kd.R_drewN | apply Kd.R_drew)); exact HO_13.out) hb); have n2_ := Aside0.mk (Kd.R_below (by (with_reducible repeat (first | apply Kd.R_alloc | apply Kd.R_drewN | apply Kd.R_drew)); exact HO267.out) hb); have n3_ := Aside0.mk (Kd.R_below (by (with_reducible repeat (first | apply Kd.R_alloc | apply Kd.R_drewN | apply Kd.R_drew)); exact HO271.out) hb); have n4_ := Aside0.mk (below_step (by repeat (first | (with_reducible first | exact HB.out | apply below_alloc | apply pw_below_drewN | apply below_drew1) | exact HB.out)) hb); clear HO_12; clear HO_13; clear HO267; clear HO271; clear HB; have HO_12 := n0_; have HO_13 := n1_; have HO267 := n2_; have HO271 := n3_; have HB := n4_; clear n0_ n1_ n2_ n3_ n4_; (try clear hb); (try clear hb2); (try clear hk); (try clear hi)))
                go_ret
                exact ⟨by first | rfl | (simp [errW_none, errW_some] <;> rfl) | (simp [*, errW_none, errW_some] <;> rfl), by repeat (first | (with_reducible first | exact HB.out | apply below_alloc | apply pw_below_drewN | apply below_drew1) | exact HB.out)⟩
              · replace c33 := Bool.eq_false_iff.mpr c33
                subst c33
                have H1 : (some false) = some r := by rw [if_neg (show ¬ (false = true) by decide)] at H; exact H
                clear H
                have H := H1
                clear H1
                obtain rfl := Option.some.inj H
                go_wp2_with (first | ((with_reducible refine gate_callee (f := 40) rfl ?_); refine goesL_ (some 58) rfl rfl Try.func40 (by kernel_rfl) rfl #[.slice A0 l0.length c0] rfl (by (try simp only [List.map_toArray, List.map_cons, List.map_nil]); first | done | rfl | (simp only [List.length_drop, List.length_take]; rfl)) ?_; (with_reducible refine (laws_toHoleS.calls kj14 _ _ l0 t265 _ ?side1 ?side2 A28.out).mono ?_); (case side1 => repeat (first | exact (Kd.C_below HR0.out HB.out) | (with_reducible refine Kd.C_alloc ?_ _) | (with_reducible refine Kd.C_drewN ?_ _) | (with_reducible refine Kd.C_drew ?_))); (case side2 => exact HC0.out); rintro e w40 ⟨v266, rfl, ho0, hb⟩; refine ⟨_, rfl, ?_⟩; have n0_ := Aside0.mk (Kd.R_elder' (by (with_reducible repeat (first | apply Kd.R_alloc | apply Kd.R_drewN | apply Kd.R_drew)); exact HO_12.out) (Kd.R_base ho0) hb); have n1_ := Aside0.mk (Kd.R_elder' (by (with_reducible repeat (first | apply Kd.R_alloc | apply Kd.R_drewN | apply Kd.R_drew)); exact HO_13.out) (Kd.R_base ho0) hb); have n2_ := Aside0.mk (Kd.R_lower (Kd.R_new' (Kd.R_new' ho0 (Kd.R_lt (by (with_reducible repeat (first | apply Kd.R_alloc | apply Kd.R_drewN | apply Kd.R_drew)); exact HO_12.out))) (Kd.R_lt (by (with_reducible repeat (first | apply Kd.R_alloc | apply Kd.R_drewN | apply Kd.R_drew)); exact HO_13.out))) (below_size (by repeat (first | (with_reducible first | exact HB.out | apply below_alloc | apply pw_below_drewN | apply below_drew1) | exact HB.out)))); have n3_ := Aside0.mk (below_step (by repeat (first | (with_reducible first | exact HB.out | apply below_alloc | apply pw_below_drewN | apply below_drew1) | exact HB.out)) hb); clear HO_12; clear HO_13; clear HB; have HO_12 := n0_; have HO_13 := n1_; have HO267 := n2_; have HB := n3_; clear n0_ n1_ n2_ n3_; (try clear hb); (try clear hb2); (try clear hk); (try clear hi); (try clear ho0); obtain ⟨Ao41, co41, eo41⟩ := Kd.R_slice HO267.out; subst eo41) | ((with_reducible refine gate_callee (f := 43) rfl ?_); refine goesL_ (some 59) rfl rfl Try.func43 (by kernel_rfl) rfl #[.slice Ao23 t257.length co23, .slice Ao41 t265.length co41] rfl (by (try simp only [List.map_toArray, List.map_cons, List.map_nil]); first | done | rfl | (simp only [List.length_drop, List.length_take]; rfl)) ?_; (with_reducible refine (laws_eqHoleS.calls kj14 _ _ t257 _ _ t265 true _ ?side1 ?side2 ?side3 ?side4 A29.out).mono ?_); (case side1 => repeat (first | exact (Kd.R_reads' HO_12.out).2.2 | (with_reducible refine Kd.C_alloc ?_ _) | (with_reducible refine Kd.C_drewN ?_ _) | (with_reducible refine Kd.C_drew ?_))); (case side2 => exact (Kd.R_reads' HO_12.out).2.1); (case side3 => repeat (first | exact (Kd.R_reads' HO267.out).2.2 | (with_reducible refine Kd.C_alloc ?_ _) | (with_reducible refine Kd.C_drewN ?_ _) | (with_reducible refine Kd.C_drew ?_))); (case side4 => exact (Kd.R_reads' HO267.out).2.1); rintro e w42 ⟨rfl, hb⟩; refine ⟨_, rfl, ?_⟩; have n0_ := Aside0.mk (Kd.R_below (by (with_reducible repeat (first | apply Kd.R_alloc | apply Kd.R_drewN | apply Kd.R_drew)); exact HO_12.out) hb); have n1_ := Aside0.mk (Kd.R_below (by (with_reducible repeat (first | apply Kd.R_alloc | apply Kd.R_drewN | apply Kd.R_drew)); exact HO_13.out) hb); have n2_ := Aside0.mk (Kd.R_below (by (with_reducible repeat (first | apply Kd.R_alloc | apply Kd.R_drewN | apply Kd.R_drew)); exact HO267.out) hb); have n3_ := Aside0.mk (below_step (by repeat (first | (with_reducible first | exact HB.out | apply below_alloc | apply pw_below_drewN | apply below_drew1) | exact HB.out)) hb); clear HO_12; clear HO_13; clear HO267; clear HB; have HO_12 := n0_; have HO_13 := n1_; have HO267 := n2_; have HB := n3_; clear n0_ n1_ n2_ n3_; (try clear hb); (try clear hb2); (try clear hk); (try clear hi)) | ((with_reducible refine gate_callee (f := 40) rfl ?_); refine goesL_ (some 63) rfl rfl Try.func40 (by kernel_rfl) rfl #[.slice A1 l1.length c1] rfl (by (try simp only [List.map_toArray, List.map_cons, List.map_nil]); first | done | rfl | (simp only [List.length_drop, List.length_take]; rfl)) ?_; (with_reducible refine (laws_toHoleS.calls kj14 _ _ l1 t269 _ ?side1 ?side2 A31.out).mono ?_); (case side1 => repeat (first | exact (Kd.C_below HR1.out HB.out) | (with_reducible refine Kd.C_alloc ?_ _) | (with_reducible refine Kd.C_drewN ?_ _) | (with_reducible refine Kd.C_drew ?_))); (case side2 => exact HC1.out); rintro e w43 ⟨v270, rfl, ho0, hb⟩; refine ⟨_, rfl, ?_⟩; have n0_ := Aside0.mk (Kd.R_elder' (by (with_reducible repeat (first | apply Kd.R_alloc | apply Kd.R_drewN | apply Kd.R_drew)); exact HO_12.out) (Kd.R_base ho0) hb); have n1_ := Aside0.mk (Kd.R_elder' (by (with_reducible repeat (first | apply Kd.R_alloc | apply Kd.R_drewN | apply Kd.R_drew)); exact HO_13.out) (Kd.R_base ho0) hb); have n2_ := Aside0.mk (Kd.R_elder' (by (with_reducible repeat (first | apply Kd.R_alloc | apply Kd.R_drewN | apply Kd.R_drew)); exact HO267.out) (Kd.R_base ho0) hb); have n3_ := Aside0.mk (Kd.R_lower (Kd.R_new' (Kd.R_new' (Kd.R_new' ho0 (Kd.R_lt (by (with_reducible repeat (first | apply Kd.R_alloc | apply Kd.R_drewN | apply Kd.R_drew)); exact HO_12.out))) (Kd.R_lt (by (with_reducible repeat (first | apply Kd.R_alloc | apply Kd.R_drewN | apply Kd.R_drew)); exact HO_13.out))) (Kd.R_lt (by (with_reducible repeat (first | apply Kd.R_alloc | apply Kd.R_drewN | apply Kd.R_drew)); exact HO267.out))) (below_size (by repeat (first | (with_reducible first | exact HB.out | apply below_alloc | apply pw_below_drewN | apply below_drew1) | exact HB.out)))); have n4_ := Aside0.mk (below_step (by repeat (first | (with_reducible first | exact HB.out | apply below_alloc | apply pw_below_drewN | apply below_drew1) | exact HB.out)) hb); clear HO_12; clear HO_13; clear HO267; clear HB; have HO_12 := n0_; have HO_13 := n1_; have HO267 := n2_; have HO271 := n3_; have HB := n4_; clear n0_ n1_ n2_ n3_ n4_; (try clear hb); (try clear hb2); (try clear hk); (try clear hi); (try clear ho0); obtain ⟨Ao44, co44, eo44⟩ := Kd.R_slice HO271.out; subst eo44) | ((with_reducible refine gate_callee (f := 43) rfl ?_); refine goesL_ (some 64) rfl rfl Try.func43 (by kernel_rfl) rfl #[.slice Ao24 t260.length co24, .slice Ao44 t269.length co44] rfl (by (try simp only [List.map_toArray, List.map_cons, List.map_nil]); first | done | rfl | (simp only [List.length_drop, List.length_take]; rfl)) ?_; (with_reducible refine (laws_eqHoleS.calls kj14 _ _ t260 _ _ t269 false _ ?side1 ?side2 ?side3 ?side4 A32.out).mono ?_); (case side1 => repeat (first | exact (Kd.R_reads' HO_13.out).2.2 | (with_reducible refine Kd.C_alloc ?_ _) | (with_reducible refine Kd.C_drewN ?_ _) | (with_reducible refine Kd.C_drew ?_))); (case side2 => exact (Kd.R_reads' HO_13.out).2.1); (case side3 => repeat (first | exact (Kd.R_reads' HO271.out).2.2 | (with_reducible refine Kd.C_alloc ?_ _) | (with_reducible refine Kd.C_drewN ?_ _) | (with_reducible refine Kd.C_drew ?_))); (case side4 => exact (Kd.R_reads' HO271.out).2.1); rintro e w45 ⟨rfl, hb⟩; refine ⟨_, rfl, ?_⟩; have n0_ := Aside0.mk (Kd.R_below (by (with_reducible repeat (first | apply Kd.R_alloc | apply Kd.R_drewN | apply Kd.R_drew)); exact HO_12.out) hb); have n1_ := Aside0.mk (Kd.R_below (by (with_reducible repeat (first | apply Kd.R_alloc | apply Kd.R_drewN | apply Kd.R_drew)); exact HO_13.out) hb); have n2_ := Aside0.mk (Kd.R_below (by (with_reducible repeat (first | apply Kd.R_alloc | apply Kd.R_drewN | apply Kd.R_drew)); exact HO267.out) hb); have n3_ := Aside0.mk (Kd.R_below (by (with_reducible repeat (first | apply Kd.R_alloc | apply Kd.R_drewN | apply Kd.R_drew)); exact HO271.out) hb); have n4_ := Aside0.mk (below_step (by repeat (first | (with_reducible first | exact HB.out | apply below_alloc | apply pw_below_drewN | apply below_drew1) | exact HB.out)) hb); clear HO_12; clear HO_13; clear HO267; clear HO271; clear HB; have HO_12 := n0_; have HO_13 := n1_; have HO267 := n2_; have HO271 := n3_; have HB := n4_; clear n0_ n1_ n2_ n3_ n4_; (try clear hb); (try clear hb2); (try clear hk); (try clear hi)))
                go_ret
                exact ⟨by first | rfl | (simp [errW_none, errW_some] <;> rfl) | (simp [*, errW_none, errW_some] <;> rfl), by repeat (first | (with_reducible first | exact HB.out | apply below_alloc | apply pw_below_drewN | apply below_drew1) | exact HB.out)⟩
            · replace c30 := Bool.eq_false_iff.mpr c30
              subst c30
              have H1 : (some false) = some r := by rw [if_neg (show ¬ (false = true) by decide)] at H; exact H
              clear H
              have H := H1
              clear H1
              obtain rfl := Option.some.inj H
              go_wp2_with (first | ((with_reducible refine gate_callee (f := 40) rfl ?_); refine goesL_ (some 58) rfl rfl Try.func40 (by kernel_rfl) rfl #[.slice A0 l0.length c0] rfl (by (try simp only [List.map_toArray, List.map_cons, List.map_nil]); first | done | rfl | (simp only [List.length_drop, List.length_take]; rfl)) ?_; (with_reducible refine (laws_toHoleS.calls kj14 _ _ l0 t265 _ ?side1 ?side2 A28.out).mono ?_); (case side1 => repeat (first | exact (Kd.C_below HR0.out HB.out) | (with_reducible refine Kd.C_alloc ?_ _) | (with_reducible refine Kd.C_drewN ?_ _) | (with_reducible refine Kd.C_drew ?_))); (case side2 => exact HC0.out); rintro e w46 ⟨v266, rfl, ho0, hb⟩; refine ⟨_, rfl, ?_⟩; have n0_ := Aside0.mk (Kd.R_elder' (by (with_reducible repeat (first | apply Kd.R_alloc | apply Kd.R_drewN | apply Kd.R_drew)); exact HO_12.out) (Kd.R_base ho0) hb); have n1_ := Aside0.mk (Kd.R_elder' (by (with_reducible repeat (first | apply Kd.R_alloc | apply Kd.R_drewN | apply Kd.R_drew)); exact HO_13.out) (Kd.R_base ho0) hb); have n2_ := Aside0.mk (Kd.R_lower (Kd.R_new' (Kd.R_new' ho0 (Kd.R_lt (by (with_reducible repeat (first | apply Kd.R_alloc | apply Kd.R_drewN | apply Kd.R_drew)); exact HO_12.out))) (Kd.R_lt (by (with_reducible repeat (first | apply Kd.R_alloc | apply Kd.R_drewN | apply Kd.R_drew)); exact HO_13.out))) (below_size (by repeat (first | (with_reducible first | exact HB.out | apply below_alloc | apply pw_below_drewN | apply below_drew1) | exact HB.out)))); have n3_ := Aside0.mk (below_step (by repeat (first | (with_reducible first | exact HB.out | apply below_alloc | apply pw_below_drewN | apply below_drew1) | exact HB.out)) hb); clear HO_12; clear HO_13; clear HB; have HO_12 := n0_; have HO_13 := n1_; have HO267 := n2_; have HB := n3_; clear n0_ n1_ n2_ n3_; (try clear hb); (try clear hb2); (try clear hk); (try clear hi); (try clear ho0); obtain ⟨Ao47, co47, eo47⟩ := Kd.R_slice HO267.out; subst eo47) | ((with_reducible refine gate_callee (f := 43) rfl ?_); refine goesL_ (some 59) rfl rfl Try.func43 (by kernel_rfl) rfl #[.slice Ao23 t257.length co23, .slice Ao47 t265.length co47] rfl (by (try simp only [List.map_toArray, List.map_cons, List.map_nil]); first | done | rfl | (simp only [List.length_drop, List.length_take]; rfl)) ?_; (with_reducible refine (laws_eqHoleS.calls kj14 _ _ t257 _ _ t265 false _ ?side1 ?side2 ?side3 ?side4 A29.out).mono ?_); (case side1 => repeat (first | exact (Kd.R_reads' HO_12.out).2.2 | (with_reducible refine Kd.C_alloc ?_ _) | (with_reducible refine Kd.C_drewN ?_ _) | (with_reducible refine Kd.C_drew ?_))); (case side2 => exact (Kd.R_reads' HO_12.out).2.1); (case side3 => repeat (first | exact (Kd.R_reads' HO267.out).2.2 | (with_reducible refine Kd.C_alloc ?_ _) | (with_reducible refine Kd.C_drewN ?_ _) | (with_reducible refine Kd.C_drew ?_))); (case side4 => exact (Kd.R_reads' HO267.out).2.1); rintro e w48 ⟨rfl, hb⟩; refine ⟨_, rfl, ?_⟩; have n0_ := Aside0.mk (Kd.R_below (by (with_reducible repeat (first | apply Kd.R_alloc | apply Kd.R_drewN | apply Kd.R_drew)); exact HO_12.out) hb); have n1_ := Aside0.mk (Kd.R_below (by (with_reducible repeat (first | apply Kd.R_alloc | apply Kd.R_drewN | apply Kd.R_drew)); exact HO_13.out) hb); have n2_ := Aside0.mk (Kd.R_below (by (with_reducible repeat (first | apply Kd.R_alloc | apply Kd.R_drewN | apply Kd.R_drew)); exact HO267.out) hb); have n3_ := Aside0.mk (below_step (by repeat (first | (with_reducible first | exact HB.out | apply below_alloc | apply pw_below_drewN | apply below_drew1) | exact HB.out)) hb); clear HO_12; clear HO_13; clear HO267; clear HB; have HO_12 := n0_; have HO_13 := n1_; have HO267 := n2_; have HB := n3_; clear n0_ n1_ n2_ n3_; (try clear hb); (try clear hb2); (try clear hk); (try clear hi)))
              go_ret
              exact ⟨by first | rfl | (simp [errW_none, errW_some] <;> rfl) | (simp [*, errW_none, errW_some] <;> rfl), by repeat (first | (with_reducible first | exact HB.out | apply below_alloc | apply pw_below_drewN | apply below_drew1) | exact HB.out)⟩

end Go.Proofs.Ytjniaiobnbdhhaa.PFnExactRepairCost
