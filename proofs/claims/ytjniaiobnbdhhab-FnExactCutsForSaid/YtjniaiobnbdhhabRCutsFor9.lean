/- The walks of functions that FnExactCutsFor reaches: what they return is what the plain functions of the same names say. Laid by a program of this session after the kit's print. No conditions beyond the arguments' being read. -/
import Derived.Test.YtjniaiobnbdhhabRCutsFor0
import Derived.Test.YtjniaiobnbdhhabRCutsFor4
import Derived.Test.YtjniaiobnbdhhabRCutsFor8
namespace Go.Proofs.Ytjniaiobnbdhhab.PFnExactCutsFor
open Go.RowKit Go.Proofs.YtjniaiobnbdhhabW.PrintWords Go.Proofs.YtjniaiobnbdhhabW.PrintLast Go.Proofs.YtjniaiobnbdhhabW.PrintMore
attribute [local go_sem] max2_int min2_int max_two min_two max_three min_three max_four min_four   -- for this text's walks alone
set_option linter.unusedVariables false
set_option linter.unusedSimpArgs false

namespace grid
theorem gr_okR (h : Int → Int → Bool) : ∀ r ∈ gr h, okR r := by
  have one : ∀ (t : Nat) (o : List (List Int)), t < 20 → (∀ r ∈ o, okR r) → ∀ s : Nat, s ≤ 2001 → ∀ r ∈ (grS h t o s).1, okR r := by
    intro t o ht ho s
    induction s with
    | zero => intro _ r hr; exact ho r hr
    | succ s ih =>
      intro hs r hr
      have e : grS h t o (s + 1) = grStep h t (grS h t o s) s := rfl
      rw [e] at hr
      have h2 := grS_snd h t o s
      have ih := ih (by omega)
      unfold grStep at hr
      split at hr
      · exact ih r hr
      · split at hr
        · rcases List.mem_append.1 hr with h3 | h3
          · exact ih r h3
          · rw [List.mem_singleton.1 h3]
            refine ⟨rfl, ?_, ?_, ?_, ?_, ?_, ?_⟩
            · show (0 : Int) ≤ (t : Int); omega
            · show (t : Int) < 20; omega
            · show (0 : Int) ≤ (grS h t o s).2; omega
            · show (grS h t o s).2 ≤ 2000; omega
            · show (0 : Int) ≤ (s : Int); omega
            · show (s : Int) ≤ 2000; omega
        · exact ih r hr
  have all : ∀ n, n ≤ 20 → ∀ r ∈ grT h n, okR r := by
    intro n
    induction n with
    | zero => intro _ r hr; exact absurd hr List.not_mem_nil
    | succ n ih => intro hn; exact one n _ (by omega) (ih (by omega)) 2001 (Nat.le_refl _)
  exact all 20 (Nat.le_refl _)
end grid
/-! ### impl.allAre: function 91 -/
namespace grid
set_option maxHeartbeats 8000000 in
set_option maxRecDepth 100000 in
theorem allAre.calls (g : Nat) (G : Int → Int → Bool) (op : Bool) (t a b : Int) (w : World) (hG : Grid w g G) (t0 : 0 ≤ t) (t1 : t < 20) (a0 : 0 ≤ a) (b1 : b ≤ 2000) :
    Calls Try.prog 91 #[.pointer (some ⟨g, 0, none⟩), .bool op, .int .i64 t, .int .i64 a, .int .i64 b] w fun e w' => e = .returned (.bool (allB G op t a b)) ∧ w = w' := by
  have HG := Aside0.mk hG
  have HT := Aside0.mk (show 0 ≤ t ∧ t < 20 from ⟨t0, t1⟩)
  have HAB := Aside0.mk (show 0 ≤ a ∧ b ≤ 2000 from ⟨a0, b1⟩)
  clear hG t0 t1 a0 b1
  go_enter Try.func91, Try.ntmps91
  go_wp2
  go_loopw [11] (fun v wr => ∃ m : Int, v = .int .i64 m ∧ Aside0 (a ≤ m) ∧ Aside0 (allB G op t m b = allB G op t a b) ∧ w = wr) (fun v _ => (b - intOf v).toNat)
  case atStart => exact ⟨a, rfl, ⟨Int.le_refl _⟩, ⟨rfl⟩, rfl⟩
  case round =>
    obtain ⟨m, rfl, HM, HE, rfl⟩ := hrel
    by_cases q : m < b
    · have qb : decide (m < b) = true := decide_eq_true q
      have h2 : 0 ≤ m := by have := HM.out; have := HAB.out; omega
      have h3 : m < 2000 := by have := HAB.out; omega
      obtain ⟨hgc, hgf⟩ := HG.out.cell HT.out.1 HT.out.2 h2 h3
      have HS := Aside0.mk (allB_step (G := G) (op := op) (t := t) q)
      have HQ := Aside0.mk (show 0 ≤ m ∧ m < 2000 ∧ m < b from ⟨h2, h3, q⟩)
      have h0 := eq_true HT.out.1
      have h1 := eq_true HT.out.2
      replace h2 := eq_true h2
      replace h3 := eq_true h3
      clear q hgf
      cases op with
      | true =>
        rcases hv : G t m with _ | _
        · have HV := Aside0.mk hv
          rw [hv] at hgc
          clear hv
          go_wp2
          go_ret
          refine ⟨?_, rfl⟩
          rw [← HE.out, HS.out, HV.out]
          rfl
        · have HV := Aside0.mk hv
          rw [hv] at hgc
          clear hv
          go_wp2
          go_roundw
          case rel => exact ⟨m + 1, (by first | rfl | (congr 1; have := HQ.out; unfold wrap64; omega)), ⟨by have := HM.out; omega⟩, ⟨by rw [← HE.out, HS.out, HV.out]; rfl⟩, (by first | rfl | trivial)⟩
          case measure => have := HQ.out; have hw : wrap64 (m + 1) = m + 1 := (by unfold wrap64; omega); simp [intOf, hw]; omega
      | false =>
        rcases hv : G t m with _ | _
        · have HV := Aside0.mk hv
          rw [hv] at hgc
          clear hv
          go_wp2
          go_roundw
          case rel => exact ⟨m + 1, (by first | rfl | (congr 1; have := HQ.out; unfold wrap64; omega)), ⟨by have := HM.out; omega⟩, ⟨by rw [← HE.out, HS.out, HV.out]; rfl⟩, (by first | rfl | trivial)⟩
          case measure => have := HQ.out; have hw : wrap64 (m + 1) = m + 1 := (by unfold wrap64; omega); simp [intOf, hw]; omega
        · have HV := Aside0.mk hv
          rw [hv] at hgc
          clear hv
          go_wp2
          go_ret
          refine ⟨?_, rfl⟩
          rw [← HE.out, HS.out, HV.out]
          rfl
    · have qb : decide (m < b) = false := decide_eq_false q
      have HQ := Aside0.mk q
      clear q
      go_wp2
      go_ret
      exact ⟨by rw [← HE.out, allB_stop (by have := HQ.out; omega)]; rfl, rfl⟩
end grid
/-! ### impl.joinedRanges: function 57 -/
namespace grid
/-- The elements of a row of rows, each by itself: its header, and its own row; f tells whose a block is. -/
theorem S_pool {e : Nat} {W : World} {base n cap g : Nat} {ok : Nat → Prop} {xs : List (List Int)} (h : Kd.S (Kd.slice 3 (Kd.int .i64)) e W base ok (.slice (some ⟨g, 0, none⟩) n cap) xs) :
    ∃ f : Nat → Nat, ∀ i, i < xs.length → ∃ hv, W.cell? ⟨g, i, none⟩ = some hv ∧ Kd.R (Kd.int .i64) 3 W base (fun k => k < W.heap.size ∧ k ≠ g ∧ f k = i) hv (xs.getD i []) := by
  obtain ⟨f, hR⟩ := h
  have hgo : some g = (Value.slice (some ⟨g, 0, none⟩) n cap).ownBlock := by simp [Value.ownBlock]
  obtain ⟨hok0, inner, ho, hr⟩ := hR
  refine ⟨f, fun i hi => ?_⟩
  have hM : (Kd.slice 3 (Kd.int .i64)).M W base (fun k => (ok k ∧ some k ≠ (Value.slice (some ⟨g, 0, none⟩) n cap).ownBlock) ∧ f k = i) xs[i] ((inner.drop (i * 1)).take 1) := hr.2 i (xs[i], i) (Kd.zip_at (List.getElem?_eq_getElem hi))
  obtain ⟨hv, he, hrow⟩ := hM
  have hin : inner[i]? = some hv := by
    have h1 : ((inner.drop (i * 1)).take 1)[0]? = some hv := by rw [he]; rfl
    rw [List.getElem?_take, if_pos (by omega), List.getElem?_drop] at h1
    simpa using h1
  have hc := ho.cells (g := g) hgo.symm i hv hin
  rw [add_plain] at hc
  refine ⟨hv, hc, ?_⟩
  rw [List.getD_eq_getElem?_getD, List.getElem?_eq_getElem hi]
  refine Kd.R_mono (Kd.R_bound hrow) (fun k hk => ⟨hk.2.2.1, fun e => hk.1.1.2 (by rw [e]; exact hgo), hk.1.2⟩)
end grid
/-! #### the walk -/
namespace grid
def okO (B g : Nat) (f : Nat → Nat) (i : Nat) (k : Nat) : Prop := (k < B ∧ k ≠ g ∧ f k < i) ∨ B ≤ k
def Pool (w : World) (base B g : Nat) (f : Nat → Nat) (A : Option Addr) (xs : List (List Int)) (i : Nat) : Prop :=
  ∀ j, i ≤ j → j < xs.length → A = some ⟨g, 0, none⟩ ∧ g < B ∧ ∃ hv, w.cell? ⟨g, j, none⟩ = some hv ∧ Kd.R (Kd.int .i64) 3 w base (fun k => k < B ∧ k ≠ g ∧ f k = j) hv (xs.getD j [])
theorem okO_split {B g : Nat} {f : Nat → Nat} {i k : Nat} (h : okO B g f i k) : okO B g f (i + 1) k ∧ ¬ (k < B ∧ k ≠ g ∧ f k = i) := by
  rcases h with h | h
  · exact ⟨.inl ⟨h.1, h.2.1, Nat.lt_succ_of_lt h.2.2⟩, fun h2 => by have := h.2.2; have := h2.2.2; omega⟩
  · exact ⟨.inr h, fun h2 => by have := h2.1; omega⟩
theorem cell_move {w w1 : World} {p : Addr} (h : w1.heap[p.block]? = w.heap[p.block]?) : w1.cell? p = w.cell? p := by
  simp only [World.cell?, h]
theorem Pool.step {w w1 : World} {base B g : Nat} {f : Nat → Nat} {A : Option Addr} {xs : List (List Int)} {i : Nat} (h : Pool w base B g f A xs i) (hm : ∀ k, k < B → (k ≠ g → i ≤ f k) → w1.heap[k]? = w.heap[k]?) : Pool w1 base B g f A xs i := by
  intro j hj hx
  obtain ⟨e, hg, hv, hc, hr⟩ := h j hj hx
  refine ⟨e, hg, hv, (cell_move (hm g hg (fun e => absurd rfl e))).trans hc, Kd.R_step hr (fun k hk _ => hm k hk.1 (fun _ => by rw [hk.2.2]; exact hj))⟩
theorem Pool.next {w : World} {base B g : Nat} {f : Nat → Nat} {A : Option Addr} {xs : List (List Int)} {i j : Nat} (h : Pool w base B g f A xs i) (hij : i ≤ j) : Pool w base B g f A xs j := fun q hq hx => h q (by omega) hx
theorem pool_start {W : World} {base c0 : Nat} {A0 : Option Addr} {xs : List (List Int)} (h : Kd.S (Kd.slice 3 (Kd.int .i64)) 34 W base (fun _ => True) (.slice A0 xs.length c0) xs) : ∃ g f, Pool W base W.heap.size g f A0 xs 0 := by
  rcases A0 with _ | ad
  · refine ⟨0, fun _ => 0, fun j _ hj => ?_⟩
    obtain ⟨g, cap, e, _⟩ := Kd.S_form h (by omega)
    cases e
  · obtain ⟨g, rfl⟩ := Kd.R_head (Kd.S_R h)
    obtain ⟨f, hf⟩ := S_pool h
    refine ⟨g, f, fun j _ hj => ⟨rfl, ?_, hf j hj⟩⟩
    obtain ⟨hv, hc, _⟩ := hf j hj
    exact World.block_lt_of_cell? _ _ hc
set_option maxHeartbeats 16000000 in
set_option maxRecDepth 100000 in
theorem joined.calls (b : Nat) (G : Int → Int → Bool) (op : Bool) (fixed each : Int) (v : Value) (xs : List (List Int)) (w0 w : World) (HS : Kd.S (Kd.slice 3 (Kd.int .i64)) 34 w w0.heap.size (fun _ => True) v xs) (hG : Grid w b G) (hok : ∀ x ∈ xs, okR x) (hlen : xs.length ≤ 100000) (hB : Below w0.heap.size w0 w) :
    Calls Try.prog 57 #[v, .pointer (some ⟨b, 0, none⟩), .bool op, .int .i64 fixed, .int .i64 each] w fun e w' => ∃ v0_ : Value, e = .returned (.tuple #[v0_, .int .i64 (jrCost fixed each (jr G op fixed each xs))]) ∧ Kd.S (Kd.slice 3 (Kd.int .i64)) 34 w' w0.heap.size (fun _ => True) v0_ (jr G op fixed each xs) ∧ Below w0.heap.size w0 w' := by
  obtain ⟨A0, c0, rfl⟩ := Kd.S_slice HS
  obtain ⟨g, f, hpool⟩ := pool_start HS
  have HP := Aside0.mk hpool
  have HG := Aside0.mk hG
  have HOK := Aside0.mk hok
  have HL := Aside0.mk hlen
  have HB := Aside0.mk hB
  have HGL := Aside0.mk hG.lt
  obtain ⟨Bs, hBs⟩ : ∃ Bs, Bs = w.heap.size := ⟨_, rfl⟩
  rw [← hBs] at HP HGL
  have HBS := Aside0.mk hBs
  clear hG hok hlen hB HS hpool hBs
  go_enter Try.func57, Try.ntmps57
  go_wp2_with (first | ((with_reducible refine gate_dst (N := 19) rfl ?_); refine Kd.S_lit (Kd.slice 3 (Kd.int .i64)) (w0 := w0) w0.heap.size 34 rfl (N := 19) rfl (xs := []) (inner := []) (ok := okO Bs g f 0) (okp := fun _ => False) ?hr (Reps.none _ _) (fun _ hk => hk.elim) (.inr (by rw [HBS.out]; exact Nat.le_refl _)) HB.out (below_size HB.out) (by simp) ?_; (case hr => first | (go_simp; done) | (go_simp; rfl)); intro v0_ w1 ho hb hg_ hnew_; have HO := Aside0.mk ho; have n0_ := Aside0.mk (HP.out.step (w1 := w1) (fun k hk _ => hg_.block k (by rw [← HBS.out]; exact hk) (by simp))); have n1_ := Aside0.mk (HG.out.move (hg_.block b HG.out.lt (by simp))); have n2_ := Aside0.mk (show Bs ≤ w1.heap.size from by rw [HBS.out]; exact hg_.size); clear HB HP HG; have HB := Aside0.mk hb; have HP := n0_; have HG := n1_; have HSZ := n2_; clear n0_ n1_ n2_; clear ho hb hg_ hnew_))
  go_loopw [12, 22] (fun v12 v22 wr => ∃ (i : Int) (o : List (List Int)), Aside0 (0 ≤ i ∧ i ≤ xs.length) ∧ v22 = .int .i64 i ∧ Aside0 (o = jr G op fixed each (xs.take i.toNat)) ∧ Aside0 (Kd.S (Kd.slice 3 (Kd.int .i64)) 34 wr w0.heap.size (okO Bs g f i.toNat) v12 o) ∧ Aside0 (Pool wr w0.heap.size Bs g f A0 xs i.toNat) ∧ Aside0 (Grid wr b G) ∧ Aside0 (Bs ≤ wr.heap.size) ∧ Aside0 (Below w0.heap.size w0 wr)) (fun _ v22 _ => ((xs.length : Int) - intOf v22).toNat)
  case atStart => exact ⟨0, [], ⟨by omega⟩, rfl, ⟨rfl⟩, HO, HP, HG, HSZ, HB⟩
  case round =>
    clear HO HP HG HSZ HB
    obtain ⟨i, o, HI, rfl, HJ, HO, HP, HG, HSZ, HB⟩ := hrel
    by_cases q : i < (xs.length : Int)
    · have p : 0 ≤ i := HI.out.1
      have hlt : i.toNat < xs.length := by omega
      have HIL := Aside0.mk (show 0 ≤ i ∧ i < xs.length from ⟨p, q⟩)
      obtain ⟨rfl, hgB, hv, hcv, hrow⟩ := HP.out i.toNat (Nat.le_refl _) hlt
      have hxi : xs[i.toNat]? = some (xs.getD i.toNat []) := by rw [List.getD_eq_getElem?_getD, List.getElem?_eq_getElem hlt]; rfl
      obtain ⟨x, hx⟩ : ∃ x, x = xs.getD i.toNat [] := ⟨_, rfl⟩
      rw [← hx] at hrow hxi
      have HX := Aside0.mk hxi
      have HXR := Aside0.mk (HOK.out x (List.mem_of_getElem? hxi))
      have hxl := HXR.out.1
      obtain ⟨gr, cr, eo, gb, gl, cl⟩ := Kd.R_form hrow (by omega)
      subst eo
      rw [hxl] at hrow hcv
      have HR := Aside0.mk hrow
      have hr0 : wr.cell? ⟨gr, 0, none⟩ = some (.int .i64 (rd x 0)) := (Kd.R_celln 0 hrow 0 (by omega) (by omega)).1
      have hr1 : wr.cell? ⟨gr, 1, none⟩ = some (.int .i64 (rd x 1)) := (Kd.R_celln 0 hrow 1 (by omega) (by omega)).1
      have hr2 : wr.cell? ⟨gr, 2, none⟩ = some (.int .i64 (rd x 2)) := (Kd.R_celln 0 hrow 2 (by omega) (by omega)).1
      have HGB := Aside0.mk hgB
      obtain ⟨Ao, co, eo⟩ := Kd.S_slice HO.out
      subst eo
      have HOL := Aside0.mk (show o.length ≤ 100000 from by
        have h1 := (jr_ok (G := G) (op := op) (fixed := fixed) (each := each) (xs.take i.toNat) (fun y hy => HOK.out y (List.mem_of_mem_take hy))).2
        rw [← HJ.out, List.length_take] at h1
        have := HL.out
        omega)
      clear gb gl cl hrow hgB hlt hxi hx hxl
      have qb : decide (i < (xs.length : Int)) = true := decide_eq_true q
      replace p := eq_true p
      replace q := eq_true q
      have HN := Aside0.mk (show ∀ k, k < Bs → (k ≠ g → i.toNat ≤ f k) → some k ≠ (Value.slice Ao o.length co).ownBlock from fun k hk hf e => by
        rcases (Kd.S_R HO.out).1 k e.symm with h | h
        · have := hf h.2.1; have := h.2.2; omega
        · omega)
      have HNB := Aside0.mk (show some b ≠ (Value.slice Ao o.length co).ownBlock from by
        obtain ⟨cs, hcs⟩ := HG.out.block
        exact Kd.S_ne HO.out hcs (by decide))
      by_cases ho0 : o.length = 0
      · have hg1 : decide (0 ≤ wrap64 ((o.length : Int) - 1)) = false := decide_eq_false (by rw [ho0]; unfold wrap64; omega)
        have HO0 := Aside0.mk ho0
        clear ho0
        skip
        go_wp2
        iterate 2 ((try go_quiet (fail)); (try go_wp2_with (first | ((with_reducible refine gate_builtin (b := .append) (xs := #[.tmp 84, .tmp 86]) rfl ?_); at_builtin; refine Kd.S_append (Kd.slice 3 (Kd.int .i64)) (w0 := w0) w0.heap.size rfl (.tmp 84) (.tmp 86) 24 34 (.slice none 0 0) 24 rfl Try.underlying24 info34 rfl (by decide) (by omega) (.slice Ao o.length co) o x [.slice (some ⟨gr, 0, none⟩) 3 cr] (okO Bs g f (i.toNat + 1)) (fun k => k < Bs ∧ k ≠ g ∧ f k = i.toNat) rfl rfl ?aP (fun k hk => ⟨.inl ⟨hk.1, hk.2.1, by have := hk.2.2; omega⟩, fun e => HN.out k hk.1 (fun _ => by have := hk.2.2; omega) e⟩) ?aF ?aO ?aB ?aS ?aL ?_; (case aP => exact Kd.M_row (by (with_reducible repeat (first | apply Kd.R_alloc | apply Kd.R_drewN | apply Kd.R_drew)); exact HR.out)); (case aF => exact fun k hk => .inr (Nat.le_trans HSZ.out hk)); (case aO => exact Kd.S_mono (ok := okO Bs g f i.toNat) (by (with_reducible repeat (first | apply Kd.S_alloc | apply Kd.S_drewN | apply Kd.S_drew)); exact HO.out) (fun k hk => okO_split hk)); (case aB => exact (by repeat (first | exact HB.out | apply below_alloc | apply pw_below_drewN | apply below_drew1))); (case aS => exact below_size (by repeat (first | exact HB.out | apply below_alloc | apply pw_below_drewN | apply below_drew1))); (case aL => have := HOL.out; omega); intro v1_ w6 ho hb hg_ hat; have n0_ := Aside0.mk (show Pool w6 w0.heap.size Bs g f (some ⟨g, 0, none⟩) xs (i.toNat + 1) from (HP.out.next (Nat.le_succ _)).step (fun k hk hf => hg_.block k (Nat.lt_of_lt_of_le hk HSZ.out) (fun e => HN.out k hk (fun h => by have := hf h; omega) e))); have n1_ := Aside0.mk (HG.out.move (hg_.block b HG.out.lt HNB.out)); have n2_ := Aside0.mk (Nat.le_trans HSZ.out hg_.size); clear HB HO HP HG HSZ; have HB := Aside0.mk hb; have HO := Aside0.mk ho; have HP := n0_; have HG := n1_; have HSZ := n2_; clear n0_ n1_ n2_ hat hb ho hg_))))
        go_roundw
        case rel => exact ⟨i + 1, o ++ [x], ⟨by have := HIL.out; omega⟩, (by first | rfl | (congr 1; have := HIL.out; have := HL.out; unfold wrap64; omega)), ⟨by have h0 := HIL.out.1; rw [show (i + 1).toNat = i.toNat + 1 by omega, List.take_add_one, HX.out]; show _ = jr G op fixed each (xs.take i.toNat ++ [x]); rw [jr_snoc, ← HJ.out]; unfold jrStep; rw [if_neg (fun h => by have := HO0.out; omega)]⟩, ⟨by have h0 := HIL.out.1; rw [show (i + 1).toNat = i.toNat + 1 by omega]; exact HO.out⟩, ⟨by have h0 := HIL.out.1; rw [show (i + 1).toNat = i.toNat + 1 by omega]; exact HP.out⟩, HG, HSZ, HB⟩
        case measure => have h1 := HIL.out; have h2 := HL.out; have hw : wrap64 (i + 1) = i + 1 := (by unfold wrap64; omega); simp [intOf, hw]; omega
      · have hL : wrap64 ((o.length : Int) - 1) = (o.length : Int) - 1 := by have := HOL.out; unfold wrap64; omega
        obtain ⟨go, co', eo, _⟩ := Kd.S_form HO.out (by omega)
        cases eo
        have p1 : 0 ≤ wrap64 ((o.length : Int) - 1) := by omega
        have q1 : wrap64 ((o.length : Int) - 1) < (o.length : Int) := by omega
        obtain ⟨oki, c, hcl, hM, hcc, hoki, hback⟩ := Kd.S_borrow HO.out [] (wrap64 ((o.length : Int) - 1)) p1 q1
        have hy : o.getD (wrap64 ((o.length : Int) - 1)).toNat [] = jrY o := by unfold jrY; congr 1; omega
        rw [hy] at hM
        have HYR := Aside0.mk (show okR (jrY o) from (jr_ok (xs.take i.toNat) (fun y hy => HOK.out y (List.mem_of_mem_take hy))).1 _ (by
          rw [← HJ.out]
          unfold jrY
          rw [List.getD_eq_getElem?_getD, List.getElem?_eq_getElem (by omega)]
          exact List.getElem_mem _))
        have hyl := HYR.out.1
        obtain ⟨hv', ec, hrowy⟩ := hM
        have hcy := hcc 0 hv' (by rw [ec]; rfl)
        rw [add_plain, show (wrap64 ((o.length : Int) - 1)).toNat * (Kd.slice 3 (Kd.int .i64)).sz + 0 = (wrap64 ((o.length : Int) - 1)).toNat from by rw [show (Kd.slice 3 (Kd.int .i64)).sz = 1 from rfl]; omega] at hcy
        obtain ⟨gy, cy, ey, gyb, gyl, cyl⟩ := Kd.R_form hrowy (by omega)
        subst ey
        rw [hyl] at hrowy hcy ec
        have hy0 : wr.cell? ⟨gy, 0, none⟩ = some (.int .i64 (rd (jrY o) 0)) := (Kd.R_celln 0 hrowy 0 (by omega) (by omega)).1
        have hy1 : wr.cell? ⟨gy, 1, none⟩ = some (.int .i64 (rd (jrY o) 1)) := (Kd.R_celln 0 hrowy 1 (by omega) (by omega)).1
        have hy2 : wr.cell? ⟨gy, 2, none⟩ = some (.int .i64 (rd (jrY o) 2)) := (Kd.R_celln 0 hrowy 2 (by omega) (by omega)).1
        have hyf : wr.frozen? ⟨gy, 2, none⟩ = false := (Kd.R_celln 0 hrowy 2 (by omega) (by omega)).2
        have HYY := Aside0.mk hrowy
        have HGY := Aside0.mk gyb
        have HBK := Aside0.mk @hback
        have HLL := Aside0.mk (show (wrap64 ((o.length : Int) - 1)).toNat = o.length - 1 from by omega)
        have HGI := Aside0.mk (show oki gy from hrowy.1 gy (by simp [Value.ownBlock]))
        have HEC := Aside0.mk ec
        have HNY := Aside0.mk (show ∀ k, k < Bs → (k ≠ g → i.toNat ≤ f k) → some k ≠ some gy from fun k hk hf e => by
          cases e
          rcases (hoki gy HGI.out).1 with h | h
          · have := hf h.2.1; have := h.2.2; omega
          · omega)
        have HNC := Aside0.mk (show some b ≠ some gy from by
          obtain ⟨cs, hcs⟩ := HG.out.block
          exact Kd.R_ne hrowy hcs (by decide))
        have HO0 := Aside0.mk (show 0 < o.length by omega)
        have hg1 : decide (0 ≤ wrap64 ((o.length : Int) - 1)) = true := decide_eq_true p1
        replace p1 := eq_true p1
        replace q1 := eq_true q1
        clear ho0 hL hcl hcc hoki hback hy hyl hrowy gyb gyl cyl ec
        by_cases hc1 : rd (jrY o) 0 = rd x 0
        · have hd1 : decide (rd (jrY o) 0 = rd x 0) = true := decide_eq_true hc1
          have hd1' : (rd (jrY o) 0 == rd x 0) = true := beq_iff_eq.2 hc1
          by_cases hc2 : wrap64 (wrap64 (rd x 1 - rd (jrY o) 2) * each) < fixed
          · have hd2 : decide (wrap64 (wrap64 (rd x 1 - rd (jrY o) 2) * each) < fixed) = true := decide_eq_true hc2
            rcases hal : allB G op (rd x 0) (rd (jrY o) 2) (rd x 1) with _ | _
            · have HAL := Aside0.mk hal
              have HNJ := Aside0.mk (show ¬ (0 < o.length ∧ jrJoins G op fixed each (jrY o) x) from fun h => by rw [h.2.2.2] at hal; cases hal)
              clear hc1 hc2 hal
              go_wp2
              iterate 2 ((try go_quiet (first | (go_at_call 91; refine (allAre.calls b G op (rd x 0) (rd (jrY o) 2) (rd x 1) _ (by first | exact HG.out | exact HG.out.move rfl | exact HG.out.move (by simp)) HXR.out.2.1 HXR.out.2.2.1 HYR.out.2.2.2.2.2.1 HXR.out.2.2.2.2.1).mono ?_; rintro e w_ ⟨rfl, rfl⟩; exact ⟨congrArg (fun z => Ending.returned (.bool z)) HAL.out, _, rfl⟩))); (try go_wp2_with (first | ((with_reducible refine gate_builtin (b := .append) (xs := #[.tmp 84, .tmp 86]) rfl ?_); at_builtin; refine Kd.S_append (Kd.slice 3 (Kd.int .i64)) (w0 := w0) w0.heap.size rfl (.tmp 84) (.tmp 86) 24 34 (.slice none 0 0) 24 rfl Try.underlying24 info34 rfl (by decide) (by omega) (.slice (some ⟨go, 0, none⟩) o.length co) o x [.slice (some ⟨gr, 0, none⟩) 3 cr] (okO Bs g f (i.toNat + 1)) (fun k => k < Bs ∧ k ≠ g ∧ f k = i.toNat) rfl rfl ?aP (fun k hk => ⟨.inl ⟨hk.1, hk.2.1, by have := hk.2.2; omega⟩, fun e => HN.out k hk.1 (fun _ => by have := hk.2.2; omega) e⟩) ?aF ?aO ?aB ?aS ?aL ?_; (case aP => exact Kd.M_row (by (with_reducible repeat (first | apply Kd.R_alloc | apply Kd.R_drewN | apply Kd.R_drew)); exact HR.out)); (case aF => exact fun k hk => .inr (Nat.le_trans HSZ.out hk)); (case aO => exact Kd.S_mono (ok := okO Bs g f i.toNat) (by (with_reducible repeat (first | apply Kd.S_alloc | apply Kd.S_drewN | apply Kd.S_drew)); exact HO.out) (fun k hk => okO_split hk)); (case aB => exact (by repeat (first | exact HB.out | apply below_alloc | apply pw_below_drewN | apply below_drew1))); (case aS => exact below_size (by repeat (first | exact HB.out | apply below_alloc | apply pw_below_drewN | apply below_drew1))); (case aL => have := HOL.out; omega); intro v1_ w6 ho hb hg_ hat; have n0_ := Aside0.mk (show Pool w6 w0.heap.size Bs g f (some ⟨g, 0, none⟩) xs (i.toNat + 1) from (HP.out.next (Nat.le_succ _)).step (fun k hk hf => hg_.block k (Nat.lt_of_lt_of_le hk HSZ.out) (fun e => HN.out k hk (fun h => by have := hf h; omega) e))); have n1_ := Aside0.mk (HG.out.move (hg_.block b HG.out.lt HNB.out)); have n2_ := Aside0.mk (Nat.le_trans HSZ.out hg_.size); clear HB HO HP HG HSZ; have HB := Aside0.mk hb; have HO := Aside0.mk ho; have HP := n0_; have HG := n1_; have HSZ := n2_; clear n0_ n1_ n2_ hat hb ho hg_))))
              go_roundw
              case rel => exact ⟨i + 1, o ++ [x], ⟨by have := HIL.out; omega⟩, (by first | rfl | (congr 1; have := HIL.out; have := HL.out; unfold wrap64; omega)), ⟨by have h0 := HIL.out.1; rw [show (i + 1).toNat = i.toNat + 1 by omega, List.take_add_one, HX.out]; show _ = jr G op fixed each (xs.take i.toNat ++ [x]); rw [jr_snoc, ← HJ.out]; unfold jrStep; rw [if_neg HNJ.out]⟩, ⟨by have h0 := HIL.out.1; rw [show (i + 1).toNat = i.toNat + 1 by omega]; exact HO.out⟩, ⟨by have h0 := HIL.out.1; rw [show (i + 1).toNat = i.toNat + 1 by omega]; exact HP.out⟩, HG, HSZ, HB⟩
              case measure => have h1 := HIL.out; have h2 := HL.out; have hw : wrap64 (i + 1) = i + 1 := (by unfold wrap64; omega); simp [intOf, hw]; omega
            · have HAL := Aside0.mk hal
              have HJJ := Aside0.mk (show 0 < o.length ∧ jrJoins G op fixed each (jrY o) x from ⟨HO0.out, hc1, hc2, hal⟩)
              clear hc1 hc2 hal
              go_wp2
              go_quiet (first | (go_at_call 91; refine (allAre.calls b G op (rd x 0) (rd (jrY o) 2) (rd x 1) _ (by first | exact HG.out | exact HG.out.move rfl | exact HG.out.move (by simp)) HXR.out.2.1 HXR.out.2.2.1 HYR.out.2.2.2.2.2.1 HXR.out.2.2.2.2.1).mono ?_; rintro e w_ ⟨rfl, rfl⟩; exact ⟨congrArg (fun z => Ending.returned (.bool z)) HAL.out, _, rfl⟩))
              go_wp2
              go_region
              have HPU := Aside0.mk (Kd.R_putg (Kd.R_drewN HYY.out (nq + 1)) 2 (rd x 2))
              have HGW := Aside0.mk (show wr.grownBy ((wr.drewN (nq + 1)).setCell ⟨gy, 2, none⟩ (.int .i64 (rd x 2))) (some gy) from ⟨HPU.out.2.os, HPU.out.2.tape, HPU.out.2.output, HPU.out.2.size, HPU.out.2.block⟩)
              have HO2 := Aside0.mk (HBK.out (w1 := (wr.drewN (nq + 1)).setCell ⟨gy, 2, none⟩ (.int .i64 (rd x 2))) HGW.out (fun k hk => by cases hk; exact HGI.out) (x' := (jrY o).set 2 (rd x 2)) ⟨_, HEC.out, HPU.out.1⟩)
              have HP2 := Aside0.mk ((HP.out.next (Nat.le_succ i.toNat)).step (w1 := (wr.drewN (nq + 1)).setCell ⟨gy, 2, none⟩ (.int .i64 (rd x 2))) (fun k hk hf => HGW.out.block k (Nat.lt_of_lt_of_le hk HSZ.out) (HNY.out k hk (fun h => by have := hf h; omega))))
              have HG2 := Aside0.mk (HG.out.move (w1 := (wr.drewN (nq + 1)).setCell ⟨gy, 2, none⟩ (.int .i64 (rd x 2))) (HGW.out.block b (Nat.lt_of_lt_of_le HGL.out HSZ.out) HNC.out))
              have HSZ2 := Aside0.mk (Nat.le_trans HSZ.out HGW.out.size)
              have HB2 := Aside0.mk (show Below w0.heap.size w0 ((wr.drewN (nq + 1)).setCell ⟨gy, 2, none⟩ (.int .i64 (rd x 2))) from below_set (pw_below_drewN HB.out (nq + 1)) HGY.out)
              clear HPU HGW
              obtain ⟨w6, hw6⟩ : ∃ w6, w6 = (wr.drewN (nq + 1)).setCell ⟨gy, 2, none⟩ (.int .i64 (rd x 2)) := ⟨_, rfl⟩
              rw [← hw6] at HO2 HP2 HG2 HSZ2 HB2 ⊢
              clear hw6 HO HP HG HSZ HB HBK HYY HEC hcv hr0 hr1 hr2 hcy hy0 hy1 hy2 hyf HR
              go_wp2
              go_roundw
              case rel => exact ⟨i + 1, o.set (o.length - 1) ((jrY o).set 2 (rd x 2)), ⟨by have := HIL.out; omega⟩, (by first | rfl | (congr 1; have := HIL.out; have := HL.out; unfold wrap64; omega)), ⟨by have h0 := HIL.out.1; rw [show (i + 1).toNat = i.toNat + 1 by omega, List.take_add_one, HX.out]; show _ = jr G op fixed each (xs.take i.toNat ++ [x]); rw [jr_snoc, ← HJ.out]; unfold jrStep; rw [if_pos HJJ.out]⟩, ⟨by have h0 := HIL.out.1; rw [show (i + 1).toNat = i.toNat + 1 by omega]; have := HO2.out; rw [HLL.out] at this; exact Kd.S_mono this (fun k hk => (okO_split hk).1)⟩, ⟨by have h0 := HIL.out.1; rw [show (i + 1).toNat = i.toNat + 1 by omega]; exact HP2.out⟩, HG2, HSZ2, HB2⟩
              case measure => have h1 := HIL.out; have h2 := HL.out; have hw : wrap64 (i + 1) = i + 1 := (by unfold wrap64; omega); simp [intOf, hw]; omega
          · have hd2 : decide (wrap64 (wrap64 (rd x 1 - rd (jrY o) 2) * each) < fixed) = false := decide_eq_false hc2
            have HNJ := Aside0.mk (show ¬ (0 < o.length ∧ jrJoins G op fixed each (jrY o) x) from fun h => hc2 h.2.2.1)
            clear hc1 hc2
            go_wp2
            iterate 2 ((try go_quiet (fail)); (try go_wp2_with (first | ((with_reducible refine gate_builtin (b := .append) (xs := #[.tmp 84, .tmp 86]) rfl ?_); at_builtin; refine Kd.S_append (Kd.slice 3 (Kd.int .i64)) (w0 := w0) w0.heap.size rfl (.tmp 84) (.tmp 86) 24 34 (.slice none 0 0) 24 rfl Try.underlying24 info34 rfl (by decide) (by omega) (.slice (some ⟨go, 0, none⟩) o.length co) o x [.slice (some ⟨gr, 0, none⟩) 3 cr] (okO Bs g f (i.toNat + 1)) (fun k => k < Bs ∧ k ≠ g ∧ f k = i.toNat) rfl rfl ?aP (fun k hk => ⟨.inl ⟨hk.1, hk.2.1, by have := hk.2.2; omega⟩, fun e => HN.out k hk.1 (fun _ => by have := hk.2.2; omega) e⟩) ?aF ?aO ?aB ?aS ?aL ?_; (case aP => exact Kd.M_row (by (with_reducible repeat (first | apply Kd.R_alloc | apply Kd.R_drewN | apply Kd.R_drew)); exact HR.out)); (case aF => exact fun k hk => .inr (Nat.le_trans HSZ.out hk)); (case aO => exact Kd.S_mono (ok := okO Bs g f i.toNat) (by (with_reducible repeat (first | apply Kd.S_alloc | apply Kd.S_drewN | apply Kd.S_drew)); exact HO.out) (fun k hk => okO_split hk)); (case aB => exact (by repeat (first | exact HB.out | apply below_alloc | apply pw_below_drewN | apply below_drew1))); (case aS => exact below_size (by repeat (first | exact HB.out | apply below_alloc | apply pw_below_drewN | apply below_drew1))); (case aL => have := HOL.out; omega); intro v1_ w6 ho hb hg_ hat; have n0_ := Aside0.mk (show Pool w6 w0.heap.size Bs g f (some ⟨g, 0, none⟩) xs (i.toNat + 1) from (HP.out.next (Nat.le_succ _)).step (fun k hk hf => hg_.block k (Nat.lt_of_lt_of_le hk HSZ.out) (fun e => HN.out k hk (fun h => by have := hf h; omega) e))); have n1_ := Aside0.mk (HG.out.move (hg_.block b HG.out.lt HNB.out)); have n2_ := Aside0.mk (Nat.le_trans HSZ.out hg_.size); clear HB HO HP HG HSZ; have HB := Aside0.mk hb; have HO := Aside0.mk ho; have HP := n0_; have HG := n1_; have HSZ := n2_; clear n0_ n1_ n2_ hat hb ho hg_))))
            go_roundw
            case rel => exact ⟨i + 1, o ++ [x], ⟨by have := HIL.out; omega⟩, (by first | rfl | (congr 1; have := HIL.out; have := HL.out; unfold wrap64; omega)), ⟨by have h0 := HIL.out.1; rw [show (i + 1).toNat = i.toNat + 1 by omega, List.take_add_one, HX.out]; show _ = jr G op fixed each (xs.take i.toNat ++ [x]); rw [jr_snoc, ← HJ.out]; unfold jrStep; rw [if_neg HNJ.out]⟩, ⟨by have h0 := HIL.out.1; rw [show (i + 1).toNat = i.toNat + 1 by omega]; exact HO.out⟩, ⟨by have h0 := HIL.out.1; rw [show (i + 1).toNat = i.toNat + 1 by omega]; exact HP.out⟩, HG, HSZ, HB⟩
            case measure => have h1 := HIL.out; have h2 := HL.out; have hw : wrap64 (i + 1) = i + 1 := (by unfold wrap64; omega); simp [intOf, hw]; omega
        · have hd1 : decide (rd (jrY o) 0 = rd x 0) = false := decide_eq_false hc1
          have hd1' : (rd (jrY o) 0 == rd x 0) = false := beq_eq_false_iff_ne.2 hc1
          have HNJ := Aside0.mk (show ¬ (0 < o.length ∧ jrJoins G op fixed each (jrY o) x) from fun h => hc1 h.2.1)
          clear hc1
          go_wp2
          iterate 2 ((try go_quiet (fail)); (try go_wp2_with (first | ((with_reducible refine gate_builtin (b := .append) (xs := #[.tmp 84, .tmp 86]) rfl ?_); at_builtin; refine Kd.S_append (Kd.slice 3 (Kd.int .i64)) (w0 := w0) w0.heap.size rfl (.tmp 84) (.tmp 86) 24 34 (.slice none 0 0) 24 rfl Try.underlying24 info34 rfl (by decide) (by omega) (.slice (some ⟨go, 0, none⟩) o.length co) o x [.slice (some ⟨gr, 0, none⟩) 3 cr] (okO Bs g f (i.toNat + 1)) (fun k => k < Bs ∧ k ≠ g ∧ f k = i.toNat) rfl rfl ?aP (fun k hk => ⟨.inl ⟨hk.1, hk.2.1, by have := hk.2.2; omega⟩, fun e => HN.out k hk.1 (fun _ => by have := hk.2.2; omega) e⟩) ?aF ?aO ?aB ?aS ?aL ?_; (case aP => exact Kd.M_row (by (with_reducible repeat (first | apply Kd.R_alloc | apply Kd.R_drewN | apply Kd.R_drew)); exact HR.out)); (case aF => exact fun k hk => .inr (Nat.le_trans HSZ.out hk)); (case aO => exact Kd.S_mono (ok := okO Bs g f i.toNat) (by (with_reducible repeat (first | apply Kd.S_alloc | apply Kd.S_drewN | apply Kd.S_drew)); exact HO.out) (fun k hk => okO_split hk)); (case aB => exact (by repeat (first | exact HB.out | apply below_alloc | apply pw_below_drewN | apply below_drew1))); (case aS => exact below_size (by repeat (first | exact HB.out | apply below_alloc | apply pw_below_drewN | apply below_drew1))); (case aL => have := HOL.out; omega); intro v1_ w6 ho hb hg_ hat; have n0_ := Aside0.mk (show Pool w6 w0.heap.size Bs g f (some ⟨g, 0, none⟩) xs (i.toNat + 1) from (HP.out.next (Nat.le_succ _)).step (fun k hk hf => hg_.block k (Nat.lt_of_lt_of_le hk HSZ.out) (fun e => HN.out k hk (fun h => by have := hf h; omega) e))); have n1_ := Aside0.mk (HG.out.move (hg_.block b HG.out.lt HNB.out)); have n2_ := Aside0.mk (Nat.le_trans HSZ.out hg_.size); clear HB HO HP HG HSZ; have HB := Aside0.mk hb; have HO := Aside0.mk ho; have HP := n0_; have HG := n1_; have HSZ := n2_; clear n0_ n1_ n2_ hat hb ho hg_))))
          go_roundw
          case rel => exact ⟨i + 1, o ++ [x], ⟨by have := HIL.out; omega⟩, (by first | rfl | (congr 1; have := HIL.out; have := HL.out; unfold wrap64; omega)), ⟨by have h0 := HIL.out.1; rw [show (i + 1).toNat = i.toNat + 1 by omega, List.take_add_one, HX.out]; show _ = jr G op fixed each (xs.take i.toNat ++ [x]); rw [jr_snoc, ← HJ.out]; unfold jrStep; rw [if_neg HNJ.out]⟩, ⟨by have h0 := HIL.out.1; rw [show (i + 1).toNat = i.toNat + 1 by omega]; exact HO.out⟩, ⟨by have h0 := HIL.out.1; rw [show (i + 1).toNat = i.toNat + 1 by omega]; exact HP.out⟩, HG, HSZ, HB⟩
          case measure => have h1 := HIL.out; have h2 := HL.out; have hw : wrap64 (i + 1) = i + 1 := (by unfold wrap64; omega); simp [intOf, hw]; omega
    · have qb : decide (i < (xs.length : Int)) = false := decide_eq_false q
      have hJ : o = jr G op fixed each xs := by
        have h1 := HI.out
        have h2 := HJ.out
        rw [show i.toNat = xs.length by omega, List.take_length] at h2
        exact h2
      obtain ⟨Ao, co, eo⟩ := Kd.S_slice HO.out
      subst eo
      have HO := Aside0.mk (Kd.S_mono (ok' := fun _ => True) HO.out (fun _ _ => trivial))
      have hok2 := jr_ok (G := G) (op := op) (fixed := fixed) (each := each) xs HOK.out
      rw [← hJ] at hok2
      have HOK2 := Aside0.mk hok2.1
      have HOL := Aside0.mk (Nat.le_trans hok2.2 HL.out)
      have HJ2 := Aside0.mk hJ
      clear q hJ HP HG HSZ HJ hok2 HI
      go_wp2
      go_loopw [16, 91] (fun v16 v91 wq => ∃ m c : Int, Aside0 (0 ≤ m ∧ m ≤ o.length) ∧ v16 = .int .i64 c ∧ v91 = .int .i64 m ∧ Aside0 (c = jrCost fixed each (o.take m.toNat)) ∧ Aside0 (Kd.S (Kd.slice 3 (Kd.int .i64)) 34 wq w0.heap.size (fun _ => True) (.slice Ao o.length co) o) ∧ Aside0 (Below w0.heap.size w0 wq)) (fun _ v91 _ => ((o.length : Int) - intOf v91).toNat)
      case atStart => exact ⟨0, 0, ⟨by omega⟩, rfl, rfl, ⟨rfl⟩, HO, HB⟩
      case round =>
        clear HO HB
        obtain ⟨m, c, HM, rfl, rfl, HC, HO, HB⟩ := hrel
        by_cases q : m < (o.length : Int)
        · have p : 0 ≤ m := HM.out.1
          have HML := Aside0.mk (show 0 ≤ m ∧ m < o.length from ⟨p, q⟩)
          have hlt : m.toNat < o.length := by omega
          obtain ⟨go, co', eo, _⟩ := Kd.S_form HO.out (by omega)
          cases eo
          obtain ⟨oki, c1, hcl, hM, hcc, hoki, hback⟩ := Kd.S_borrow HO.out [] m p q
          have hy : o[m.toNat]? = some (o.getD m.toNat []) := by rw [List.getD_eq_getElem?_getD, List.getElem?_eq_getElem hlt]; rfl
          obtain ⟨y, ey⟩ : ∃ y, y = o.getD m.toNat [] := ⟨_, rfl⟩
          rw [← ey] at hM hy
          have HY := Aside0.mk hy
          have hyl := (HOK2.out y (List.mem_of_getElem? hy)).1
          obtain ⟨hv', ec, hrowy⟩ := hM
          have hcy := hcc 0 hv' (by rw [ec]; rfl)
          rw [add_plain, show m.toNat * (Kd.slice 3 (Kd.int .i64)).sz + 0 = m.toNat from by rw [show (Kd.slice 3 (Kd.int .i64)).sz = 1 from rfl]; omega] at hcy
          obtain ⟨gy, cy, ey', gyb, gyl, cyl⟩ := Kd.R_form hrowy (by omega)
          subst ey'
          rw [hyl] at hrowy hcy
          have hy1 : wr.cell? ⟨gy, 1, none⟩ = some (.int .i64 (rd y 1)) := (Kd.R_celln 0 hrowy 1 (by omega) (by omega)).1
          have hy2 : wr.cell? ⟨gy, 2, none⟩ = some (.int .i64 (rd y 2)) := (Kd.R_celln 0 hrowy 2 (by omega) (by omega)).1
          have qb : decide (m < (o.length : Int)) = true := decide_eq_true q
          replace p := eq_true p
          replace q := eq_true q
          clear hcl hcc hoki hback hy hyl hrowy gyb gyl cyl ec hlt ey
          go_wp2
          go_quiet (fail)
          go_wp2
          go_roundw
          case rel => exact ⟨m + 1, jrOne fixed each c y, ⟨by have := HML.out; omega⟩, rfl, (by first | rfl | (congr 1; have := HML.out; have := HOL.out; unfold wrap64; omega)), ⟨by have h0 := HML.out.1; rw [show (m + 1).toNat = m.toNat + 1 by omega, List.take_add_one, HY.out]; show _ = jrCost fixed each (o.take m.toNat ++ [y]); unfold jrCost; rw [List.foldl_append]; show _ = jrOne fixed each (jrCost fixed each (o.take m.toNat)) y; rw [← HC.out]⟩, ⟨by first | exact HO.out | exact Kd.S_drewN HO.out _⟩, ⟨by first | exact HB.out | exact pw_below_drewN HB.out _⟩⟩
          case measure => have h1 := HML.out; have h2 := HOL.out; have hw : wrap64 (m + 1) = m + 1 := (by unfold wrap64; omega); simp [intOf, hw]; omega
        · have qb : decide (m < (o.length : Int)) = false := decide_eq_false q
          have HE := Aside0.mk (show jrCost fixed each (jr G op fixed each xs) = c from by
            have h1 := HM.out
            rw [HC.out, show m.toNat = o.length by omega, List.take_length, ← HJ2.out])
          clear q
          go_wp2
          go_ret2
          rw [HE.out, ← HJ2.out]
          exact ⟨_, rfl, HO.out, HB.out⟩
end grid
/-! ### impl.CutsFor: function 14 -/
def impl_CutsFor.f (k : Nat) (l0 : List (S80)) (l1 : List (S80)) (a2 : Int) (a3 : Int) : Option (List (List Int) × Int × Bool) := (impl_canRepair.f k l0 l1 a2 a3).bind fun q => if q = true then ((impl_mustChange.f l1 l0).bind fun xs => if xs.length ≤ 100000 ∧ l1.all grid.okHB = true then some (grid.jr (grid.openAt l1) true a2 a3 xs, grid.jrCost a2 a3 (grid.jr (grid.openAt l1) true a2 a3 xs), true) else none) else some ([], 0, false)
theorem impl_CutsFor.mono : ∀ a0 a1 a2 a3 k, LeO (impl_CutsFor.f k a0 a1 a2 a3) (impl_CutsFor.f (k + 1) a0 a1 a2 a3) := by
  intro a0 a1 a2 a3 k
  unfold impl_CutsFor.f
  exact LeO.bind (impl_canRepair.mono _ _ _ _ _) (fun _ => LeO.refl _)
set_option maxHeartbeats 8000000 in
set_option maxRecDepth 100000 in
theorem impl_CutsFor.calls (k : Nat) (A0 : Option Addr) (c0 : Nat) (l0 : List (S80)) (A1 : Option Addr) (c1 : Nat) (l1 : List (S80)) (a2 : Int) (a3 : Int) (r1 : List (List Int)) (r2 : Int) (r3 : Bool) (w : World) (hr0 : Kd.C k80 w A0 l0.length l0) (hc0 : l0.length ≤ c0) (hr1 : Kd.C k80 w A1 l1.length l1) (hc1 : l1.length ≤ c1) (h : impl_CutsFor.f k l0 l1 a2 a3 = some (r1, r2, r3)) :
    Calls Try.prog 14 #[.slice A0 l0.length c0, .slice A1 l1.length c1, .int .i64 a2, .int .i64 a3] w fun e w' => ∃ v0_ : Value, e = .returned (.tuple #[v0_, .int .i64 r2, .bool r3]) ∧ Kd.S (Kd.slice 3 (Kd.int .i64)) 34 w' w.heap.size (fun _ => True) v0_ r1 ∧ Below w.heap.size w w' := by
  unfold impl_CutsFor.f at h
  obtain ⟨q, hq, h⟩ := Option.bind_eq_some_iff.1 h
  have HR0 := Aside0.mk hr0
  have HR1 := Aside0.mk hr1
  have HC0 := Aside0.mk hc0
  have HC1 := Aside0.mk hc1
  have HQ := Aside0.mk hq
  clear hr0 hr1 hc0 hc1 hq
  cases q with
  | false =>
    rw [if_neg (by decide)] at h
    cases h
    go_enter Try.func14, Try.ntmps14
    go_wp2_with (first | (go_at_call 56; (with_reducible refine (impl_canRepair.calls k _ _ l0 _ _ l1 a2 a3 false _ ?s1 ?s2 ?s3 ?s4 HQ.out).mono ?_); (case s1 => exact HR0.out); (case s2 => exact HC0.out); (case s3 => exact HR1.out); (case s4 => exact HC1.out); rintro e w1 ⟨rfl, hb⟩; have HB := Aside0.mk hb; clear hb))
    go_ret3
    exact ⟨_, rfl, Kd.S_nil _ _ _ _ _, HB.out⟩
  | true =>
    rw [if_pos rfl] at h
    obtain ⟨xs, hxs, h⟩ := Option.bind_eq_some_iff.1 h
    by_cases hv : xs.length ≤ 100000 ∧ l1.all grid.okHB = true
    · rw [if_pos hv] at h
      cases h
      have HXS := Aside0.mk hxs
      have HXL := Aside0.mk hv.1
      have HV := Aside0.mk (grid.okHB_all hv.2)
      have HOK := Aside0.mk (show ∀ x ∈ xs, grid.okR x from by
        have h2 := hxs
        unfold impl_mustChange.f at h2
        split at h2
        · cases h2; exact grid.gr_okR _
        · cases h2)
      clear hxs hv
      go_enter Try.func14, Try.ntmps14
      go_wp2_with (first | (go_at_call 56; (with_reducible refine (impl_canRepair.calls k _ _ l0 _ _ l1 a2 a3 true _ ?s1 ?s2 ?s3 ?s4 HQ.out).mono ?_); (case s1 => exact HR0.out); (case s2 => exact HC0.out); (case s3 => exact HR1.out); (case s4 => exact HC1.out); rintro e w1 ⟨rfl, hb⟩; have HB := Aside0.mk hb; clear hb) | ((with_reducible refine gate_callee (f := 58) rfl ?_); refine goesL_ (some 22) rfl rfl Try.func58 (by kernel_rfl) rfl #[.slice A1 l1.length c1, .slice A0 l0.length c0] rfl (by (try simp only [List.map_toArray, List.map_cons, List.map_nil]); first | done | rfl) ?_; (with_reducible refine (impl_mustChange.calls _ _ l1 _ _ l0 xs _ ?s1 ?s2 ?s3 ?s4 HXS.out).mono ?_); (case s1 => exact Kd.C_below HR1.out HB.out); (case s2 => exact HC1.out); (case s3 => exact Kd.C_below HR0.out HB.out); (case s4 => exact HC0.out); rintro e w2 ⟨v2, rfl, ho, hb⟩; refine ⟨_, rfl, ?_⟩; have HO := Aside0.mk (Kd.S_lower ho (below_size HB.out)); have n0_ := Aside0.mk (below_step HB.out hb); clear HB hb ho; have HB := n0_; clear n0_) | ((with_reducible refine gate_callee (f := 59) rfl ?_); refine goesL_ (some 24) rfl rfl Try.func59 (by kernel_rfl) rfl #[.slice A1 l1.length c1] rfl (by (try simp only [List.map_toArray, List.map_cons, List.map_nil]); first | done | rfl) ?_; (with_reducible refine (grid.gridOf.calls _ _ l1 _ ?s1 ?s2 HV.out).mono ?_); (case s1 => exact Kd.C_below HR1.out HB.out); (case s2 => exact HC1.out); rintro e w3 ⟨gb, rfl, hg, hge, hb⟩; refine ⟨_, rfl, ?_⟩; have HG := Aside0.mk hg; have HO3 := Aside0.mk (Kd.S_below HO.out hb); have n0_ := Aside0.mk (below_step HB.out hb); clear HB hb hg hge HO; have HB := n0_; clear n0_) | ((with_reducible refine gate_callee (f := 57) rfl ?_); refine goesL_ (some 27) rfl rfl Try.func57 (by kernel_rfl) rfl #[v2, .pointer (some ⟨gb, 0, none⟩), .bool true, .int .i64 a2, .int .i64 a3] rfl (by (try simp only [List.map_toArray, List.map_cons, List.map_nil]); first | done | rfl) ?_; (with_reducible refine (grid.joined.calls gb (grid.openAt l1) true a2 a3 v2 xs w _ ?s1 HG.out HOK.out HXL.out ?s2).mono ?_); (case s1 => exact HO3.out); (case s2 => exact HB.out); rintro e w4 ⟨v4, rfl, ho, hb⟩; refine ⟨_, rfl, ?_⟩; have HO4 := Aside0.mk ho; have HB4 := Aside0.mk hb; clear ho hb))
      go_ret3
      exact ⟨_, rfl, HO4.out, HB4.out⟩
    · rw [if_neg hv] at h; cases h

/-! ### laws_eqIntS: function 33 -/
def laws_eqIntS.l0 : Nat → List Int → List Int → Int → Option (Bool)
  | 0, _, _, _ => none
  | k + 1, x0, x1, x5 => if x5 < (x0.length : Int) then (if 0 ≤ x5 then (if x5 < (x1.length : Int) then (if (rd x0 x5) = (rd x1 x5) then (laws_eqIntS.l0 k x0 x1 (wrap64 (x5 + 1))) else (some false)) else (none)) else (none)) else (some true)
def laws_eqIntS.f (k : Nat) (l0 : List Int) (l1 : List Int) : Option (Bool) := if (l0.length : Int) = (l1.length : Int) then (laws_eqIntS.l0 k l0 l1 0) else (some false)
theorem laws_eqIntS.mono_l : ∀ k, (∀ y0 y1 y2, LeO (laws_eqIntS.l0 k y0 y1 y2) (laws_eqIntS.l0 (k + 1) y0 y1 y2))
  | 0 => fun _ _ _ r h => by simp [laws_eqIntS.l0] at h
  | k + 1 => by
    have ih0 := laws_eqIntS.mono_l k
    · intro y0 y1 y2
      unfold laws_eqIntS.l0
      repeat' first
      | (with_reducible exact ih0 _ _ _)
      | (with_reducible exact LeO.refl _)
      | (with_reducible exact LeO.none _)
      | (with_reducible refine LeO.ite ?_ ?_)
      | (with_reducible refine LeO.bind ?_ (fun _ => ?_))
      | exact ih0 _ _ _
      | exact LeO.none _
      | refine LeO.ite ?_ ?_
      | refine LeO.bind ?_ (fun _ => ?_)
theorem laws_eqIntS.mono : ∀ a0 a1 k, LeO (laws_eqIntS.f k a0 a1) (laws_eqIntS.f (k + 1) a0 a1) := by
  intro a0 a1 k
  have ih0 := laws_eqIntS.mono_l k
  unfold laws_eqIntS.f
  repeat' first
      | (with_reducible exact ih0 _ _ _)
      | (with_reducible exact LeO.refl _)
      | (with_reducible exact LeO.none _)
      | (with_reducible refine LeO.ite ?_ ?_)
      | (with_reducible refine LeO.bind ?_ (fun _ => ?_))
      | exact ih0 _ _ _
      | exact LeO.none _
      | refine LeO.ite ?_ ?_
      | refine LeO.bind ?_ (fun _ => ?_)
set_option maxHeartbeats 8000000 in
set_option maxRecDepth 100000 in
theorem laws_eqIntS.calls (k : Nat) (A0 : Option Addr) (c0 : Nat) (l0 : List Int) (A1 : Option Addr) (c1 : Nat) (l1 : List Int) (r : Bool) (w : World) (hr0 : Kd.C (Kd.int .i64) w A0 l0.length l0) (hc0 : l0.length ≤ c0) (hr1 : Kd.C (Kd.int .i64) w A1 l1.length l1) (hc1 : l1.length ≤ c1) (h : laws_eqIntS.f k l0 l1 = some r) :
    Calls Try.prog 33 #[.slice A0 l0.length c0, .slice A1 l1.length c1] w fun e w' => e = .returned (.bool r) ∧ Drawn0 w w' := by
  have HR0 := Aside0.mk hr0
  have HC0 := Aside0.mk hc0
  clear hr0 hc0
  have HR1 := Aside0.mk hr1
  have HC1 := Aside0.mk hc1
  clear hr1 hc1
  have H : (if (l0.length : Int) = (l1.length : Int) then (laws_eqIntS.l0 k l0 l1 0) else (some false)) = some r := h
  clear h
  by_cases c3 : (l0.length : Int) = (l1.length : Int)
  · rw [if_pos c3] at H
    have c3b0 : ((l0.length : Int) == (l1.length : Int)) = true := beq_iff_eq.mpr c3
    have c3b1 : ((l0.length : Int) != (l1.length : Int)) = false := bne_eq_false_iff_eq.mpr c3
    have c3b2 : (l0.length == l1.length) = true := by first | simpa using c3 | (simp at c3 ⊢; omega)
    clear c3
    have H' := Aside0.mk H
    clear H
    go_enter Try.func33, Try.ntmps33
    go_wp2
    repeat (go_quiet (fail); try go_wp2)
    go_loopg [5] k (fun kq v5 w' => ∃ (x5_1 : Int), v5 = .int .i64 x5_1 ∧ Aside0 (laws_eqIntS.l0 kq l0 l1 x5_1 = some r) ∧ Aside0 (kq ≤ k) ∧ Drawn0 w w')
    case atStart => exact ⟨(0), (by first | rfl | (simp; done) | (simp [*]; done)), H', ⟨Nat.le_refl _⟩, by repeat (first | exact Drawn0.refl _ | apply Drawn0.step)⟩
    case round =>
      clear H'
      try clear c1
      try clear p2
      try clear c3
      try clear c3b0
      try clear c3b1
      try clear c3b2
      obtain ⟨x5_1, rfl, HA, HK1, ⟨m1, rfl⟩⟩ := hrel
      cases gk with
      | zero => exact absurd HA.out (by simp [laws_eqIntS.l0])
      | succ k1 =>
        have H := HA.out
        clear HA
        simp only [laws_eqIntS.l0] at H
        by_cases c4 : x5_1 < (l0.length : Int)
        · rw [if_pos c4] at H
          have c4b0 : decide (x5_1 < (l0.length : Int)) = true := decide_eq_true c4
          clear c4
          by_cases c5 : 0 ≤ x5_1
          · rw [if_pos c5] at H
            have c5b0 : decide (0 ≤ x5_1) = true := decide_eq_true c5
            clear c5
            by_cases c6 : x5_1 < (l1.length : Int)
            · rw [if_pos c6] at H
              have c6b0 : decide (x5_1 < (l1.length : Int)) = true := decide_eq_true c6
              clear c6
              by_cases c7 : (rd l0 x5_1) = (rd l1 x5_1)
              · rw [if_pos c7] at H
                have c7b0 : ((rd l0 x5_1) == (rd l1 x5_1)) = true := beq_iff_eq.mpr c7
                have c7b1 : ((rd l0 x5_1) != (rd l1 x5_1)) = false := bne_eq_false_iff_eq.mpr c7
                clear c7
                have H' := Aside0.mk H
                clear H
                have p222 : 0 ≤ (x5_1 : Int) := of_decide_eq_true (by first | (with_reducible assumption) | assumption)
                have q222 : x5_1 < (l0.length : Int) := of_decide_eq_true (by first | (with_reducible assumption) | assumption)
                obtain ⟨ad222, e222, hx222_0⟩ := Kd.at_int HR0.out x5_1 p222 q222
                cases e222
                replace p222 := eq_true p222
                replace q222 := eq_true q222
                have p223 : 0 ≤ (x5_1 : Int) := of_decide_eq_true (by first | (with_reducible assumption) | assumption)
                have q223 : x5_1 < (l1.length : Int) := of_decide_eq_true (by first | (with_reducible assumption) | assumption)
                obtain ⟨ad223, e223, hx223_0⟩ := Kd.at_int HR1.out x5_1 p223 q223
                cases e223
                replace p223 := eq_true p223
                replace q223 := eq_true q223
                go_wp2
                repeat (go_quiet (fail); try go_wp2)
                go_roundg k1
                case measure => have := HK1.out; omega
                case rel => exact ⟨(wrap64 (x5_1 + 1)), (by first | rfl | (simp; done) | (simp [*]; done)), H', ⟨by have := HK1.out; omega⟩, by repeat (first | exact Drawn0.refl _ | apply Drawn0.step)⟩
              · rw [if_neg c7] at H
                have c7b0 : ((rd l0 x5_1) == (rd l1 x5_1)) = false := beq_eq_false_iff_ne.mpr c7
                have c7b1 : ((rd l0 x5_1) != (rd l1 x5_1)) = true := bne_iff_ne.mpr c7
                obtain rfl := Option.some.inj H
                have p222 : 0 ≤ (x5_1 : Int) := of_decide_eq_true (by first | (with_reducible assumption) | assumption)
                have q222 : x5_1 < (l0.length : Int) := of_decide_eq_true (by first | (with_reducible assumption) | assumption)
                obtain ⟨ad222, e222, hx222_0⟩ := Kd.at_int HR0.out x5_1 p222 q222
                cases e222
                replace p222 := eq_true p222
                replace q222 := eq_true q222
                have p223 : 0 ≤ (x5_1 : Int) := of_decide_eq_true (by first | (with_reducible assumption) | assumption)
                have q223 : x5_1 < (l1.length : Int) := of_decide_eq_true (by first | (with_reducible assumption) | assumption)
                obtain ⟨ad223, e223, hx223_0⟩ := Kd.at_int HR1.out x5_1 p223 q223
                cases e223
                replace p223 := eq_true p223
                replace q223 := eq_true q223
                go_wp2
                repeat (go_quiet (fail); try go_wp2)
                go_ret
                exact ⟨by first | rfl | (simp; done) | (simp [*]; done), by repeat (first | exact Drawn0.refl _ | apply Drawn0.step)⟩
            · rw [if_neg c6] at H
              exact absurd H (by simp)
          · rw [if_neg c5] at H
            exact absurd H (by simp)
        · rw [if_neg c4] at H
          have c4b0 : decide (x5_1 < (l0.length : Int)) = false := decide_eq_false c4
          clear c4
          obtain rfl := Option.some.inj H
          go_wp2
          repeat (go_quiet (fail); try go_wp2)
          go_ret
          exact ⟨by first | rfl | (simp; done) | (simp [*]; done), by repeat (first | exact Drawn0.refl _ | apply Drawn0.step)⟩
  · rw [if_neg c3] at H
    have c3b0 : ((l0.length : Int) == (l1.length : Int)) = false := beq_eq_false_iff_ne.mpr c3
    have c3b1 : ((l0.length : Int) != (l1.length : Int)) = true := bne_iff_ne.mpr c3
    have c3b2 : (l0.length == l1.length) = false := by first | simpa using c3 | (simp at c3 ⊢; omega)
    obtain rfl := Option.some.inj H
    go_enter Try.func33, Try.ntmps33
    go_wp2
    repeat (go_quiet (fail); try go_wp2)
    go_ret
    exact ⟨by first | rfl | (simp; done) | (simp [*]; done), by repeat (first | exact Drawn0.refl _ | apply Drawn0.step)⟩

/-! ### laws_eqIntSS: function 15 -/
def laws_eqIntSS.l0 : Nat → List (List Int) → List (List Int) → Int → Option (Bool)
  | 0, _, _, _ => none
  | k + 1, x0, x1, x5 => if x5 < (x0.length : Int) then (if 0 ≤ x5 then (if x5 < (x1.length : Int) then ((laws_eqIntS.f k (rd_L5 x0 x5) (rd_L5 x1 x5)).bind fun t226 => (if t226 = true then (laws_eqIntSS.l0 k x0 x1 (wrap64 (x5 + 1))) else (some false))) else (none)) else (none)) else (some true)
def laws_eqIntSS.f (k : Nat) (l0 : List (List Int)) (l1 : List (List Int)) : Option (Bool) := if (l0.length : Int) = (l1.length : Int) then (laws_eqIntSS.l0 k l0 l1 0) else (some false)
theorem laws_eqIntSS.mono_l : ∀ k, (∀ y0 y1 y2, LeO (laws_eqIntSS.l0 k y0 y1 y2) (laws_eqIntSS.l0 (k + 1) y0 y1 y2))
  | 0 => fun _ _ _ r h => by simp [laws_eqIntSS.l0] at h
  | k + 1 => by
    have ih0 := laws_eqIntSS.mono_l k
    · intro y0 y1 y2
      unfold laws_eqIntSS.l0
      repeat' first
      | (with_reducible exact ih0 _ _ _)
      | (with_reducible exact laws_eqIntS.mono _ _ _)
      | (with_reducible exact LeO.refl _)
      | (with_reducible exact LeO.none _)
      | (with_reducible refine LeO.ite ?_ ?_)
      | (with_reducible refine LeO.bind ?_ (fun _ => ?_))
      | exact ih0 _ _ _
      | exact laws_eqIntS.mono _ _ _
      | exact LeO.none _
      | refine LeO.ite ?_ ?_
      | refine LeO.bind ?_ (fun _ => ?_)
theorem laws_eqIntSS.mono : ∀ a0 a1 k, LeO (laws_eqIntSS.f k a0 a1) (laws_eqIntSS.f (k + 1) a0 a1) := by
  intro a0 a1 k
  have ih0 := laws_eqIntSS.mono_l k
  unfold laws_eqIntSS.f
  repeat' first
      | (with_reducible exact ih0 _ _ _)
      | (with_reducible exact laws_eqIntS.mono _ _ _)
      | (with_reducible exact LeO.refl _)
      | (with_reducible exact LeO.none _)
      | (with_reducible refine LeO.ite ?_ ?_)
      | (with_reducible refine LeO.bind ?_ (fun _ => ?_))
      | exact ih0 _ _ _
      | exact laws_eqIntS.mono _ _ _
      | exact LeO.none _
      | refine LeO.ite ?_ ?_
      | refine LeO.bind ?_ (fun _ => ?_)
set_option maxHeartbeats 8000000 in
set_option maxRecDepth 100000 in
theorem laws_eqIntSS.calls (k : Nat) (A0 : Option Addr) (c0 : Nat) (l0 : List (List Int)) (A1 : Option Addr) (c1 : Nat) (l1 : List (List Int)) (r : Bool) (w : World) (hr0 : Kd.C (Kd.slice 3 (Kd.int .i64)) w A0 l0.length l0) (hc0 : l0.length ≤ c0) (hr1 : Kd.C (Kd.slice 3 (Kd.int .i64)) w A1 l1.length l1) (hc1 : l1.length ≤ c1) (h : laws_eqIntSS.f k l0 l1 = some r) :
    Calls Try.prog 15 #[.slice A0 l0.length c0, .slice A1 l1.length c1] w fun e w' => e = .returned (.bool r) ∧ Drawn0 w w' := by
  have HR0 := Aside0.mk hr0
  have HC0 := Aside0.mk hc0
  clear hr0 hc0
  have HR1 := Aside0.mk hr1
  have HC1 := Aside0.mk hc1
  clear hr1 hc1
  have H : (if (l0.length : Int) = (l1.length : Int) then (laws_eqIntSS.l0 k l0 l1 0) else (some false)) = some r := h
  clear h
  by_cases c3 : (l0.length : Int) = (l1.length : Int)
  · rw [if_pos c3] at H
    have c3b0 : ((l0.length : Int) == (l1.length : Int)) = true := beq_iff_eq.mpr c3
    have c3b1 : ((l0.length : Int) != (l1.length : Int)) = false := bne_eq_false_iff_eq.mpr c3
    have c3b2 : (l0.length == l1.length) = true := by first | simpa using c3 | (simp at c3 ⊢; omega)
    clear c3
    have H' := Aside0.mk H
    clear H
    go_enter Try.func15, Try.ntmps15
    go_wp2
    repeat (go_quiet (fail); try go_wp2)
    go_loopg [5] k (fun kq v5 w' => ∃ (x5_1 : Int), v5 = .int .i64 x5_1 ∧ Aside0 (laws_eqIntSS.l0 kq l0 l1 x5_1 = some r) ∧ Aside0 (kq ≤ k) ∧ Drawn0 w w')
    case atStart => exact ⟨(0), (by first | rfl | (simp; done) | (simp [*]; done)), H', ⟨Nat.le_refl _⟩, by repeat (first | exact Drawn0.refl _ | apply Drawn0.step)⟩
    case round =>
      clear H'
      try clear c1
      try clear p2
      try clear c3
      try clear c3b0
      try clear c3b1
      try clear c3b2
      obtain ⟨x5_1, rfl, HA, HK1, ⟨m1, rfl⟩⟩ := hrel
      cases gk with
      | zero => exact absurd HA.out (by simp [laws_eqIntSS.l0])
      | succ k1 =>
        have H := HA.out
        clear HA
        simp only [laws_eqIntSS.l0] at H
        by_cases c4 : x5_1 < (l0.length : Int)
        · rw [if_pos c4] at H
          have c4b0 : decide (x5_1 < (l0.length : Int)) = true := decide_eq_true c4
          clear c4
          by_cases c5 : 0 ≤ x5_1
          · rw [if_pos c5] at H
            have c5b0 : decide (0 ≤ x5_1) = true := decide_eq_true c5
            clear c5
            by_cases c6 : x5_1 < (l1.length : Int)
            · rw [if_pos c6] at H
              have c6b0 : decide (x5_1 < (l1.length : Int)) = true := decide_eq_true c6
              clear c6
              replace H := Option.bind_eq_some_iff.mp H
              obtain ⟨t226, A70, H⟩ := H
              replace H : (if t226 = true then (laws_eqIntSS.l0 k1 l0 l1 (wrap64 (x5_1 + 1))) else (some false)) = some r := H
              have A7 := Aside0.mk A70
              clear A70
              by_cases c8 : t226 = true
              · subst c8
                have H1 : (laws_eqIntSS.l0 k1 l0 l1 (wrap64 (x5_1 + 1))) = some r := by rw [if_pos rfl] at H; exact H
                clear H
                have H := H1
                clear H1
                have H' := Aside0.mk H
                clear H
                have p224 : 0 ≤ (x5_1 : Int) := of_decide_eq_true (by first | (with_reducible assumption) | assumption)
                have q224 : x5_1 < (l0.length : Int) := of_decide_eq_true (by first | (with_reducible assumption) | assumption)
                obtain ⟨ad224, A224_0, c224_0, e224, hx224_0, hl224_0, hi224_0⟩ := at_L5 HR0.out x5_1 p224 q224
                cases e224
                have HR224_0 := Aside0.mk hi224_0
                have HC224_0 := Aside0.mk hl224_0
                clear hi224_0 hl224_0
                replace p224 := eq_true p224
                replace q224 := eq_true q224
                have p225 : 0 ≤ (x5_1 : Int) := of_decide_eq_true (by first | (with_reducible assumption) | assumption)
                have q225 : x5_1 < (l1.length : Int) := of_decide_eq_true (by first | (with_reducible assumption) | assumption)
                obtain ⟨ad225, A225_0, c225_0, e225, hx225_0, hl225_0, hi225_0⟩ := at_L5 HR1.out x5_1 p225 q225
                cases e225
                have HR225_0 := Aside0.mk hi225_0
                have HC225_0 := Aside0.mk hl225_0
                clear hi225_0 hl225_0
                replace p225 := eq_true p225
                replace q225 := eq_true q225
                go_wp2_with (first | (go_at_call 33; (with_reducible refine (laws_eqIntS.calls k1 _ _ (rd_L5 l0 x5_1) _ _ (rd_L5 l1 x5_1) true _ ?side1 ?side2 ?side3 ?side4 A7.out).mono ?_); (case side1 => repeat (first | exact HR224_0.out | (with_reducible refine Kd.C_alloc ?_ _) | (with_reducible refine Kd.C_drewN ?_ _) | (with_reducible refine Kd.C_drew ?_))); (case side2 => exact HC224_0.out); (case side3 => repeat (first | exact HR225_0.out | (with_reducible refine Kd.C_alloc ?_ _) | (with_reducible refine Kd.C_drewN ?_ _) | (with_reducible refine Kd.C_drew ?_))); (case side4 => exact HC225_0.out); rintro e w' ⟨rfl, ⟨nd, rfl⟩⟩; (try first | exact ⟨rfl, _, World.drewN_drewN _ _ _⟩ | exact ⟨rfl, _, Eq.trans (World.drewN_drewN _ _ _) (congrArg (World.drewN _) (Nat.add_assoc _ _ _))⟩)))
                repeat (go_quiet (first | (go_at_call 33; (with_reducible refine (laws_eqIntS.calls k1 _ _ (rd_L5 l0 x5_1) _ _ (rd_L5 l1 x5_1) true _ ?side1 ?side2 ?side3 ?side4 A7.out).mono ?_); (case side1 => repeat (first | exact HR224_0.out | (with_reducible refine Kd.C_alloc ?_ _) | (with_reducible refine Kd.C_drewN ?_ _) | (with_reducible refine Kd.C_drew ?_))); (case side2 => exact HC224_0.out); (case side3 => repeat (first | exact HR225_0.out | (with_reducible refine Kd.C_alloc ?_ _) | (with_reducible refine Kd.C_drewN ?_ _) | (with_reducible refine Kd.C_drew ?_))); (case side4 => exact HC225_0.out); rintro e w' ⟨rfl, ⟨nd, rfl⟩⟩; (try first | exact ⟨rfl, _, World.drewN_drewN _ _ _⟩ | exact ⟨rfl, _, Eq.trans (World.drewN_drewN _ _ _) (congrArg (World.drewN _) (Nat.add_assoc _ _ _))⟩))); try go_wp2_with (first | (go_at_call 33; (with_reducible refine (laws_eqIntS.calls k1 _ _ (rd_L5 l0 x5_1) _ _ (rd_L5 l1 x5_1) true _ ?side1 ?side2 ?side3 ?side4 A7.out).mono ?_); (case side1 => repeat (first | exact HR224_0.out | (with_reducible refine Kd.C_alloc ?_ _) | (with_reducible refine Kd.C_drewN ?_ _) | (with_reducible refine Kd.C_drew ?_))); (case side2 => exact HC224_0.out); (case side3 => repeat (first | exact HR225_0.out | (with_reducible refine Kd.C_alloc ?_ _) | (with_reducible refine Kd.C_drewN ?_ _) | (with_reducible refine Kd.C_drew ?_))); (case side4 => exact HC225_0.out); rintro e w' ⟨rfl, ⟨nd, rfl⟩⟩; (try first | exact ⟨rfl, _, World.drewN_drewN _ _ _⟩ | exact ⟨rfl, _, Eq.trans (World.drewN_drewN _ _ _) (congrArg (World.drewN _) (Nat.add_assoc _ _ _))⟩))))
                go_roundg k1
                case measure => have := HK1.out; omega
                case rel => exact ⟨(wrap64 (x5_1 + 1)), (by first | rfl | (simp; done) | (simp [*]; done)), H', ⟨by have := HK1.out; omega⟩, by repeat (first | exact Drawn0.refl _ | apply Drawn0.step)⟩
              · replace c8 := Bool.eq_false_iff.mpr c8
                subst c8
                have H1 : (some false) = some r := by rw [if_neg (show ¬ (false = true) by decide)] at H; exact H
                clear H
                have H := H1
                clear H1
                obtain rfl := Option.some.inj H
                have p224 : 0 ≤ (x5_1 : Int) := of_decide_eq_true (by first | (with_reducible assumption) | assumption)
                have q224 : x5_1 < (l0.length : Int) := of_decide_eq_true (by first | (with_reducible assumption) | assumption)
                obtain ⟨ad224, A224_0, c224_0, e224, hx224_0, hl224_0, hi224_0⟩ := at_L5 HR0.out x5_1 p224 q224
                cases e224
                have HR224_0 := Aside0.mk hi224_0
                have HC224_0 := Aside0.mk hl224_0
                clear hi224_0 hl224_0
                replace p224 := eq_true p224
                replace q224 := eq_true q224
                have p225 : 0 ≤ (x5_1 : Int) := of_decide_eq_true (by first | (with_reducible assumption) | assumption)
                have q225 : x5_1 < (l1.length : Int) := of_decide_eq_true (by first | (with_reducible assumption) | assumption)
                obtain ⟨ad225, A225_0, c225_0, e225, hx225_0, hl225_0, hi225_0⟩ := at_L5 HR1.out x5_1 p225 q225
                cases e225
                have HR225_0 := Aside0.mk hi225_0
                have HC225_0 := Aside0.mk hl225_0
                clear hi225_0 hl225_0
                replace p225 := eq_true p225
                replace q225 := eq_true q225
                go_wp2_with (first | (go_at_call 33; (with_reducible refine (laws_eqIntS.calls k1 _ _ (rd_L5 l0 x5_1) _ _ (rd_L5 l1 x5_1) false _ ?side1 ?side2 ?side3 ?side4 A7.out).mono ?_); (case side1 => repeat (first | exact HR224_0.out | (with_reducible refine Kd.C_alloc ?_ _) | (with_reducible refine Kd.C_drewN ?_ _) | (with_reducible refine Kd.C_drew ?_))); (case side2 => exact HC224_0.out); (case side3 => repeat (first | exact HR225_0.out | (with_reducible refine Kd.C_alloc ?_ _) | (with_reducible refine Kd.C_drewN ?_ _) | (with_reducible refine Kd.C_drew ?_))); (case side4 => exact HC225_0.out); rintro e w' ⟨rfl, ⟨nd, rfl⟩⟩; (try first | exact ⟨rfl, _, World.drewN_drewN _ _ _⟩ | exact ⟨rfl, _, Eq.trans (World.drewN_drewN _ _ _) (congrArg (World.drewN _) (Nat.add_assoc _ _ _))⟩)))
                repeat (go_quiet (first | (go_at_call 33; (with_reducible refine (laws_eqIntS.calls k1 _ _ (rd_L5 l0 x5_1) _ _ (rd_L5 l1 x5_1) false _ ?side1 ?side2 ?side3 ?side4 A7.out).mono ?_); (case side1 => repeat (first | exact HR224_0.out | (with_reducible refine Kd.C_alloc ?_ _) | (with_reducible refine Kd.C_drewN ?_ _) | (with_reducible refine Kd.C_drew ?_))); (case side2 => exact HC224_0.out); (case side3 => repeat (first | exact HR225_0.out | (with_reducible refine Kd.C_alloc ?_ _) | (with_reducible refine Kd.C_drewN ?_ _) | (with_reducible refine Kd.C_drew ?_))); (case side4 => exact HC225_0.out); rintro e w' ⟨rfl, ⟨nd, rfl⟩⟩; (try first | exact ⟨rfl, _, World.drewN_drewN _ _ _⟩ | exact ⟨rfl, _, Eq.trans (World.drewN_drewN _ _ _) (congrArg (World.drewN _) (Nat.add_assoc _ _ _))⟩))); try go_wp2_with (first | (go_at_call 33; (with_reducible refine (laws_eqIntS.calls k1 _ _ (rd_L5 l0 x5_1) _ _ (rd_L5 l1 x5_1) false _ ?side1 ?side2 ?side3 ?side4 A7.out).mono ?_); (case side1 => repeat (first | exact HR224_0.out | (with_reducible refine Kd.C_alloc ?_ _) | (with_reducible refine Kd.C_drewN ?_ _) | (with_reducible refine Kd.C_drew ?_))); (case side2 => exact HC224_0.out); (case side3 => repeat (first | exact HR225_0.out | (with_reducible refine Kd.C_alloc ?_ _) | (with_reducible refine Kd.C_drewN ?_ _) | (with_reducible refine Kd.C_drew ?_))); (case side4 => exact HC225_0.out); rintro e w' ⟨rfl, ⟨nd, rfl⟩⟩; (try first | exact ⟨rfl, _, World.drewN_drewN _ _ _⟩ | exact ⟨rfl, _, Eq.trans (World.drewN_drewN _ _ _) (congrArg (World.drewN _) (Nat.add_assoc _ _ _))⟩))))
                go_ret
                exact ⟨by first | rfl | (simp; done) | (simp [*]; done), by repeat (first | exact Drawn0.refl _ | apply Drawn0.step)⟩
            · rw [if_neg c6] at H
              exact absurd H (by simp)
          · rw [if_neg c5] at H
            exact absurd H (by simp)
        · rw [if_neg c4] at H
          have c4b0 : decide (x5_1 < (l0.length : Int)) = false := decide_eq_false c4
          clear c4
          obtain rfl := Option.some.inj H
          go_wp2
          repeat (go_quiet (fail); try go_wp2)
          go_ret
          exact ⟨by first | rfl | (simp; done) | (simp [*]; done), by repeat (first | exact Drawn0.refl _ | apply Drawn0.step)⟩
  · rw [if_neg c3] at H
    have c3b0 : ((l0.length : Int) == (l1.length : Int)) = false := beq_eq_false_iff_ne.mpr c3
    have c3b1 : ((l0.length : Int) != (l1.length : Int)) = true := bne_iff_ne.mpr c3
    have c3b2 : (l0.length == l1.length) = false := by first | simpa using c3 | (simp at c3 ⊢; omega)
    obtain rfl := Option.some.inj H
    go_enter Try.func15, Try.ntmps15
    go_wp2
    repeat (go_quiet (fail); try go_wp2)
    go_ret
    exact ⟨by first | rfl | (simp; done) | (simp [*]; done), by repeat (first | exact Drawn0.refl _ | apply Drawn0.step)⟩

/-! ### laws_eqHole: function 60 -/
def laws_eqHole.f (a0_0 : Int) (a0_1 : Int) (a0_2 : Int) (a1_0 : Int) (a1_1 : Int) (a1_2 : Int) : Option (Bool) := if a0_0 = a1_0 then (if a0_1 = a1_1 then (if a0_2 = a1_2 then (some true) else (some false)) else (some false)) else (some false)
set_option maxHeartbeats 8000000 in
set_option maxRecDepth 100000 in
theorem laws_eqHole.calls (a0_0 : Int) (a0_1 : Int) (a0_2 : Int) (a1_0 : Int) (a1_1 : Int) (a1_2 : Int) (r : Bool) (w : World) (h : laws_eqHole.f a0_0 a0_1 a0_2 a1_0 a1_1 a1_2 = some r) :
    Calls Try.prog 60 #[.agg #[.int .i64 a0_0, .int .i64 a0_1, .int .i64 a0_2], .agg #[.int .i64 a1_0, .int .i64 a1_1, .int .i64 a1_2]] w fun e w' => e = .returned (.bool r) ∧ Below w.heap.size w w' := by
  have hu80 := Try.underlying80
  have HB := Aside0.mk (Below.refl w.heap.size w)
  have H : (if a0_0 = a1_0 then (if a0_1 = a1_1 then (if a0_2 = a1_2 then (some true) else (some false)) else (some false)) else (some false)) = some r := h
  clear h
  by_cases c3 : a0_0 = a1_0
  · rw [if_pos c3] at H
    have c3b0 : (a0_0 == a1_0) = true := beq_iff_eq.mpr c3
    have c3b1 : (a0_0 != a1_0) = false := bne_eq_false_iff_eq.mpr c3
    clear c3
    by_cases c4 : a0_1 = a1_1
    · rw [if_pos c4] at H
      have c4b0 : (a0_1 == a1_1) = true := beq_iff_eq.mpr c4
      have c4b1 : (a0_1 != a1_1) = false := bne_eq_false_iff_eq.mpr c4
      clear c4
      by_cases c5 : a0_2 = a1_2
      · rw [if_pos c5] at H
        have c5b0 : (a0_2 == a1_2) = true := beq_iff_eq.mpr c5
        have c5b1 : (a0_2 != a1_2) = false := bne_eq_false_iff_eq.mpr c5
        clear c5
        obtain rfl := Option.some.inj H
        go_enter Try.func60, Try.ntmps60
        go_wp2_with (first | ((with_reducible refine gate_dst (N := 2) rfl ?_); refine box_event ?hg (N := 2) ?hd (cs := #[.int .i64 a0_0, .int .i64 a0_1, .int .i64 a0_2]) (t := 80) ?hr ?_; (case hd => rfl); (case hg => rfl); (case hr => first | (go_simp; done) | (go_simp; rfl)); intro gb227 hg w6 hbox hb; have n0_ := Aside0.mk (below_step (by repeat (first | (with_reducible first | exact HB.out | apply below_alloc | apply pw_below_drewN | apply below_drew1) | exact HB.out)) hb); have n1_ := Aside0.mk (hbox); have n2_ := Aside0.mk ((by rw [hg]; exact (below_size (by repeat (first | (with_reducible first | exact HB.out | apply below_alloc | apply pw_below_drewN | apply below_drew1) | exact HB.out))) : w.heap.size ≤ gb227)); have n3_ := Aside0.mk ((by rw [hg]; exact (below_size (by repeat (first | (with_reducible first | exact HB.out | apply below_alloc | apply pw_below_drewN | apply below_drew1) | exact HB.out))) : w.heap.size ≤ gb227)); clear HB; have HB := n0_; have BK227 := n1_; have GW227 := n2_; have GE227 := n3_; clear n0_ n1_ n2_ n3_; clear hb hbox hg) | ((with_reducible refine gate_dst (N := 3) rfl ?_); refine box_event ?hg (N := 3) ?hd (cs := #[.int .i64 a1_0, .int .i64 a1_1, .int .i64 a1_2]) (t := 80) ?hr ?_; (case hd => rfl); (case hg => rfl); (case hr => first | (go_simp; done) | (go_simp; rfl)); intro gb228 hg w7 hbox hb; have n0_ := Aside0.mk (blk_below (g := gb227) (o := .cells #[.int .i64 a0_0, .int .i64 a0_1, .int .i64 a0_2] 80 (0, 0)) (by (with_reducible repeat (first | refine blk_drewN ?_ _ | refine blk_drew ?_ | refine blk_alloc ?_ _)); exact BK227.out) hb); have n1_ := Aside0.mk (below_step (by repeat (first | (with_reducible first | exact HB.out | apply below_alloc | apply pw_below_drewN | apply below_drew1 | refine below_set ?_ GE227.out) | exact HB.out)) hb); have n2_ := Aside0.mk (hbox); have n3_ := Aside0.mk ((by rw [hg]; exact (below_size (by repeat (first | (with_reducible first | exact HB.out | apply below_alloc | apply pw_below_drewN | apply below_drew1 | refine below_set ?_ GE227.out) | exact HB.out))) : w.heap.size ≤ gb228)); have n4_ := Aside0.mk ((by rw [hg]; exact (below_size (by repeat (first | (with_reducible first | exact HB.out | apply below_alloc | apply pw_below_drewN | apply below_drew1 | refine below_set ?_ GE227.out) | exact HB.out))) : w.heap.size ≤ gb228)); have n5_ := Aside0.mk ((by rw [hg]; exact Nat.ne_of_lt (blk_lt (g := gb227) (o := .cells #[.int .i64 a0_0, .int .i64 a0_1, .int .i64 a0_2] 80 (0, 0)) (by (with_reducible repeat (first | refine blk_drewN ?_ _ | refine blk_drew ?_ | refine blk_alloc ?_ _)); exact BK227.out)) : gb227 ≠ gb228)); have n6_ := Aside0.mk ((by rw [hg]; exact Nat.ne_of_gt (blk_lt (g := gb227) (o := .cells #[.int .i64 a0_0, .int .i64 a0_1, .int .i64 a0_2] 80 (0, 0)) (by (with_reducible repeat (first | refine blk_drewN ?_ _ | refine blk_drew ?_ | refine blk_alloc ?_ _)); exact BK227.out)) : gb228 ≠ gb227)); clear BK227; clear HB; have BK227 := n0_; have HB := n1_; have BK228 := n2_; have GW228 := n3_; have GE228 := n4_; have NB227_228 := n5_; have NB228_227 := n6_; clear n0_ n1_ n2_ n3_ n4_ n5_ n6_; clear hb hbox hg; have hnb8 := NB227_228.out; have hnc8 := NB228_227.out; have hcz9_0 : w7.cell? ⟨gb227, 0, none⟩ = some (.int .i64 a0_0) := (blk_cell BK227.out 0).trans rfl; have hcz9_1 : w7.cell? ⟨gb227, 1, none⟩ = some (.int .i64 a0_1) := (blk_cell BK227.out 1).trans rfl; have hcz9_2 : w7.cell? ⟨gb227, 2, none⟩ = some (.int .i64 a0_2) := (blk_cell BK227.out 2).trans rfl; have hfz9_0 := blk_frozen BK227.out 0; have hfz9_1 := blk_frozen BK227.out 1; have hfz9_2 := blk_frozen BK227.out 2; have hcz10_0 : w7.cell? ⟨gb228, 0, none⟩ = some (.int .i64 a1_0) := (blk_cell BK228.out 0).trans rfl; have hcz10_1 : w7.cell? ⟨gb228, 1, none⟩ = some (.int .i64 a1_1) := (blk_cell BK228.out 1).trans rfl; have hcz10_2 : w7.cell? ⟨gb228, 2, none⟩ = some (.int .i64 a1_2) := (blk_cell BK228.out 2).trans rfl; have hfz10_0 := blk_frozen BK228.out 0; have hfz10_1 := blk_frozen BK228.out 1; have hfz10_2 := blk_frozen BK228.out 2))
        go_ret
        exact ⟨by first | rfl | (simp [errW_none, errW_some] <;> rfl) | (simp [*, errW_none, errW_some] <;> rfl), by repeat (first | (with_reducible first | exact HB.out | apply below_alloc | apply pw_below_drewN | apply below_drew1 | refine below_set ?_ GE227.out | refine below_set ?_ GE228.out) | exact HB.out)⟩
      · rw [if_neg c5] at H
        have c5b0 : (a0_2 == a1_2) = false := beq_eq_false_iff_ne.mpr c5
        have c5b1 : (a0_2 != a1_2) = true := bne_iff_ne.mpr c5
        obtain rfl := Option.some.inj H
        go_enter Try.func60, Try.ntmps60
        go_wp2_with (first | ((with_reducible refine gate_dst (N := 2) rfl ?_); refine box_event ?hg (N := 2) ?hd (cs := #[.int .i64 a0_0, .int .i64 a0_1, .int .i64 a0_2]) (t := 80) ?hr ?_; (case hd => rfl); (case hg => rfl); (case hr => first | (go_simp; done) | (go_simp; rfl)); intro gb227 hg w11 hbox hb; have n0_ := Aside0.mk (below_step (by repeat (first | (with_reducible first | exact HB.out | apply below_alloc | apply pw_below_drewN | apply below_drew1) | exact HB.out)) hb); have n1_ := Aside0.mk (hbox); have n2_ := Aside0.mk ((by rw [hg]; exact (below_size (by repeat (first | (with_reducible first | exact HB.out | apply below_alloc | apply pw_below_drewN | apply below_drew1) | exact HB.out))) : w.heap.size ≤ gb227)); have n3_ := Aside0.mk ((by rw [hg]; exact (below_size (by repeat (first | (with_reducible first | exact HB.out | apply below_alloc | apply pw_below_drewN | apply below_drew1) | exact HB.out))) : w.heap.size ≤ gb227)); clear HB; have HB := n0_; have BK227 := n1_; have GW227 := n2_; have GE227 := n3_; clear n0_ n1_ n2_ n3_; clear hb hbox hg) | ((with_reducible refine gate_dst (N := 3) rfl ?_); refine box_event ?hg (N := 3) ?hd (cs := #[.int .i64 a1_0, .int .i64 a1_1, .int .i64 a1_2]) (t := 80) ?hr ?_; (case hd => rfl); (case hg => rfl); (case hr => first | (go_simp; done) | (go_simp; rfl)); intro gb228 hg w12 hbox hb; have n0_ := Aside0.mk (blk_below (g := gb227) (o := .cells #[.int .i64 a0_0, .int .i64 a0_1, .int .i64 a0_2] 80 (0, 0)) (by (with_reducible repeat (first | refine blk_drewN ?_ _ | refine blk_drew ?_ | refine blk_alloc ?_ _)); exact BK227.out) hb); have n1_ := Aside0.mk (below_step (by repeat (first | (with_reducible first | exact HB.out | apply below_alloc | apply pw_below_drewN | apply below_drew1 | refine below_set ?_ GE227.out) | exact HB.out)) hb); have n2_ := Aside0.mk (hbox); have n3_ := Aside0.mk ((by rw [hg]; exact (below_size (by repeat (first | (with_reducible first | exact HB.out | apply below_alloc | apply pw_below_drewN | apply below_drew1 | refine below_set ?_ GE227.out) | exact HB.out))) : w.heap.size ≤ gb228)); have n4_ := Aside0.mk ((by rw [hg]; exact (below_size (by repeat (first | (with_reducible first | exact HB.out | apply below_alloc | apply pw_below_drewN | apply below_drew1 | refine below_set ?_ GE227.out) | exact HB.out))) : w.heap.size ≤ gb228)); have n5_ := Aside0.mk ((by rw [hg]; exact Nat.ne_of_lt (blk_lt (g := gb227) (o := .cells #[.int .i64 a0_0, .int .i64 a0_1, .int .i64 a0_2] 80 (0, 0)) (by (with_reducible repeat (first | refine blk_drewN ?_ _ | refine blk_drew ?_ | refine blk_alloc ?_ _)); exact BK227.out)) : gb227 ≠ gb228)); have n6_ := Aside0.mk ((by rw [hg]; exact Nat.ne_of_gt (blk_lt (g := gb227) (o := .cells #[.int .i64 a0_0, .int .i64 a0_1, .int .i64 a0_2] 80 (0, 0)) (by (with_reducible repeat (first | refine blk_drewN ?_ _ | refine blk_drew ?_ | refine blk_alloc ?_ _)); exact BK227.out)) : gb228 ≠ gb227)); clear BK227; clear HB; have BK227 := n0_; have HB := n1_; have BK228 := n2_; have GW228 := n3_; have GE228 := n4_; have NB227_228 := n5_; have NB228_227 := n6_; clear n0_ n1_ n2_ n3_ n4_ n5_ n6_; clear hb hbox hg; have hnb13 := NB227_228.out; have hnc13 := NB228_227.out; have hcz14_0 : w12.cell? ⟨gb227, 0, none⟩ = some (.int .i64 a0_0) := (blk_cell BK227.out 0).trans rfl; have hcz14_1 : w12.cell? ⟨gb227, 1, none⟩ = some (.int .i64 a0_1) := (blk_cell BK227.out 1).trans rfl; have hcz14_2 : w12.cell? ⟨gb227, 2, none⟩ = some (.int .i64 a0_2) := (blk_cell BK227.out 2).trans rfl; have hfz14_0 := blk_frozen BK227.out 0; have hfz14_1 := blk_frozen BK227.out 1; have hfz14_2 := blk_frozen BK227.out 2; have hcz15_0 : w12.cell? ⟨gb228, 0, none⟩ = some (.int .i64 a1_0) := (blk_cell BK228.out 0).trans rfl; have hcz15_1 : w12.cell? ⟨gb228, 1, none⟩ = some (.int .i64 a1_1) := (blk_cell BK228.out 1).trans rfl; have hcz15_2 : w12.cell? ⟨gb228, 2, none⟩ = some (.int .i64 a1_2) := (blk_cell BK228.out 2).trans rfl; have hfz15_0 := blk_frozen BK228.out 0; have hfz15_1 := blk_frozen BK228.out 1; have hfz15_2 := blk_frozen BK228.out 2))
        go_ret
        exact ⟨by first | rfl | (simp [errW_none, errW_some] <;> rfl) | (simp [*, errW_none, errW_some] <;> rfl), by repeat (first | (with_reducible first | exact HB.out | apply below_alloc | apply pw_below_drewN | apply below_drew1 | refine below_set ?_ GE227.out | refine below_set ?_ GE228.out) | exact HB.out)⟩
    · rw [if_neg c4] at H
      have c4b0 : (a0_1 == a1_1) = false := beq_eq_false_iff_ne.mpr c4
      have c4b1 : (a0_1 != a1_1) = true := bne_iff_ne.mpr c4
      obtain rfl := Option.some.inj H
      go_enter Try.func60, Try.ntmps60
      go_wp2_with (first | ((with_reducible refine gate_dst (N := 2) rfl ?_); refine box_event ?hg (N := 2) ?hd (cs := #[.int .i64 a0_0, .int .i64 a0_1, .int .i64 a0_2]) (t := 80) ?hr ?_; (case hd => rfl); (case hg => rfl); (case hr => first | (go_simp; done) | (go_simp; rfl)); intro gb227 hg w16 hbox hb; have n0_ := Aside0.mk (below_step (by repeat (first | (with_reducible first | exact HB.out | apply below_alloc | apply pw_below_drewN | apply below_drew1) | exact HB.out)) hb); have n1_ := Aside0.mk (hbox); have n2_ := Aside0.mk ((by rw [hg]; exact (below_size (by repeat (first | (with_reducible first | exact HB.out | apply below_alloc | apply pw_below_drewN | apply below_drew1) | exact HB.out))) : w.heap.size ≤ gb227)); have n3_ := Aside0.mk ((by rw [hg]; exact (below_size (by repeat (first | (with_reducible first | exact HB.out | apply below_alloc | apply pw_below_drewN | apply below_drew1) | exact HB.out))) : w.heap.size ≤ gb227)); clear HB; have HB := n0_; have BK227 := n1_; have GW227 := n2_; have GE227 := n3_; clear n0_ n1_ n2_ n3_; clear hb hbox hg) | ((with_reducible refine gate_dst (N := 3) rfl ?_); refine box_event ?hg (N := 3) ?hd (cs := #[.int .i64 a1_0, .int .i64 a1_1, .int .i64 a1_2]) (t := 80) ?hr ?_; (case hd => rfl); (case hg => rfl); (case hr => first | (go_simp; done) | (go_simp; rfl)); intro gb228 hg w17 hbox hb; have n0_ := Aside0.mk (blk_below (g := gb227) (o := .cells #[.int .i64 a0_0, .int .i64 a0_1, .int .i64 a0_2] 80 (0, 0)) (by (with_reducible repeat (first | refine blk_drewN ?_ _ | refine blk_drew ?_ | refine blk_alloc ?_ _)); exact BK227.out) hb); have n1_ := Aside0.mk (below_step (by repeat (first | (with_reducible first | exact HB.out | apply below_alloc | apply pw_below_drewN | apply below_drew1 | refine below_set ?_ GE227.out) | exact HB.out)) hb); have n2_ := Aside0.mk (hbox); have n3_ := Aside0.mk ((by rw [hg]; exact (below_size (by repeat (first | (with_reducible first | exact HB.out | apply below_alloc | apply pw_below_drewN | apply below_drew1 | refine below_set ?_ GE227.out) | exact HB.out))) : w.heap.size ≤ gb228)); have n4_ := Aside0.mk ((by rw [hg]; exact (below_size (by repeat (first | (with_reducible first | exact HB.out | apply below_alloc | apply pw_below_drewN | apply below_drew1 | refine below_set ?_ GE227.out) | exact HB.out))) : w.heap.size ≤ gb228)); have n5_ := Aside0.mk ((by rw [hg]; exact Nat.ne_of_lt (blk_lt (g := gb227) (o := .cells #[.int .i64 a0_0, .int .i64 a0_1, .int .i64 a0_2] 80 (0, 0)) (by (with_reducible repeat (first | refine blk_drewN ?_ _ | refine blk_drew ?_ | refine blk_alloc ?_ _)); exact BK227.out)) : gb227 ≠ gb228)); have n6_ := Aside0.mk ((by rw [hg]; exact Nat.ne_of_gt (blk_lt (g := gb227) (o := .cells #[.int .i64 a0_0, .int .i64 a0_1, .int .i64 a0_2] 80 (0, 0)) (by (with_reducible repeat (first | refine blk_drewN ?_ _ | refine blk_drew ?_ | refine blk_alloc ?_ _)); exact BK227.out)) : gb228 ≠ gb227)); clear BK227; clear HB; have BK227 := n0_; have HB := n1_; have BK228 := n2_; have GW228 := n3_; have GE228 := n4_; have NB227_228 := n5_; have NB228_227 := n6_; clear n0_ n1_ n2_ n3_ n4_ n5_ n6_; clear hb hbox hg; have hnb18 := NB227_228.out; have hnc18 := NB228_227.out; have hcz19_0 : w17.cell? ⟨gb227, 0, none⟩ = some (.int .i64 a0_0) := (blk_cell BK227.out 0).trans rfl; have hcz19_1 : w17.cell? ⟨gb227, 1, none⟩ = some (.int .i64 a0_1) := (blk_cell BK227.out 1).trans rfl; have hcz19_2 : w17.cell? ⟨gb227, 2, none⟩ = some (.int .i64 a0_2) := (blk_cell BK227.out 2).trans rfl; have hfz19_0 := blk_frozen BK227.out 0; have hfz19_1 := blk_frozen BK227.out 1; have hfz19_2 := blk_frozen BK227.out 2; have hcz20_0 : w17.cell? ⟨gb228, 0, none⟩ = some (.int .i64 a1_0) := (blk_cell BK228.out 0).trans rfl; have hcz20_1 : w17.cell? ⟨gb228, 1, none⟩ = some (.int .i64 a1_1) := (blk_cell BK228.out 1).trans rfl; have hcz20_2 : w17.cell? ⟨gb228, 2, none⟩ = some (.int .i64 a1_2) := (blk_cell BK228.out 2).trans rfl; have hfz20_0 := blk_frozen BK228.out 0; have hfz20_1 := blk_frozen BK228.out 1; have hfz20_2 := blk_frozen BK228.out 2))
      go_ret
      exact ⟨by first | rfl | (simp [errW_none, errW_some] <;> rfl) | (simp [*, errW_none, errW_some] <;> rfl), by repeat (first | (with_reducible first | exact HB.out | apply below_alloc | apply pw_below_drewN | apply below_drew1 | refine below_set ?_ GE227.out | refine below_set ?_ GE228.out) | exact HB.out)⟩
  · rw [if_neg c3] at H
    have c3b0 : (a0_0 == a1_0) = false := beq_eq_false_iff_ne.mpr c3
    have c3b1 : (a0_0 != a1_0) = true := bne_iff_ne.mpr c3
    obtain rfl := Option.some.inj H
    go_enter Try.func60, Try.ntmps60
    go_wp2_with (first | ((with_reducible refine gate_dst (N := 2) rfl ?_); refine box_event ?hg (N := 2) ?hd (cs := #[.int .i64 a0_0, .int .i64 a0_1, .int .i64 a0_2]) (t := 80) ?hr ?_; (case hd => rfl); (case hg => rfl); (case hr => first | (go_simp; done) | (go_simp; rfl)); intro gb227 hg w21 hbox hb; have n0_ := Aside0.mk (below_step (by repeat (first | (with_reducible first | exact HB.out | apply below_alloc | apply pw_below_drewN | apply below_drew1) | exact HB.out)) hb); have n1_ := Aside0.mk (hbox); have n2_ := Aside0.mk ((by rw [hg]; exact (below_size (by repeat (first | (with_reducible first | exact HB.out | apply below_alloc | apply pw_below_drewN | apply below_drew1) | exact HB.out))) : w.heap.size ≤ gb227)); have n3_ := Aside0.mk ((by rw [hg]; exact (below_size (by repeat (first | (with_reducible first | exact HB.out | apply below_alloc | apply pw_below_drewN | apply below_drew1) | exact HB.out))) : w.heap.size ≤ gb227)); clear HB; have HB := n0_; have BK227 := n1_; have GW227 := n2_; have GE227 := n3_; clear n0_ n1_ n2_ n3_; clear hb hbox hg) | ((with_reducible refine gate_dst (N := 3) rfl ?_); refine box_event ?hg (N := 3) ?hd (cs := #[.int .i64 a1_0, .int .i64 a1_1, .int .i64 a1_2]) (t := 80) ?hr ?_; (case hd => rfl); (case hg => rfl); (case hr => first | (go_simp; done) | (go_simp; rfl)); intro gb228 hg w22 hbox hb; have n0_ := Aside0.mk (blk_below (g := gb227) (o := .cells #[.int .i64 a0_0, .int .i64 a0_1, .int .i64 a0_2] 80 (0, 0)) (by (with_reducible repeat (first | refine blk_drewN ?_ _ | refine blk_drew ?_ | refine blk_alloc ?_ _)); exact BK227.out) hb); have n1_ := Aside0.mk (below_step (by repeat (first | (with_reducible first | exact HB.out | apply below_alloc | apply pw_below_drewN | apply below_drew1 | refine below_set ?_ GE227.out) | exact HB.out)) hb); have n2_ := Aside0.mk (hbox); have n3_ := Aside0.mk ((by rw [hg]; exact (below_size (by repeat (first | (with_reducible first | exact HB.out | apply below_alloc | apply pw_below_drewN | apply below_drew1 | refine below_set ?_ GE227.out) | exact HB.out))) : w.heap.size ≤ gb228)); have n4_ := Aside0.mk ((by rw [hg]; exact (below_size (by repeat (first | (with_reducible first | exact HB.out | apply below_alloc | apply pw_below_drewN | apply below_drew1 | refine below_set ?_ GE227.out) | exact HB.out))) : w.heap.size ≤ gb228)); have n5_ := Aside0.mk ((by rw [hg]; exact Nat.ne_of_lt (blk_lt (g := gb227) (o := .cells #[.int .i64 a0_0, .int .i64 a0_1, .int .i64 a0_2] 80 (0, 0)) (by (with_reducible repeat (first | refine blk_drewN ?_ _ | refine blk_drew ?_ | refine blk_alloc ?_ _)); exact BK227.out)) : gb227 ≠ gb228)); have n6_ := Aside0.mk ((by rw [hg]; exact Nat.ne_of_gt (blk_lt (g := gb227) (o := .cells #[.int .i64 a0_0, .int .i64 a0_1, .int .i64 a0_2] 80 (0, 0)) (by (with_reducible repeat (first | refine blk_drewN ?_ _ | refine blk_drew ?_ | refine blk_alloc ?_ _)); exact BK227.out)) : gb228 ≠ gb227)); clear BK227; clear HB; have BK227 := n0_; have HB := n1_; have BK228 := n2_; have GW228 := n3_; have GE228 := n4_; have NB227_228 := n5_; have NB228_227 := n6_; clear n0_ n1_ n2_ n3_ n4_ n5_ n6_; clear hb hbox hg; have hnb23 := NB227_228.out; have hnc23 := NB228_227.out; have hcz24_0 : w22.cell? ⟨gb227, 0, none⟩ = some (.int .i64 a0_0) := (blk_cell BK227.out 0).trans rfl; have hcz24_1 : w22.cell? ⟨gb227, 1, none⟩ = some (.int .i64 a0_1) := (blk_cell BK227.out 1).trans rfl; have hcz24_2 : w22.cell? ⟨gb227, 2, none⟩ = some (.int .i64 a0_2) := (blk_cell BK227.out 2).trans rfl; have hfz24_0 := blk_frozen BK227.out 0; have hfz24_1 := blk_frozen BK227.out 1; have hfz24_2 := blk_frozen BK227.out 2; have hcz25_0 : w22.cell? ⟨gb228, 0, none⟩ = some (.int .i64 a1_0) := (blk_cell BK228.out 0).trans rfl; have hcz25_1 : w22.cell? ⟨gb228, 1, none⟩ = some (.int .i64 a1_1) := (blk_cell BK228.out 1).trans rfl; have hcz25_2 : w22.cell? ⟨gb228, 2, none⟩ = some (.int .i64 a1_2) := (blk_cell BK228.out 2).trans rfl; have hfz25_0 := blk_frozen BK228.out 0; have hfz25_1 := blk_frozen BK228.out 1; have hfz25_2 := blk_frozen BK228.out 2))
    go_ret
    exact ⟨by first | rfl | (simp [errW_none, errW_some] <;> rfl) | (simp [*, errW_none, errW_some] <;> rfl), by repeat (first | (with_reducible first | exact HB.out | apply below_alloc | apply pw_below_drewN | apply below_drew1 | refine below_set ?_ GE227.out | refine below_set ?_ GE228.out) | exact HB.out)⟩

end Go.Proofs.Ytjniaiobnbdhhab.PFnExactCutsFor
