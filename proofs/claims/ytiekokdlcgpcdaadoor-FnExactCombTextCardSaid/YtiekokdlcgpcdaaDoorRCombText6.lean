/- The walks of functions that FnExactCombText reaches: what they return is what the plain functions of the same names say. Laid by a program of this session after the kit's print. No conditions beyond the arguments' being read. -/
import Derived.Test.YtiekokdlcgpcdaaDoorRCombText0
import Derived.Test.YtiekokdlcgpcdaaDoorRCombText4
import Derived.Test.YtiekokdlcgpcdaaDoorRCombText5
namespace Go.Proofs.YtiekokdlcgpcdaaDoor.PFnExactCombText
open Go.RowKit Go.Proofs.YtiekokdlcgpcdaaDoorW.PrintWords Go.Proofs.YtiekokdlcgpcdaaDoorW.PrintLast Go.Proofs.YtiekokdlcgpcdaaDoorW.PrintMore
attribute [local go_sem] max2_int min2_int max_two min_two max_three min_three max_four min_four   -- for this text's walks alone
set_option linter.unusedVariables false
set_option linter.unusedSimpArgs false

/-! ### strings.Builder: a local one that is written in a loop: the shelf's contracts, laid -/
namespace bld
open Go.Shelf in
theorem lw : Lays.n166 Tryd.prog strings_Join.layd_ren := { strings_Join.layd with }
open Go.Shelf in
theorem ls : Lays.n169 Tryd.prog strings_Join.layd_ren := { strings_Join.layd with }
/-- The block g is a Builder of the call's own that holds s. -/
def Is (w0 W : World) (g : Nat) (s : ByteArray) : Prop := Lib.IsBuilderF 45 5 w0.heap.size g (Lib.byteCells s.data.toList) W
theorem lt_of {W : World} {g : Nat} {o : Obj} (h : W.heap[g]? = some o) : g < W.heap.size := by
  rcases Nat.lt_or_ge g W.heap.size with h1 | h1
  · exact h1
  · rw [Array.getElem?_eq_none h1] at h
    cases h
theorem At.below {B b : Nat} {p : Value} {bs : List Value} {W W1 : World} (h : Lib.BuilderAtF 45 5 B b p bs W) (hb : Below W.heap.size W W1) : Lib.BuilderAtF 45 5 B b p bs W1 := by
  obtain ⟨h0, v, h1, ⟨hl, h2⟩, h3⟩ := h
  refine ⟨h0, v, (hb.block b (lt_of h1)).trans h1, ⟨hl, ?_⟩, h3⟩
  rcases h2 with h2 | ⟨g, cap, cur, fz, hv, hg, hh, r⟩
  · exact .inl h2
  · exact .inr ⟨g, cap, cur, fz, hv, hg, (hb.block g (lt_of hh)).trans hh, r⟩
theorem Is.below {w0 W W1 : World} {g : Nat} {s : ByteArray} (h : Is w0 W g s) (hb : Below W.heap.size W W1) : Is w0 W1 g s := h.elim (fun x => .inl (At.below x hb)) (fun x => .inr (At.below x hb))
theorem Is.blk {w0 W : World} {g : Nat} {s : ByteArray} (h : Is w0 W g s) : ∃ cs, W.heap[g]? = some (.cells cs 45 (0, 0)) := by
  rcases h with ⟨_, v, h, _⟩ | ⟨_, v, h, _⟩ <;> exact ⟨_, h⟩
theorem Is.lt {w0 W : World} {g : Nat} {s : ByteArray} (h : Is w0 W g s) : g < W.heap.size := by
  obtain ⟨cs, h⟩ := h.blk
  exact lt_of h
theorem new {w0 W : World} {g : Nat} (hB : w0.heap.size ≤ g) (hb : W.heap[g]? = some (.cells #[.pointer none, .slice none 0 0] 45 (0, 0))) : Is w0 W g ⟨#[]⟩ :=
  .inl ⟨hB, .slice none 0 0, hb, ⟨rfl, .inl ⟨rfl, rfl⟩⟩, by simp [Value.ownBlock]⟩
theorem write (g : Nat) (s a : ByteArray) (w0 w : World) (hI : Is w0 w g s) (hB : w0.heap.size ≤ w.heap.size) (h : s.size + a.size ≤ 140737488355328) :
    Calls Tryd.prog 20 #[.pointer (some ⟨g, 0, none⟩), .string a] w fun e w' => e = .returned (.tuple #[.int .i64 a.size, .nilIface]) ∧ Is w0 w' g (s ++ a) ∧ Below w0.heap.size w w' ∧ Lib.OthersKept 5 (some g) w w' := by
  refine (Any.Builder_WriteString_k lw strings_Join.xtra w0.heap.size g (Lib.byteCells s.data.toList) a w hI (by rw [Lib.byteCells_length, ← Lib.size_eq]; exact h) hB).mono ?_
  rintro e w' ⟨rfl, h1, h2, h3⟩
  refine ⟨rfl, .inr ?_, h2, h3⟩
  rw [Lib.strCells_eq, ← Lib.byteCells_append] at h1
  have e1 : (s ++ a).data.toList = s.data.toList ++ a.data.toList := by rw [ByteArray.data_append, Array.toList_append]
  rw [e1]
  exact h1
theorem str (g : Nat) (s : ByteArray) (w0 w : World) (hI : Is w0 w g s) (hB : w0.heap.size ≤ w.heap.size) :
    Calls Tryd.prog 23 #[.pointer (some ⟨g, 0, none⟩)] w fun e w' => e = .returned (.string s) ∧ Below w0.heap.size w w' := by
  refine (Any.Builder_String_any_k ls strings_Join.xtra w0.heap.size g s.data.toList w hI hB).mono ?_
  rintro e w' ⟨rfl, h1, h2, h3⟩
  exact ⟨by rw [Lib.mk_data], h2⟩
theorem chain {B : Nat} {w wI w1 w2 : World} (h0 : Below B w wI) (h1 : Below wI.heap.size wI w1) (hB : B ≤ wI.heap.size) (h2 : Below B w1 w2) : Below B w w2 := h0.trans ((h1.mono hB).trans h2)
theorem kept_blk {g k : Nat} {w w' : World} {cs : Array Value} {t : TypeId} {fz : Nat × Nat} (h : Lib.OthersKept 5 (some g) w w') (hk : w.heap[k]? = some (.cells cs t fz)) (ht : t ≠ 5) (hne : k ≠ g) : w'.heap[k]? = some (.cells cs t fz) :=
  h k _ hk (fun e => hne (Option.some.inj e)) (fun c f e => by injection e with _ e2; exact ht e2)
theorem kept_R {α : Type} {d : Kd α} {e : Nat} {base : Nat} {ok : Nat → Prop} {v : Value} {xs : List α} {g : Nat} {w w' w0 : World} {s : ByteArray} (hI : Is w0 w g s) (h : Lib.OthersKept 5 (some g) w w') (hr : d.R e w base ok v xs) (ht : ∀ q, q ∈ e :: d.E → q ≠ 5 ∧ q ≠ 45) : d.R e w' base ok v xs :=
  Kd.R_mono (Kd.R_move (Kd.R_bound hr) (fun k hk => by
    obtain ⟨_, _, _, q, hq, cs, hc⟩ := hk
    rw [hc]
    refine kept_blk h hc (ht q hq).1 (fun e2 => ?_)
    subst e2
    obtain ⟨c2, h2⟩ := hI.blk
    rw [hc] at h2
    injection h2 with h2
    injection h2 with _ h2
    exact (ht q hq).2 h2)) (fun _ hk => hk.1)
theorem base {w0 W : World} {g : Nat} {s : ByteArray} (_ : Aside0 (Is w0 W g s)) : ∃ wI, wI = W := ⟨W, rfl⟩
end bld

/-! ### impl_CombText: function 8 -/
def impl_CombText.l0 : Nat → ByteArray → List (S38) → Int → Int → Option (ByteArray × Bool)
  | 0, _, _, _, _ => none
  | k + 1, x4, x10, x11, x12 => if x12 < x11 then (if 0 ≤ x12 then (if x12 < (x10.length : Int) then ((impl_pitchName.f ((rd_T38 x10 x12).f0)).bind fun t171 => (if t171.size + 1 ≤ 9223372036854775807 then ((impl_words.f k (([(rd_T38 x10 x12).f1] : List Int))).bind fun t175 => (if (t171 ++ (⟨#[32]⟩ : ByteArray)).size + t175.size ≤ 9223372036854775807 then (if x4.size + ((t171 ++ (⟨#[32]⟩ : ByteArray)) ++ t175).size ≤ 140737488355328 then (if ((rd_T38 x10 x12).f2) = 1 then (if (x4 ++ ((t171 ++ (⟨#[32]⟩ : ByteArray)) ++ t175)).size + 7 ≤ 140737488355328 then (if ((x4 ++ ((t171 ++ (⟨#[32]⟩ : ByteArray)) ++ t175)) ++ (⟨#[32, 100, 97, 109, 112, 101, 114]⟩ : ByteArray)).size + 1 ≤ 140737488355328 then (impl_CombText.l0 k (((x4 ++ ((t171 ++ (⟨#[32]⟩ : ByteArray)) ++ t175)) ++ (⟨#[32, 100, 97, 109, 112, 101, 114]⟩ : ByteArray)) ++ (⟨#[10]⟩ : ByteArray)) x10 x11 (wrap64 (x12 + 1))) else (none)) else (none)) else (if (x4 ++ ((t171 ++ (⟨#[32]⟩ : ByteArray)) ++ t175)).size + 1 ≤ 140737488355328 then (impl_CombText.l0 k ((x4 ++ ((t171 ++ (⟨#[32]⟩ : ByteArray)) ++ t175)) ++ (⟨#[10]⟩ : ByteArray)) x10 x11 (wrap64 (x12 + 1))) else (none))) else (none)) else (none))) else (none))) else (none)) else (none)) else (some (x4, true))
def impl_CombText.f (k : Nat) (l0 : List (S38)) : Option (ByteArray × Bool) := (impl_IsComb.f k l0).bind fun t168 => (if t168 = true then (impl_CombText.l0 k (⟨#[]⟩ : ByteArray) l0 (l0.length : Int) 0) else (some ((⟨#[]⟩ : ByteArray), false)))
theorem impl_CombText.mono_l : ∀ k, (∀ y0 y1 y2 y3, LeO (impl_CombText.l0 k y0 y1 y2 y3) (impl_CombText.l0 (k + 1) y0 y1 y2 y3))
  | 0 => fun _ _ _ _ r h => by simp [impl_CombText.l0] at h
  | k + 1 => by
    have ih0 := impl_CombText.mono_l k
    · intro y0 y1 y2 y3
      unfold impl_CombText.l0
      repeat' first
      | (with_reducible exact ih0 _ _ _ _)
      | (with_reducible exact impl_IsComb.mono _ _)
      | (with_reducible exact impl_words.mono _ _)
      | (with_reducible exact LeO.refl _)
      | (with_reducible exact LeO.none _)
      | (with_reducible refine LeO.ite ?_ ?_)
      | (with_reducible refine LeO.bind ?_ (fun _ => ?_))
      | exact ih0 _ _ _ _
      | exact impl_IsComb.mono _ _
      | exact impl_words.mono _ _
      | exact LeO.none _
      | refine LeO.ite ?_ ?_
      | refine LeO.bind ?_ (fun _ => ?_)
theorem impl_CombText.mono : ∀ a0 k, LeO (impl_CombText.f k a0) (impl_CombText.f (k + 1) a0) := by
  intro a0 k
  have ih0 := impl_CombText.mono_l k
  unfold impl_CombText.f
  repeat' first
      | (with_reducible exact ih0 _ _ _ _)
      | (with_reducible exact impl_IsComb.mono _ _)
      | (with_reducible exact impl_words.mono _ _)
      | (with_reducible exact LeO.refl _)
      | (with_reducible exact LeO.none _)
      | (with_reducible refine LeO.ite ?_ ?_)
      | (with_reducible refine LeO.bind ?_ (fun _ => ?_))
      | exact ih0 _ _ _ _
      | exact impl_IsComb.mono _ _
      | exact impl_words.mono _ _
      | exact LeO.none _
      | refine LeO.ite ?_ ?_
      | refine LeO.bind ?_ (fun _ => ?_)
def impl_CombText.T7 : Bool × List (List Nat × List Nat) := (true, [([], []), ([0], [0]), ([1], [1]), ([2], [2]), ([], []), ([4], [4]), ([5], [5]), ([6, 2], [6]), ([3, 7], [3, 7]), ([8, 7], [8])])
def impl_CombText.B7 : List Nat := [0, 1, 3, 7, 0, 16, 48, 119, 255, 511]
theorem impl_CombText.tab7 : rtab .any (opsOf Tryd.f8 7) = impl_CombText.T7 := by kernel_rfl
theorem impl_CombText.bits7 : waitsOk impl_CombText.T7.2 impl_CombText.B7 = true := by kernel_rfl
set_option maxHeartbeats 8000000 in
set_option maxRecDepth 100000 in
theorem impl_CombText.calls (k : Nat) (A0 : Option Addr) (c0 : Nat) (l0 : List (S38)) (r1 : ByteArray) (r2 : Bool) (w : World) (hr0 : Kd.C k38 w A0 l0.length l0) (hc0 : l0.length ≤ c0) (h : impl_CombText.f k l0 = some (r1, r2)) (HT0 : Lib.TabIs Tryd.prog w "internal/strconv.uint64pow10" .u64 Lib.pow10Tab) :
    Calls Tryd.prog 8 #[.slice A0 l0.length c0] w fun e w' => e = .returned (.tuple #[.string r1, .bool r2]) ∧ Below w.heap.size w w' := by
  have HT := Aside0.mk HT0
  clear HT0
  have hu38 := Tryd.underlying38
  have HR0 := Aside0.mk hr0
  have HC0 := Aside0.mk hc0
  clear hr0 hc0
  have hu45 := Tryd.underlying45
  have HB := Aside0.mk (Below.refl w.heap.size w)
  have H : ((impl_IsComb.f k l0).bind fun t168 => (if t168 = true then (impl_CombText.l0 k (⟨#[]⟩ : ByteArray) l0 (l0.length : Int) 0) else (some ((⟨#[]⟩ : ByteArray), false)))) = some (r1, r2) := h
  clear h
  replace H := Option.bind_eq_some_iff.mp H
  obtain ⟨t168, A20, H⟩ := H
  replace H : (if t168 = true then (impl_CombText.l0 k (⟨#[]⟩ : ByteArray) l0 (l0.length : Int) 0) else (some ((⟨#[]⟩ : ByteArray), false))) = some (r1, r2) := H
  have A2 := Aside0.mk A20
  clear A20
  by_cases c3 : t168 = true
  · subst c3
    have H1 : (impl_CombText.l0 k (⟨#[]⟩ : ByteArray) l0 (l0.length : Int) 0) = some (r1, r2) := by rw [if_pos rfl] at H; exact H
    clear H
    have H := H1
    clear H1
    have H' := Aside0.mk H
    clear H
    go_enter Tryd.func8, Tryd.ntmps8
    go_wp2_with (first | ((with_reducible refine gate_callee (f := 19) rfl ?_); refine goesL_ (some 8) rfl rfl Tryd.func19 (by kernel_rfl) rfl #[.slice A0 l0.length c0] rfl (by (try simp only [List.map_toArray, List.map_cons, List.map_nil]); first | done | rfl | (simp only [List.length_drop, List.length_take]; rfl)) ?_; (with_reducible refine (impl_IsComb.calls k _ _ l0 true _ ?side1 ?side2 A2.out).mono ?_); (case side1 => repeat (first | exact HR0.out | (with_reducible refine Kd.C_alloc ?_ _) | (with_reducible refine Kd.C_drewN ?_ _) | (with_reducible refine Kd.C_drew ?_))); (case side2 => exact HC0.out); rintro e w4 ⟨rfl, hb⟩; refine ⟨_, rfl, ?_⟩; have n0_ := Aside0.mk (below_step (by repeat (first | (with_reducible first | exact HB.out | apply below_alloc | apply pw_below_drewN | apply below_drew1) | exact HB.out)) hb); clear HB; have HB := n0_; clear n0_; (try clear hb); (try clear hb2); (try clear hk); (try clear hi)) | ((with_reducible refine gate_dst (N := 4) rfl ?_); refine box_event ?hg (N := 4) ?hd (cs := #[.pointer none, .slice none 0 0]) (t := 45) ?hr ?_; (case hd => rfl); (case hg => rfl); (case hr => first | (go_simp; done) | (go_simp; rfl)); intro gb hg wb hbox hb; have GB := Aside0.mk ((by rw [hg]; exact (below_size (by repeat (first | (with_reducible first | exact HB.out | apply below_alloc | apply pw_below_drewN | apply below_drew1) | exact HB.out))) : w.heap.size ≤ gb)); have n0_ := Aside0.mk (below_step (by repeat (first | (with_reducible first | exact HB.out | apply below_alloc | apply pw_below_drewN | apply below_drew1) | exact HB.out)) hb); have HI := Aside0.mk (bld.new (w0 := w) GB.out hbox); clear HB; have HB := n0_; clear n0_; clear hb hbox hg))
    go_loopg [12] k (fun kq v12 w' => ∃ (x4_1 : ByteArray) (x12_1 : Int), v12 = .int .i64 x12_1 ∧ Aside0 (impl_CombText.l0 kq x4_1 l0 (l0.length : Int) x12_1 = some (r1, r2)) ∧ Aside0 (kq ≤ k) ∧ Aside0 (Below w.heap.size w w') ∧ Aside0 (bld.Is w w' gb x4_1))
    case atStart => exact ⟨((⟨#[]⟩ : ByteArray)), (0), (by first | rfl | (simp; done) | (simp [*]; done)), H', ⟨Nat.le_refl _⟩, ⟨by repeat (first | (with_reducible first | exact HB.out | apply below_alloc | apply pw_below_drewN | apply below_drew1) | exact HB.out)⟩, ⟨HI.out⟩⟩
    case round =>
      clear H'
      try clear c1
      try clear p2
      try clear c3
      obtain ⟨x4_1, x12_1, rfl, HA, HK1, HB0, HI⟩ := hrel
      obtain ⟨wI, rfl⟩ := bld.base HI
      have n0_ := Aside0.mk (Kd.C_below HR0.out HB0.out)
      have n1_ := Aside0.mk (tabs_ HT.out HB0.out)
      try clear HB
      clear HR0 HT
      have HR0 := n0_
      have HT := n1_
      clear n0_ n1_
      have HB := Aside0.mk (Below.refl wI.heap.size wI)
      cases gk with
      | zero => exact absurd HA.out (by simp [impl_CombText.l0])
      | succ k1 =>
        have H := HA.out
        clear HA
        simp only [impl_CombText.l0] at H
        by_cases c5 : x12_1 < (l0.length : Int)
        · rw [if_pos c5] at H
          have c5b0 : decide (x12_1 < (l0.length : Int)) = true := decide_eq_true c5
          clear c5
          by_cases c6 : 0 ≤ x12_1
          · rw [if_pos c6] at H
            have c6b0 : decide (0 ≤ x12_1) = true := decide_eq_true c6
            clear c6
            by_cases c7 : x12_1 < (l0.length : Int)
            · rw [if_pos c7] at H
              have c7b0 : decide (x12_1 < (l0.length : Int)) = true := decide_eq_true c7
              clear c7
              replace H := Option.bind_eq_some_iff.mp H
              obtain ⟨t171, A80, H⟩ := H
              replace H : (if t171.size + 1 ≤ 9223372036854775807 then ((impl_words.f k1 (([(rd_T38 l0 x12_1).f1] : List Int))).bind fun t175 => (if (t171 ++ (⟨#[32]⟩ : ByteArray)).size + t175.size ≤ 9223372036854775807 then (if x4_1.size + ((t171 ++ (⟨#[32]⟩ : ByteArray)) ++ t175).size ≤ 140737488355328 then (if ((rd_T38 l0 x12_1).f2) = 1 then (if (x4_1 ++ ((t171 ++ (⟨#[32]⟩ : ByteArray)) ++ t175)).size + 7 ≤ 140737488355328 then (if ((x4_1 ++ ((t171 ++ (⟨#[32]⟩ : ByteArray)) ++ t175)) ++ (⟨#[32, 100, 97, 109, 112, 101, 114]⟩ : ByteArray)).size + 1 ≤ 140737488355328 then (impl_CombText.l0 k1 (((x4_1 ++ ((t171 ++ (⟨#[32]⟩ : ByteArray)) ++ t175)) ++ (⟨#[32, 100, 97, 109, 112, 101, 114]⟩ : ByteArray)) ++ (⟨#[10]⟩ : ByteArray)) l0 (l0.length : Int) (wrap64 (x12_1 + 1))) else (none)) else (none)) else (if (x4_1 ++ ((t171 ++ (⟨#[32]⟩ : ByteArray)) ++ t175)).size + 1 ≤ 140737488355328 then (impl_CombText.l0 k1 ((x4_1 ++ ((t171 ++ (⟨#[32]⟩ : ByteArray)) ++ t175)) ++ (⟨#[10]⟩ : ByteArray)) l0 (l0.length : Int) (wrap64 (x12_1 + 1))) else (none))) else (none)) else (none))) else (none)) = some (r1, r2) := H
              have A8 := Aside0.mk A80
              clear A80
              by_cases c9 : t171.size + 1 ≤ 9223372036854775807
              · rw [if_pos c9] at H
                have c9b0 := eq_true c9
                have c9b1 : decide (t171.size + 1 ≤ 9223372036854775807) = true := decide_eq_true c9
                try have c9b2 : (9223372036854775807 < t171.size + 1) = False := eq_false (Nat.not_lt.2 c9)
                obtain ⟨y172, hy172⟩ : ∃ y_ : List Int, y_ = (([(rd_T38 l0 x12_1).f1] : List Int)) := ⟨_, rfl⟩
                replace H : ((impl_words.f k1 y172).bind fun t175 => (if (t171 ++ (⟨#[32]⟩ : ByteArray)).size + t175.size ≤ 9223372036854775807 then (if x4_1.size + ((t171 ++ (⟨#[32]⟩ : ByteArray)) ++ t175).size ≤ 140737488355328 then (if ((rd_T38 l0 x12_1).f2) = 1 then (if (x4_1 ++ ((t171 ++ (⟨#[32]⟩ : ByteArray)) ++ t175)).size + 7 ≤ 140737488355328 then (if ((x4_1 ++ ((t171 ++ (⟨#[32]⟩ : ByteArray)) ++ t175)) ++ (⟨#[32, 100, 97, 109, 112, 101, 114]⟩ : ByteArray)).size + 1 ≤ 140737488355328 then (impl_CombText.l0 k1 (((x4_1 ++ ((t171 ++ (⟨#[32]⟩ : ByteArray)) ++ t175)) ++ (⟨#[32, 100, 97, 109, 112, 101, 114]⟩ : ByteArray)) ++ (⟨#[10]⟩ : ByteArray)) l0 (l0.length : Int) (wrap64 (x12_1 + 1))) else (none)) else (none)) else (if (x4_1 ++ ((t171 ++ (⟨#[32]⟩ : ByteArray)) ++ t175)).size + 1 ≤ 140737488355328 then (impl_CombText.l0 k1 ((x4_1 ++ ((t171 ++ (⟨#[32]⟩ : ByteArray)) ++ t175)) ++ (⟨#[10]⟩ : ByteArray)) l0 (l0.length : Int) (wrap64 (x12_1 + 1))) else (none))) else (none)) else (none))) = some (r1, r2) := by first | (rw [hy172]; with_reducible exact H) | (have H2_ := (Option.bind_some _ _).symm.trans H; rw [hy172]; with_reducible exact H2_) | (have H2_ := (Option.bind_some _ _).symm.trans H; with_reducible exact H2_) | with_reducible exact H | (rw [hy172]; exact H) | exact H
                have Ny172 := Aside0.mk hy172
                clear hy172
                replace H := Option.bind_eq_some_iff.mp H
                obtain ⟨t175, A100, H⟩ := H
                replace H : (if (t171 ++ (⟨#[32]⟩ : ByteArray)).size + t175.size ≤ 9223372036854775807 then (if x4_1.size + ((t171 ++ (⟨#[32]⟩ : ByteArray)) ++ t175).size ≤ 140737488355328 then (if ((rd_T38 l0 x12_1).f2) = 1 then (if (x4_1 ++ ((t171 ++ (⟨#[32]⟩ : ByteArray)) ++ t175)).size + 7 ≤ 140737488355328 then (if ((x4_1 ++ ((t171 ++ (⟨#[32]⟩ : ByteArray)) ++ t175)) ++ (⟨#[32, 100, 97, 109, 112, 101, 114]⟩ : ByteArray)).size + 1 ≤ 140737488355328 then (impl_CombText.l0 k1 (((x4_1 ++ ((t171 ++ (⟨#[32]⟩ : ByteArray)) ++ t175)) ++ (⟨#[32, 100, 97, 109, 112, 101, 114]⟩ : ByteArray)) ++ (⟨#[10]⟩ : ByteArray)) l0 (l0.length : Int) (wrap64 (x12_1 + 1))) else (none)) else (none)) else (if (x4_1 ++ ((t171 ++ (⟨#[32]⟩ : ByteArray)) ++ t175)).size + 1 ≤ 140737488355328 then (impl_CombText.l0 k1 ((x4_1 ++ ((t171 ++ (⟨#[32]⟩ : ByteArray)) ++ t175)) ++ (⟨#[10]⟩ : ByteArray)) l0 (l0.length : Int) (wrap64 (x12_1 + 1))) else (none))) else (none)) else (none)) = some (r1, r2) := H
                have A10 := Aside0.mk A100
                clear A100
                by_cases c11 : (t171 ++ (⟨#[32]⟩ : ByteArray)).size + t175.size ≤ 9223372036854775807
                · rw [if_pos c11] at H
                  have c11b0 := eq_true c11
                  have c11b1 : decide ((t171 ++ (⟨#[32]⟩ : ByteArray)).size + t175.size ≤ 9223372036854775807) = true := decide_eq_true c11
                  try have c11b2 : (9223372036854775807 < (t171 ++ (⟨#[32]⟩ : ByteArray)).size + t175.size) = False := eq_false (Nat.not_lt.2 c11)
                  try (have c11b3 := c11b2; simp only [ByteArray.size_append, show (⟨#[32]⟩ : ByteArray).size = 1 from rfl] at c11b3)
                  by_cases c12 : x4_1.size + ((t171 ++ (⟨#[32]⟩ : ByteArray)) ++ t175).size ≤ 140737488355328
                  · rw [if_pos c12] at H
                    have c12b0 := eq_true c12
                    have c12b1 : decide (x4_1.size + ((t171 ++ (⟨#[32]⟩ : ByteArray)) ++ t175).size ≤ 140737488355328) = true := decide_eq_true c12
                    try have c12b2 : (140737488355328 < x4_1.size + ((t171 ++ (⟨#[32]⟩ : ByteArray)) ++ t175).size) = False := eq_false (Nat.not_lt.2 c12)
                    try (have c12b3 := c12b2; simp only [ByteArray.size_append, show (⟨#[32]⟩ : ByteArray).size = 1 from rfl] at c12b3)
                    by_cases c13 : ((rd_T38 l0 x12_1).f2) = 1
                    · rw [if_pos c13] at H
                      have c13b0 : (((rd_T38 l0 x12_1).f2) == 1) = true := beq_iff_eq.mpr c13
                      have c13b1 : (((rd_T38 l0 x12_1).f2) != 1) = false := bne_eq_false_iff_eq.mpr c13
                      clear c13
                      by_cases c14 : (x4_1 ++ ((t171 ++ (⟨#[32]⟩ : ByteArray)) ++ t175)).size + 7 ≤ 140737488355328
                      · rw [if_pos c14] at H
                        have c14b0 := eq_true c14
                        have c14b1 : decide ((x4_1 ++ ((t171 ++ (⟨#[32]⟩ : ByteArray)) ++ t175)).size + 7 ≤ 140737488355328) = true := decide_eq_true c14
                        try have c14b2 : (140737488355328 < (x4_1 ++ ((t171 ++ (⟨#[32]⟩ : ByteArray)) ++ t175)).size + 7) = False := eq_false (Nat.not_lt.2 c14)
                        try (have c14b3 := c14b2; simp only [ByteArray.size_append, show (⟨#[32]⟩ : ByteArray).size = 1 from rfl] at c14b3)
                        by_cases c15 : ((x4_1 ++ ((t171 ++ (⟨#[32]⟩ : ByteArray)) ++ t175)) ++ (⟨#[32, 100, 97, 109, 112, 101, 114]⟩ : ByteArray)).size + 1 ≤ 140737488355328
                        · rw [if_pos c15] at H
                          have c15b0 := eq_true c15
                          have c15b1 : decide (((x4_1 ++ ((t171 ++ (⟨#[32]⟩ : ByteArray)) ++ t175)) ++ (⟨#[32, 100, 97, 109, 112, 101, 114]⟩ : ByteArray)).size + 1 ≤ 140737488355328) = true := decide_eq_true c15
                          try have c15b2 : (140737488355328 < ((x4_1 ++ ((t171 ++ (⟨#[32]⟩ : ByteArray)) ++ t175)) ++ (⟨#[32, 100, 97, 109, 112, 101, 114]⟩ : ByteArray)).size + 1) = False := eq_false (Nat.not_lt.2 c15)
                          try (have c15b3 := c15b2; simp only [ByteArray.size_append, show (⟨#[32, 100, 97, 109, 112, 101, 114]⟩ : ByteArray).size = 7 from rfl, show (⟨#[32]⟩ : ByteArray).size = 1 from rfl] at c15b3)
                          have H' := Aside0.mk H
                          clear H
                          have p169 : 0 ≤ (x12_1 : Int) := of_decide_eq_true (by first | (with_reducible assumption) | assumption)
                          have q169 : x12_1 < (l0.length : Int) := of_decide_eq_true (by first | (with_reducible assumption) | assumption)
                          obtain ⟨ad169, e169, hx169_0, hx169_1, hx169_2⟩ := at_T38 HR0.out x12_1 p169 q169
                          cases e169
                          replace hx169_0 := (HB.out.cell (World.block_lt_of_cell? wI _ hx169_0)).trans hx169_0
                          replace hx169_1 := (HB.out.cell (World.block_lt_of_cell? wI _ hx169_1)).trans hx169_1
                          replace hx169_2 := (HB.out.cell (World.block_lt_of_cell? wI _ hx169_2)).trans hx169_2
                          replace p169 := eq_true p169
                          replace q169 := eq_true q169
                          try go_wp2_with (first | ((with_reducible refine gate_dst (N := 6) rfl ?_); refine box_event ?hg (N := 6) ?hd (cs := #[.int .i64 0, .int .i64 0, .int .i64 0]) (t := 38) ?hr ?_; (case hd => rfl); (case hg => rfl); (case hr => first | (go_simp; done) | (go_simp; rfl)); intro gb170 hg w16 hbox hb; have n0_ := Aside0.mk (below_step (by repeat (first | (with_reducible first | exact HB.out | apply below_alloc | apply pw_below_drewN | apply below_drew1) | exact HB.out)) hb); have n1_ := Aside0.mk (hbox); have n2_ := Aside0.mk ((by rw [hg]; exact (below_size (by repeat (first | (with_reducible first | exact HB.out | apply below_alloc | apply pw_below_drewN | apply below_drew1) | exact HB.out))) : wI.heap.size ≤ gb170)); have n3_ := Aside0.mk ((by rw [hg]; exact (below_size (by repeat (first | (with_reducible first | exact HB.out | apply below_alloc | apply pw_below_drewN | apply below_drew1) | exact HB.out))) : wI.heap.size ≤ gb170)); clear HB; have HB := n0_; have BK170 := n1_; have GW170 := n2_; have GE170 := n3_; clear n0_ n1_ n2_ n3_; clear hb hbox hg; have hcz17_0 : w16.cell? ⟨gb170, 0, none⟩ = some (.int .i64 0) := (blk_cell BK170.out 0).trans rfl; have hcz17_1 : w16.cell? ⟨gb170, 1, none⟩ = some (.int .i64 0) := (blk_cell BK170.out 1).trans rfl; have hcz17_2 : w16.cell? ⟨gb170, 2, none⟩ = some (.int .i64 0) := (blk_cell BK170.out 2).trans rfl; have hfz17_0 := blk_frozen BK170.out 0; have hfz17_1 := blk_frozen BK170.out 1; have hfz17_2 := blk_frozen BK170.out 2))
                          have n0_ : Aside0 ((((w16.setCell ⟨gb170, 0, none⟩ (.int .i64 ((rd_T38 l0 x12_1).f0))).setCell ⟨gb170, 1, none⟩ (.int .i64 ((rd_T38 l0 x12_1).f1))).setCell ⟨gb170, 2, none⟩ (.int .i64 ((rd_T38 l0 x12_1).f2))).heap[gb170]? = some (.cells #[.int .i64 ((rd_T38 l0 x12_1).f0), .int .i64 ((rd_T38 l0 x12_1).f1), .int .i64 ((rd_T38 l0 x12_1).f2)] 38 (0, 0))) := ⟨by (with_reducible repeat (first | refine blk_drewN ?_ _ | refine blk_drew ?_ | refine blk_alloc ?_ _)); refine blk_put (cs := #[.int .i64 ((rd_T38 l0 x12_1).f0), .int .i64 ((rd_T38 l0 x12_1).f1), .int .i64 0]) ?_ 2 _ rfl; (with_reducible repeat (first | refine blk_drewN ?_ _ | refine blk_drew ?_ | refine blk_alloc ?_ _)); refine blk_put (cs := #[.int .i64 ((rd_T38 l0 x12_1).f0), .int .i64 0, .int .i64 0]) ?_ 1 _ rfl; (with_reducible repeat (first | refine blk_drewN ?_ _ | refine blk_drew ?_ | refine blk_alloc ?_ _)); refine blk_put (cs := #[.int .i64 0, .int .i64 0, .int .i64 0]) ?_ 0 _ rfl; (with_reducible repeat (first | refine blk_drewN ?_ _ | refine blk_drew ?_ | refine blk_alloc ?_ _)); exact BK170.out⟩
                          have n1_ : Aside0 (Below wI.heap.size wI (((w16.setCell ⟨gb170, 0, none⟩ (.int .i64 ((rd_T38 l0 x12_1).f0))).setCell ⟨gb170, 1, none⟩ (.int .i64 ((rd_T38 l0 x12_1).f1))).setCell ⟨gb170, 2, none⟩ (.int .i64 ((rd_T38 l0 x12_1).f2)))) := ⟨by repeat (first | (with_reducible first | exact HB.out | apply below_alloc | apply pw_below_drewN | apply below_drew1 | refine below_set ?_ GE170.out) | exact HB.out)⟩
                          (try clear BK170)
                          (try clear HB)
                          generalize (((w16.setCell ⟨gb170, 0, none⟩ (.int .i64 ((rd_T38 l0 x12_1).f0))).setCell ⟨gb170, 1, none⟩ (.int .i64 ((rd_T38 l0 x12_1).f1))).setCell ⟨gb170, 2, none⟩ (.int .i64 ((rd_T38 l0 x12_1).f2))) = w18 at n0_ n1_ ⊢
                          have BK170 := n0_
                          have HB := n1_
                          clear n0_ n1_
                          have n0_ := Aside0.mk (blk_drew BK170.out)
                          have n1_ := Aside0.mk (below_drew1 HB.out)
                          clear BK170
                          clear HB
                          have BK170 := n0_
                          have HB := n1_
                          clear n0_ n1_
                          refine start_ (n := 10) (S := fun w' => True) (ds := []) #[false, false, false, false, false, false, false, false, false, false] (by kernel_rfl) rfl rfl trivial (fun hHeld => ?_); refine with_tabW impl_CombText.tab7 impl_CombText.bits7 (fun HT_ HW_ => ?_)
                          generalize w18.drew = w19 at BK170 HB hHeld ⊢
                          refine pure_ (i := 0) (N := some 16) (v := ?_) (a' := ?_) #[true, false, false, false, false, false, false, false, false, false] rfl rfl (any_of HT_.out (by kernel_rfl)) (fun _ _ _ h => h) (Or.inl ⟨by rfl, ?_⟩) ?_ ?_
                          rotate_left
                          · intro w'
                            go_simp
                            with_reducible rfl
                          rotate_left
                          · simp only [Act.put, List.setIfInBounds_toArray, List.set_cons_zero, List.set_cons_succ, i64_w, i32_w]
                            rfl
                          refine pure_ (i := 4) (N := some 20) (v := ?_) (a' := ?_) #[true, false, false, false, true, false, false, false, false, false] rfl rfl (any_of HT_.out (by kernel_rfl)) (fun _ _ _ h => h) (Or.inl ⟨by rfl, ?_⟩) ?_ ?_
                          rotate_left
                          · intro w'
                            go_simp
                            with_reducible rfl
                          rotate_left
                          · simp only [Act.put, List.setIfInBounds_toArray, List.set_cons_zero, List.set_cons_succ, i64_w, i32_w]
                            rfl
                          refine inv_at [1, 2, 3, 5, 6, 7, 8, 9] (fun a0_ b a w' => ∃ (v173 : Value), a = putSel a0_ b [(1, 17, .int .i64 ((rd_T38 l0 x12_1).f0)), (2, 18, .string t171), (3, 19, .string (t171 ++ (⟨#[32]⟩ : ByteArray))), (5, 21, .int .i64 ((rd_T38 l0 x12_1).f1)), (6, 22, v173), (7, 23, .string t175), (8, 24, .string ((t171 ++ (⟨#[32]⟩ : ByteArray)) ++ t175)), (9, 25, .tuple #[.int .i64 ((((t171 ++ (⟨#[32]⟩ : ByteArray)) ++ t175)).size : Int), .nilIface])] ∧ (w'.heap[gb170]? = some (.cells #[.int .i64 ((rd_T38 l0 x12_1).f0), .int .i64 ((rd_T38 l0 x12_1).f1), .int .i64 ((rd_T38 l0 x12_1).f2)] 38 (0, 0))) ∧ (b 9 = false → Below wI.heap.size wI w') ∧ (b 6 = true → Kd.R (Kd.int .i64) 3 w' wI.heap.size (fun _ => True) v173 y172) ∧ (b 9 = true → bld.Is w w' gb (x4_1 ++ ((t171 ++ (⟨#[32]⟩ : ByteArray)) ++ t175)) ∧ Below w.heap.size w w')) HT_.out HW_.out (by kernel_rfl) (by kernel_rfl) ?_ ?_ ?_
                          · exact ⟨.bool false, by simp only [putSel, Bool.false_eq_true, if_false], BK170.out, fun _ => HB.out, fun h_ => absurd h_ (by decide), fun h_ => absurd h_ (by decide)⟩
                          · skip
                            clear BK170 HB
                            refine steps_cons ?_ ?_
                            · rintro b a w' ⟨v173, ha, Q_BK170, Q_HB, Q_HO174, Q_HI⟩ hb_ hon hoff
                              refine ⟨_, rfl, fun K hK => ?_⟩
                              have e16 : a.tmps[16]? = some (.pointer (some ⟨gb170, 0, none⟩)) := by rw [ha]; exact (putSel_off rfl).trans rfl
                              replace ha := Aside0.mk ha
                              have BK170 := Aside0.mk Q_BK170
                              have HB := Aside0.mk (Q_HB (hoff 9 (by kernel_rfl)))
                              have hc0_ : w'.cell? ⟨gb170, 0, none⟩ = some (.int .i64 ((rd_T38 l0 x12_1).f0)) := (blk_cell BK170.out 0).trans rfl
                              have hc1_ : w'.cell? ⟨gb170, 1, none⟩ = some (.int .i64 ((rd_T38 l0 x12_1).f1)) := (blk_cell BK170.out 1).trans rfl
                              have hc2_ : w'.cell? ⟨gb170, 2, none⟩ = some (.int .i64 ((rd_T38 l0 x12_1).f2)) := (blk_cell BK170.out 2).trans rfl
                              refine value_ (w1 := w') (v := .int .i64 ((rd_T38 l0 x12_1).f0)) (by rfl) rfl ?_ ?_
                              · go_simp
                                (try simp only [i64_w])
                                try rfl
                              refine hK.out _ _ ⟨v173, (by rw [ha.out]; exact putSel_upk 0 hb_ rfl rfl rfl), Q_BK170, (fun _ => HB.out), Q_HO174, (fun h9_ => absurd ((hoff 9 (by kernel_rfl)).symm.trans h9_) (by decide))⟩
                            refine steps_cons ?_ ?_
                            · rintro b a w' ⟨v173, ha, Q_BK170, Q_HB, Q_HO174, Q_HI⟩ hb_ hon hoff
                              refine ⟨_, rfl, fun K hK => ?_⟩
                              have e17 : a.tmps[17]? = some (.int .i64 ((rd_T38 l0 x12_1).f0)) := by rw [ha]; exact putSel_on (e := (1, 17, .int .i64 ((rd_T38 l0 x12_1).f0))) 0 rfl rfl (hon 1 (by kernel_rfl)) rfl
                              replace ha := Aside0.mk ha
                              have BK170 := Aside0.mk Q_BK170
                              have HB := Aside0.mk (Q_HB (hoff 9 (by kernel_rfl)))
                              refine goes_ Tryd.func21 (by kernel_rfl) rfl #[.int .i64 ((rd_T38 l0 x12_1).f0)] (by rfl) rfl rfl (by first | (simp only [List.map_toArray, List.map_cons, List.map_nil, Act.eval, Array.getD_eq_getD_getElem?, Option.getD_some, e17]; done) | (simp only [List.map_toArray, List.map_cons, List.map_nil, Act.eval, Array.getD_eq_getD_getElem?, Option.getD_some, e17]; rfl)) ?_
                              with_reducible refine (impl_pitchName.calls ((rd_T38 l0 x12_1).f0) t171 _ A8.out (tabs_ HT.out (by repeat (first | (with_reducible first | exact HB.out | apply below_alloc | apply pw_below_drewN | apply below_drew1 | refine below_set ?_ (by assumption)) | exact HB.out)))).mono ?_
                              rintro e w20 ⟨rfl, hb⟩
                              refine ⟨_, rfl, ?_⟩
                              have n0_ := Aside0.mk (blk_below (g := gb170) (o := .cells #[.int .i64 ((rd_T38 l0 x12_1).f0), .int .i64 ((rd_T38 l0 x12_1).f1), .int .i64 ((rd_T38 l0 x12_1).f2)] 38 (0, 0)) (by (with_reducible repeat (first | refine blk_drewN ?_ _ | refine blk_drew ?_ | refine blk_alloc ?_ _)); exact BK170.out) hb)
                              have n1_ := Aside0.mk (below_step (by repeat (first | (with_reducible first | exact HB.out | apply below_alloc | apply pw_below_drewN | apply below_drew1 | refine below_set ?_ GE170.out) | exact HB.out)) hb)
                              have z_HO174 := fun (h0_ : b 6 = true) => (show Kd.R (Kd.int .i64) 3 w20 wI.heap.size (fun _ => True) v173 y172 from by first | exact (Kd.R_below (by (with_reducible repeat (first | apply Kd.R_alloc | apply Kd.R_drewN | apply Kd.R_drew)); exact (Q_HO174 h0_)) hb) | exact Kd.R_mono (Kd.R_below (by (with_reducible repeat (first | apply Kd.R_alloc | apply Kd.R_drewN | apply Kd.R_drew)); exact (Q_HO174 h0_)) hb) (fun _ h_ => by first | trivial | exact h_ | exact h_.1))
                              clear BK170
                              clear HB
                              have BK170 := n0_
                              have HB := n1_
                              clear n0_ n1_
                              (try clear hb)
                              (try clear hb2)
                              (try clear hk)
                              (try clear hi)
                              refine hK.out _ _ ⟨v173, (by rw [ha.out]; exact putSel_upk 1 hb_ rfl rfl rfl), (by (with_reducible repeat (first | refine blk_drewN ?_ _ | refine blk_drew ?_ | refine blk_alloc ?_ _)); exact BK170.out), (fun _ => (by repeat (first | (with_reducible first | exact HB.out | apply below_alloc | apply pw_below_drewN | apply below_drew1 | refine below_set ?_ GE170.out) | exact HB.out))), z_HO174, (fun h9_ => absurd ((hoff 9 (by kernel_rfl)).symm.trans h9_) (by decide))⟩
                            refine steps_cons ?_ ?_
                            · rintro b a w' ⟨v173, ha, Q_BK170, Q_HB, Q_HO174, Q_HI⟩ hb_ hon hoff
                              refine ⟨_, rfl, fun K hK => ?_⟩
                              have e18 : a.tmps[18]? = some (.string t171) := by rw [ha]; exact putSel_on (e := (2, 18, .string t171)) 1 rfl rfl (hon 2 (by kernel_rfl)) rfl
                              replace ha := Aside0.mk ha
                              have BK170 := Aside0.mk Q_BK170
                              have HB := Aside0.mk (Q_HB (hoff 9 (by kernel_rfl)))
                              refine value_ (w1 := w') (v := .string (t171 ++ (⟨#[32]⟩ : ByteArray))) (by rfl) rfl ?_ ?_
                              · go_simp
                                (try simp only [i64_w])
                                try rfl
                              refine hK.out _ _ ⟨v173, (by rw [ha.out]; exact putSel_upk 2 hb_ rfl rfl rfl), Q_BK170, (fun _ => HB.out), Q_HO174, (fun h9_ => absurd ((hoff 9 (by kernel_rfl)).symm.trans h9_) (by decide))⟩
                            refine steps_cons ?_ ?_
                            · rintro b a w' ⟨v173, ha, Q_BK170, Q_HB, Q_HO174, Q_HI⟩ hb_ hon hoff
                              refine ⟨_, rfl, fun K hK => ?_⟩
                              have e20 : a.tmps[20]? = some (.pointer (some ⟨gb170, 1, none⟩)) := by rw [ha]; exact (putSel_off rfl).trans rfl
                              replace ha := Aside0.mk ha
                              have BK170 := Aside0.mk Q_BK170
                              have HB := Aside0.mk (Q_HB (hoff 9 (by kernel_rfl)))
                              have hc0_ : w'.cell? ⟨gb170, 0, none⟩ = some (.int .i64 ((rd_T38 l0 x12_1).f0)) := (blk_cell BK170.out 0).trans rfl
                              have hc1_ : w'.cell? ⟨gb170, 1, none⟩ = some (.int .i64 ((rd_T38 l0 x12_1).f1)) := (blk_cell BK170.out 1).trans rfl
                              have hc2_ : w'.cell? ⟨gb170, 2, none⟩ = some (.int .i64 ((rd_T38 l0 x12_1).f2)) := (blk_cell BK170.out 2).trans rfl
                              refine value_ (w1 := w') (v := .int .i64 ((rd_T38 l0 x12_1).f1)) (by rfl) rfl ?_ ?_
                              · go_simp
                                (try simp only [i64_w])
                                try rfl
                              refine hK.out _ _ ⟨v173, (by rw [ha.out]; exact putSel_upk 3 hb_ rfl rfl rfl), Q_BK170, (fun _ => HB.out), fun h0_ => absurd ((hoff 6 (by kernel_rfl)).symm.trans h0_) (by decide), (fun h9_ => absurd ((hoff 9 (by kernel_rfl)).symm.trans h9_) (by decide))⟩
                            refine steps_cons ?_ ?_
                            · rintro b a w' ⟨v173, ha, Q_BK170, Q_HB, Q_HO174, Q_HI⟩ hb_ hon hoff
                              refine ⟨_, rfl, fun K hK => ?_⟩
                              have e21 : a.tmps[21]? = some (.int .i64 ((rd_T38 l0 x12_1).f1)) := by rw [ha]; exact putSel_on (e := (5, 21, .int .i64 ((rd_T38 l0 x12_1).f1))) 3 rfl rfl (hon 5 (by kernel_rfl)) rfl
                              replace ha := Aside0.mk ha
                              have BK170 := Aside0.mk Q_BK170
                              have HB := Aside0.mk (Q_HB (hoff 9 (by kernel_rfl)))
                              refine Kd.R_lit_step (Kd.int .i64) _ 3 ?hg (N := 22) ?hd (xs := ([(rd_T38 l0 x12_1).f1] : List Int)) (inner := [.int .i64 ((rd_T38 l0 x12_1).f1)]) (ok := fun _ => True) (okp := fun _ => True) ?hr ?hp (fun _ hk => hk) trivial (Below.refl _ _) (Nat.le_refl _) (by simp) ?_; (case hd => rfl); (case hg => rfl); (case hr => first | (go_simp; done) | (go_simp; rfl)); (case hp => exact (Reps.one (show Kd.M (Kd.int .i64) _ _ _ ((rd_T38 l0 x12_1).f1) [.int .i64 ((rd_T38 l0 x12_1).f1)] from rfl) (Reps.none _ _)))
                              intro v173 w20 ho21 hb hg_ hnew_
                              clear hg_ hnew_
                              (first | rw [← Ny172.out] at ho21 | (simp only [Int.reduceToNat] at ho21; rw [← Ny172.out] at ho21))
                              have n0_ := Aside0.mk (Kd.R_lower ho21 (below_size (by repeat (first | (with_reducible first | exact HB.out | apply below_alloc | apply pw_below_drewN | apply below_drew1 | refine below_set ?_ GE170.out) | exact HB.out))))
                              have n1_ := Aside0.mk (blk_below (g := gb170) (o := .cells #[.int .i64 ((rd_T38 l0 x12_1).f0), .int .i64 ((rd_T38 l0 x12_1).f1), .int .i64 ((rd_T38 l0 x12_1).f2)] 38 (0, 0)) (by (with_reducible repeat (first | refine blk_drewN ?_ _ | refine blk_drew ?_ | refine blk_alloc ?_ _)); exact BK170.out) hb)
                              have n2_ := Aside0.mk (below_step (by repeat (first | (with_reducible first | exact HB.out | apply below_alloc | apply pw_below_drewN | apply below_drew1 | refine below_set ?_ GE170.out) | exact HB.out)) hb)
                              clear BK170
                              clear HB
                              have HO174 := n0_
                              have BK170 := n1_
                              have HB := n2_
                              clear n0_ n1_ n2_
                              clear hb ho21
                              refine hK.out _ _ ⟨v173, (by rw [ha.out]; exact putSel_upk 4 hb_ rfl rfl rfl), (by (with_reducible repeat (first | refine blk_drewN ?_ _ | refine blk_drew ?_ | refine blk_alloc ?_ _)); exact BK170.out), (fun _ => (by repeat (first | (with_reducible first | exact HB.out | apply below_alloc | apply pw_below_drewN | apply below_drew1 | refine below_set ?_ GE170.out) | exact HB.out))), fun _ => (by (with_reducible repeat (first | apply Kd.R_alloc | apply Kd.R_drewN | apply Kd.R_drew)); exact HO174.out), (fun h9_ => absurd ((hoff 9 (by kernel_rfl)).symm.trans h9_) (by decide))⟩
                            refine steps_cons ?_ ?_
                            · rintro b a w' ⟨v173, ha, Q_BK170, Q_HB, Q_HO174, Q_HI⟩ hb_ hon hoff
                              refine ⟨_, rfl, fun K hK => ?_⟩
                              have e22 : a.tmps[22]? = some (v173) := by rw [ha]; exact putSel_on (e := (6, 22, v173)) 4 rfl rfl (hon 6 (by kernel_rfl)) rfl
                              replace ha := Aside0.mk ha
                              have BK170 := Aside0.mk Q_BK170
                              have HB := Aside0.mk (Q_HB (hoff 9 (by kernel_rfl)))
                              have HO174 := Aside0.mk (Q_HO174 (hon 6 (by kernel_rfl)))
                              obtain ⟨Ao24, co24, eo24⟩ := Kd.R_slice HO174.out
                              (first | subst eo24 | (injection eo24 with f1_ f2_ f3_; have f4_ := f1_.symm; have f5_ := f3_.symm; clear f1_ f2_ f3_; subst f4_; subst f5_))
                              refine goes_ Tryd.func22 (by kernel_rfl) rfl #[.slice Ao24 y172.length co24] (by rfl) rfl rfl (by first | (simp only [List.map_toArray, List.map_cons, List.map_nil, Act.eval, Array.getD_eq_getD_getElem?, Option.getD_some, e22]; done) | (simp only [List.map_toArray, List.map_cons, List.map_nil, Act.eval, Array.getD_eq_getD_getElem?, Option.getD_some, e22]; rfl)) ?_
                              with_reducible refine (impl_words.calls k1 _ _ y172 t175 _ ?side1 ?side2 A10.out (tabs_ HT.out (by repeat (first | (with_reducible first | exact HB.out | apply below_alloc | apply pw_below_drewN | apply below_drew1 | refine below_set ?_ (by assumption)) | exact HB.out)))).mono ?_
                              (case side1 => repeat (first | exact (Kd.R_reads' HO174.out).2.2 | (with_reducible refine Kd.C_alloc ?_ _) | (with_reducible refine Kd.C_drewN ?_ _) | (with_reducible refine Kd.C_drew ?_)))
                              (case side2 => exact (Kd.R_reads' HO174.out).2.1)
                              rintro e w25 ⟨rfl, hb⟩
                              refine ⟨_, rfl, ?_⟩
                              have n0_ := Aside0.mk (Kd.R_below (by (with_reducible repeat (first | apply Kd.R_alloc | apply Kd.R_drewN | apply Kd.R_drew)); exact HO174.out) hb)
                              have n1_ := Aside0.mk (blk_below (g := gb170) (o := .cells #[.int .i64 ((rd_T38 l0 x12_1).f0), .int .i64 ((rd_T38 l0 x12_1).f1), .int .i64 ((rd_T38 l0 x12_1).f2)] 38 (0, 0)) (by (with_reducible repeat (first | refine blk_drewN ?_ _ | refine blk_drew ?_ | refine blk_alloc ?_ _)); exact BK170.out) hb)
                              have n2_ := Aside0.mk (below_step (by repeat (first | (with_reducible first | exact HB.out | apply below_alloc | apply pw_below_drewN | apply below_drew1 | refine below_set ?_ GE170.out) | exact HB.out)) hb)
                              clear HO174
                              clear BK170
                              clear HB
                              have HO174 := n0_
                              have BK170 := n1_
                              have HB := n2_
                              clear n0_ n1_ n2_
                              (try clear hb)
                              (try clear hb2)
                              (try clear hk)
                              (try clear hi)
                              refine hK.out _ _ ⟨.slice Ao24 y172.length co24, (by rw [ha.out]; exact putSel_upk 5 hb_ rfl rfl rfl), (by (with_reducible repeat (first | refine blk_drewN ?_ _ | refine blk_drew ?_ | refine blk_alloc ?_ _)); exact BK170.out), (fun _ => (by repeat (first | (with_reducible first | exact HB.out | apply below_alloc | apply pw_below_drewN | apply below_drew1 | refine below_set ?_ GE170.out) | exact HB.out))), fun _ => (by (with_reducible repeat (first | apply Kd.R_alloc | apply Kd.R_drewN | apply Kd.R_drew)); exact HO174.out), (fun h9_ => absurd ((hoff 9 (by kernel_rfl)).symm.trans h9_) (by decide))⟩
                            refine steps_cons ?_ ?_
                            · rintro b a w' ⟨v173, ha, Q_BK170, Q_HB, Q_HO174, Q_HI⟩ hb_ hon hoff
                              refine ⟨_, rfl, fun K hK => ?_⟩
                              have e19 : a.tmps[19]? = some (.string (t171 ++ (⟨#[32]⟩ : ByteArray))) := by rw [ha]; exact putSel_on (e := (3, 19, .string (t171 ++ (⟨#[32]⟩ : ByteArray)))) 2 rfl rfl (hon 3 (by kernel_rfl)) rfl
                              have e23 : a.tmps[23]? = some (.string t175) := by rw [ha]; exact putSel_on (e := (7, 23, .string t175)) 5 rfl rfl (hon 7 (by kernel_rfl)) rfl
                              replace ha := Aside0.mk ha
                              have BK170 := Aside0.mk Q_BK170
                              have HB := Aside0.mk (Q_HB (hoff 9 (by kernel_rfl)))
                              have HO174 := Aside0.mk (Q_HO174 (hon 6 (by kernel_rfl)))
                              refine value_ (w1 := w') (v := .string ((t171 ++ (⟨#[32]⟩ : ByteArray)) ++ t175)) (by rfl) rfl ?_ ?_
                              · go_simp
                                (try simp only [i64_w])
                                try rfl
                              refine hK.out _ _ ⟨v173, (by rw [ha.out]; exact putSel_upk 6 hb_ rfl rfl rfl), Q_BK170, (fun _ => HB.out), Q_HO174, (fun h9_ => absurd ((hoff 9 (by kernel_rfl)).symm.trans h9_) (by decide))⟩
                            refine steps_cons ?_ ?_
                            · rintro b a w' ⟨v173, ha, Q_BK170, Q_HB, Q_HO174, Q_HI⟩ hb_ hon hoff
                              refine ⟨_, rfl, fun K hK => ?_⟩
                              have e4 : a.tmps[4]? = some (.pointer (some ⟨gb, 0, none⟩)) := by rw [ha]; exact (putSel_off rfl).trans rfl
                              have e24 : a.tmps[24]? = some (.string ((t171 ++ (⟨#[32]⟩ : ByteArray)) ++ t175)) := by rw [ha]; exact putSel_on (e := (8, 24, .string ((t171 ++ (⟨#[32]⟩ : ByteArray)) ++ t175))) 6 rfl rfl (hon 8 (by kernel_rfl)) rfl
                              replace ha := Aside0.mk ha
                              have HB := Aside0.mk (Q_HB hb_)
                              have BK170 := Aside0.mk Q_BK170
                              have HO174 := Aside0.mk (Q_HO174 (hon 6 (by kernel_rfl)))
                              refine goes_ Tryd.func20 (by kernel_rfl) rfl #[.pointer (some ⟨gb, 0, none⟩), .string (((t171 ++ (⟨#[32]⟩ : ByteArray)) ++ t175))] (by rfl) rfl rfl (by first | (simp only [List.map_toArray, List.map_cons, List.map_nil, Act.eval, Array.getD_eq_getD_getElem?, Option.getD_some, e4, e24]; done) | (simp only [List.map_toArray, List.map_cons, List.map_nil, Act.eval, Array.getD_eq_getD_getElem?, Option.getD_some, e4, e24]; rfl)) ?_
                              have hIw_ := bld.Is.below HI.out HB.out
                              refine (bld.write gb x4_1 (((t171 ++ (⟨#[32]⟩ : ByteArray)) ++ t175)) w w' hIw_ (Nat.le_trans HB0.out.size HB.out.size) c12).mono ?_
                              rintro e w8_ ⟨rfl, hI2_, hb2_, ho2_⟩
                              refine ⟨_, rfl, ?_⟩
                              refine hK.out _ _ ⟨v173, (by rw [ha.out]; exact putSel_upk 7 hb_ rfl rfl rfl), bld.kept_blk ho2_ BK170.out (by decide) (by have := HI.out.lt; have := GE170.out; omega), (fun h9_ => absurd ((up_self b 9).symm.trans h9_) (by decide)), (fun h0_ => bld.kept_R hIw_ ho2_ (Q_HO174 h0_) (fun q hq => by rcases List.mem_cons.1 hq with rfl | hq <;> first | decide | exact absurd (show q ∈ ([] : List Nat) from hq) List.not_mem_nil)), fun _ => ⟨hI2_, bld.chain HB0.out HB.out HB0.out.size hb2_⟩⟩
                            exact steps_nil
                          rintro b a w25 hall ⟨v173, ha, Q_BK170, Q_HB, Q_HO174, Q_HI⟩
                          clear BK170 HB
                          have hb1_ := hall 1 (by kernel_rfl)
                          have hb2_ := hall 2 (by kernel_rfl)
                          have hb3_ := hall 3 (by kernel_rfl)
                          have hb5_ := hall 5 (by kernel_rfl)
                          have hb6_ := hall 6 (by kernel_rfl)
                          have hb7_ := hall 7 (by kernel_rfl)
                          have hb8_ := hall 8 (by kernel_rfl)
                          have hb9_ := hall 9 (by kernel_rfl)
                          subst ha
                          simp only [putSel, hb1_, hb2_, hb3_, hb5_, hb6_, hb7_, hb8_, hb9_, if_true, Act.put, List.setIfInBounds_toArray, List.set_cons_zero, List.set_cons_succ]
                          have BK170 := Aside0.mk Q_BK170
                          clear Q_BK170
                          obtain ⟨i1_, i2_⟩ := Q_HI hb9_
                          clear HI HB0
                          have HI := Aside0.mk i1_
                          have HB0 := Aside0.mk i2_
                          clear Q_HI i1_ i2_
                          clear Q_HB
                          have HO174 := Aside0.mk (Q_HO174 hb6_)
                          clear Q_HO174
                          clear hall hb1_ hb2_ hb3_ hb5_ hb6_ hb7_ hb8_ hb9_
                          have hcz26_0 : w25.cell? ⟨gb170, 0, none⟩ = some (.int .i64 ((rd_T38 l0 x12_1).f0)) := (blk_cell BK170.out 0).trans rfl
                          have hcz26_1 : w25.cell? ⟨gb170, 1, none⟩ = some (.int .i64 ((rd_T38 l0 x12_1).f1)) := (blk_cell BK170.out 1).trans rfl
                          have hcz26_2 : w25.cell? ⟨gb170, 2, none⟩ = some (.int .i64 ((rd_T38 l0 x12_1).f2)) := (blk_cell BK170.out 2).trans rfl
                          have hfz26_0 := blk_frozen BK170.out 0
                          have hfz26_1 := blk_frozen BK170.out 1
                          have hfz26_2 := blk_frozen BK170.out 2
                          go_wp2_with (first | ((with_reducible refine gate_callee (f := 20) rfl ?_); refine goesL_ (some 29) rfl rfl Tryd.func20 (by kernel_rfl) rfl #[.pointer (some ⟨gb, 0, none⟩), .string (⟨#[32, 100, 97, 109, 112, 101, 114]⟩ : ByteArray)] rfl (by (try simp only [List.map_toArray, List.map_cons, List.map_nil]); first | done | rfl | (simp only [List.length_drop, List.length_take]; rfl)) ?_; (refine (bld.write gb _ (⟨#[32, 100, 97, 109, 112, 101, 114]⟩ : ByteArray) w _ HI.out HB0.out.size c14).mono ?_); rintro e wz_ ⟨rfl, hI2_, hb2_, ho2_⟩; refine ⟨_, rfl, ?_⟩; have n0_ := Aside0.mk hI2_; have n1_ := Aside0.mk (HB0.out.trans hb2_); clear HI HB0; have HI := n0_; have HB0 := n1_; clear n0_ n1_ hI2_ hb2_ ho2_) | ((with_reducible refine gate_callee (f := 20) rfl ?_); refine goesL_ (some 30) rfl rfl Tryd.func20 (by kernel_rfl) rfl #[.pointer (some ⟨gb, 0, none⟩), .string (⟨#[10]⟩ : ByteArray)] rfl (by (try simp only [List.map_toArray, List.map_cons, List.map_nil]); first | done | rfl | (simp only [List.length_drop, List.length_take]; rfl)) ?_; (refine (bld.write gb _ (⟨#[10]⟩ : ByteArray) w _ HI.out HB0.out.size c15).mono ?_); rintro e wz_ ⟨rfl, hI2_, hb2_, ho2_⟩; refine ⟨_, rfl, ?_⟩; have n0_ := Aside0.mk hI2_; have n1_ := Aside0.mk (HB0.out.trans hb2_); clear HI HB0; have HI := n0_; have HB0 := n1_; clear n0_ n1_ hI2_ hb2_ ho2_))
                          go_roundg k1
                          case measure => have := HK1.out; omega
                          case rel => exact ⟨(((x4_1 ++ ((t171 ++ (⟨#[32]⟩ : ByteArray)) ++ t175)) ++ (⟨#[32, 100, 97, 109, 112, 101, 114]⟩ : ByteArray)) ++ (⟨#[10]⟩ : ByteArray)), (wrap64 (x12_1 + 1)), (by first | rfl | (simp; done) | (simp [*]; done)), H', ⟨by have := HK1.out; omega⟩, ⟨HB0.out⟩, ⟨HI.out⟩⟩
                        · rw [if_neg c15] at H
                          exact absurd H (by simp)
                      · rw [if_neg c14] at H
                        exact absurd H (by simp)
                    · rw [if_neg c13] at H
                      have c13b0 : (((rd_T38 l0 x12_1).f2) == 1) = false := beq_eq_false_iff_ne.mpr c13
                      have c13b1 : (((rd_T38 l0 x12_1).f2) != 1) = true := bne_iff_ne.mpr c13
                      by_cases c27 : (x4_1 ++ ((t171 ++ (⟨#[32]⟩ : ByteArray)) ++ t175)).size + 1 ≤ 140737488355328
                      · rw [if_pos c27] at H
                        have c27b0 := eq_true c27
                        have c27b1 : decide ((x4_1 ++ ((t171 ++ (⟨#[32]⟩ : ByteArray)) ++ t175)).size + 1 ≤ 140737488355328) = true := decide_eq_true c27
                        try have c27b2 : (140737488355328 < (x4_1 ++ ((t171 ++ (⟨#[32]⟩ : ByteArray)) ++ t175)).size + 1) = False := eq_false (Nat.not_lt.2 c27)
                        try (have c27b3 := c27b2; simp only [ByteArray.size_append, show (⟨#[32]⟩ : ByteArray).size = 1 from rfl] at c27b3)
                        have H' := Aside0.mk H
                        clear H
                        have p169 : 0 ≤ (x12_1 : Int) := of_decide_eq_true (by first | (with_reducible assumption) | assumption)
                        have q169 : x12_1 < (l0.length : Int) := of_decide_eq_true (by first | (with_reducible assumption) | assumption)
                        obtain ⟨ad169, e169, hx169_0, hx169_1, hx169_2⟩ := at_T38 HR0.out x12_1 p169 q169
                        cases e169
                        replace hx169_0 := (HB.out.cell (World.block_lt_of_cell? wI _ hx169_0)).trans hx169_0
                        replace hx169_1 := (HB.out.cell (World.block_lt_of_cell? wI _ hx169_1)).trans hx169_1
                        replace hx169_2 := (HB.out.cell (World.block_lt_of_cell? wI _ hx169_2)).trans hx169_2
                        replace p169 := eq_true p169
                        replace q169 := eq_true q169
                        try go_wp2_with (first | ((with_reducible refine gate_dst (N := 6) rfl ?_); refine box_event ?hg (N := 6) ?hd (cs := #[.int .i64 0, .int .i64 0, .int .i64 0]) (t := 38) ?hr ?_; (case hd => rfl); (case hg => rfl); (case hr => first | (go_simp; done) | (go_simp; rfl)); intro gb170 hg w28 hbox hb; have n0_ := Aside0.mk (below_step (by repeat (first | (with_reducible first | exact HB.out | apply below_alloc | apply pw_below_drewN | apply below_drew1) | exact HB.out)) hb); have n1_ := Aside0.mk (hbox); have n2_ := Aside0.mk ((by rw [hg]; exact (below_size (by repeat (first | (with_reducible first | exact HB.out | apply below_alloc | apply pw_below_drewN | apply below_drew1) | exact HB.out))) : wI.heap.size ≤ gb170)); have n3_ := Aside0.mk ((by rw [hg]; exact (below_size (by repeat (first | (with_reducible first | exact HB.out | apply below_alloc | apply pw_below_drewN | apply below_drew1) | exact HB.out))) : wI.heap.size ≤ gb170)); clear HB; have HB := n0_; have BK170 := n1_; have GW170 := n2_; have GE170 := n3_; clear n0_ n1_ n2_ n3_; clear hb hbox hg; have hcz29_0 : w28.cell? ⟨gb170, 0, none⟩ = some (.int .i64 0) := (blk_cell BK170.out 0).trans rfl; have hcz29_1 : w28.cell? ⟨gb170, 1, none⟩ = some (.int .i64 0) := (blk_cell BK170.out 1).trans rfl; have hcz29_2 : w28.cell? ⟨gb170, 2, none⟩ = some (.int .i64 0) := (blk_cell BK170.out 2).trans rfl; have hfz29_0 := blk_frozen BK170.out 0; have hfz29_1 := blk_frozen BK170.out 1; have hfz29_2 := blk_frozen BK170.out 2))
                        have n0_ : Aside0 ((((w28.setCell ⟨gb170, 0, none⟩ (.int .i64 ((rd_T38 l0 x12_1).f0))).setCell ⟨gb170, 1, none⟩ (.int .i64 ((rd_T38 l0 x12_1).f1))).setCell ⟨gb170, 2, none⟩ (.int .i64 ((rd_T38 l0 x12_1).f2))).heap[gb170]? = some (.cells #[.int .i64 ((rd_T38 l0 x12_1).f0), .int .i64 ((rd_T38 l0 x12_1).f1), .int .i64 ((rd_T38 l0 x12_1).f2)] 38 (0, 0))) := ⟨by (with_reducible repeat (first | refine blk_drewN ?_ _ | refine blk_drew ?_ | refine blk_alloc ?_ _)); refine blk_put (cs := #[.int .i64 ((rd_T38 l0 x12_1).f0), .int .i64 ((rd_T38 l0 x12_1).f1), .int .i64 0]) ?_ 2 _ rfl; (with_reducible repeat (first | refine blk_drewN ?_ _ | refine blk_drew ?_ | refine blk_alloc ?_ _)); refine blk_put (cs := #[.int .i64 ((rd_T38 l0 x12_1).f0), .int .i64 0, .int .i64 0]) ?_ 1 _ rfl; (with_reducible repeat (first | refine blk_drewN ?_ _ | refine blk_drew ?_ | refine blk_alloc ?_ _)); refine blk_put (cs := #[.int .i64 0, .int .i64 0, .int .i64 0]) ?_ 0 _ rfl; (with_reducible repeat (first | refine blk_drewN ?_ _ | refine blk_drew ?_ | refine blk_alloc ?_ _)); exact BK170.out⟩
                        have n1_ : Aside0 (Below wI.heap.size wI (((w28.setCell ⟨gb170, 0, none⟩ (.int .i64 ((rd_T38 l0 x12_1).f0))).setCell ⟨gb170, 1, none⟩ (.int .i64 ((rd_T38 l0 x12_1).f1))).setCell ⟨gb170, 2, none⟩ (.int .i64 ((rd_T38 l0 x12_1).f2)))) := ⟨by repeat (first | (with_reducible first | exact HB.out | apply below_alloc | apply pw_below_drewN | apply below_drew1 | refine below_set ?_ GE170.out) | exact HB.out)⟩
                        (try clear BK170)
                        (try clear HB)
                        generalize (((w28.setCell ⟨gb170, 0, none⟩ (.int .i64 ((rd_T38 l0 x12_1).f0))).setCell ⟨gb170, 1, none⟩ (.int .i64 ((rd_T38 l0 x12_1).f1))).setCell ⟨gb170, 2, none⟩ (.int .i64 ((rd_T38 l0 x12_1).f2))) = w30 at n0_ n1_ ⊢
                        have BK170 := n0_
                        have HB := n1_
                        clear n0_ n1_
                        have n0_ := Aside0.mk (blk_drew BK170.out)
                        have n1_ := Aside0.mk (below_drew1 HB.out)
                        clear BK170
                        clear HB
                        have BK170 := n0_
                        have HB := n1_
                        clear n0_ n1_
                        refine start_ (n := 10) (S := fun w' => True) (ds := []) #[false, false, false, false, false, false, false, false, false, false] (by kernel_rfl) rfl rfl trivial (fun hHeld => ?_); refine with_tabW impl_CombText.tab7 impl_CombText.bits7 (fun HT_ HW_ => ?_)
                        generalize w30.drew = w31 at BK170 HB hHeld ⊢
                        refine pure_ (i := 0) (N := some 16) (v := ?_) (a' := ?_) #[true, false, false, false, false, false, false, false, false, false] rfl rfl (any_of HT_.out (by kernel_rfl)) (fun _ _ _ h => h) (Or.inl ⟨by rfl, ?_⟩) ?_ ?_
                        rotate_left
                        · intro w'
                          go_simp
                          with_reducible rfl
                        rotate_left
                        · simp only [Act.put, List.setIfInBounds_toArray, List.set_cons_zero, List.set_cons_succ, i64_w, i32_w]
                          rfl
                        refine pure_ (i := 4) (N := some 20) (v := ?_) (a' := ?_) #[true, false, false, false, true, false, false, false, false, false] rfl rfl (any_of HT_.out (by kernel_rfl)) (fun _ _ _ h => h) (Or.inl ⟨by rfl, ?_⟩) ?_ ?_
                        rotate_left
                        · intro w'
                          go_simp
                          with_reducible rfl
                        rotate_left
                        · simp only [Act.put, List.setIfInBounds_toArray, List.set_cons_zero, List.set_cons_succ, i64_w, i32_w]
                          rfl
                        refine inv_at [1, 2, 3, 5, 6, 7, 8, 9] (fun a0_ b a w' => ∃ (v173 : Value), a = putSel a0_ b [(1, 17, .int .i64 ((rd_T38 l0 x12_1).f0)), (2, 18, .string t171), (3, 19, .string (t171 ++ (⟨#[32]⟩ : ByteArray))), (5, 21, .int .i64 ((rd_T38 l0 x12_1).f1)), (6, 22, v173), (7, 23, .string t175), (8, 24, .string ((t171 ++ (⟨#[32]⟩ : ByteArray)) ++ t175)), (9, 25, .tuple #[.int .i64 ((((t171 ++ (⟨#[32]⟩ : ByteArray)) ++ t175)).size : Int), .nilIface])] ∧ (w'.heap[gb170]? = some (.cells #[.int .i64 ((rd_T38 l0 x12_1).f0), .int .i64 ((rd_T38 l0 x12_1).f1), .int .i64 ((rd_T38 l0 x12_1).f2)] 38 (0, 0))) ∧ (b 9 = false → Below wI.heap.size wI w') ∧ (b 6 = true → Kd.R (Kd.int .i64) 3 w' wI.heap.size (fun _ => True) v173 y172) ∧ (b 9 = true → bld.Is w w' gb (x4_1 ++ ((t171 ++ (⟨#[32]⟩ : ByteArray)) ++ t175)) ∧ Below w.heap.size w w')) HT_.out HW_.out (by kernel_rfl) (by kernel_rfl) ?_ ?_ ?_
                        · exact ⟨.bool false, by simp only [putSel, Bool.false_eq_true, if_false], BK170.out, fun _ => HB.out, fun h_ => absurd h_ (by decide), fun h_ => absurd h_ (by decide)⟩
                        · skip
                          clear BK170 HB
                          refine steps_cons ?_ ?_
                          · rintro b a w' ⟨v173, ha, Q_BK170, Q_HB, Q_HO174, Q_HI⟩ hb_ hon hoff
                            refine ⟨_, rfl, fun K hK => ?_⟩
                            have e16 : a.tmps[16]? = some (.pointer (some ⟨gb170, 0, none⟩)) := by rw [ha]; exact (putSel_off rfl).trans rfl
                            replace ha := Aside0.mk ha
                            have BK170 := Aside0.mk Q_BK170
                            have HB := Aside0.mk (Q_HB (hoff 9 (by kernel_rfl)))
                            have hc0_ : w'.cell? ⟨gb170, 0, none⟩ = some (.int .i64 ((rd_T38 l0 x12_1).f0)) := (blk_cell BK170.out 0).trans rfl
                            have hc1_ : w'.cell? ⟨gb170, 1, none⟩ = some (.int .i64 ((rd_T38 l0 x12_1).f1)) := (blk_cell BK170.out 1).trans rfl
                            have hc2_ : w'.cell? ⟨gb170, 2, none⟩ = some (.int .i64 ((rd_T38 l0 x12_1).f2)) := (blk_cell BK170.out 2).trans rfl
                            refine value_ (w1 := w') (v := .int .i64 ((rd_T38 l0 x12_1).f0)) (by rfl) rfl ?_ ?_
                            · go_simp
                              (try simp only [i64_w])
                              try rfl
                            refine hK.out _ _ ⟨v173, (by rw [ha.out]; exact putSel_upk 0 hb_ rfl rfl rfl), Q_BK170, (fun _ => HB.out), Q_HO174, (fun h9_ => absurd ((hoff 9 (by kernel_rfl)).symm.trans h9_) (by decide))⟩
                          refine steps_cons ?_ ?_
                          · rintro b a w' ⟨v173, ha, Q_BK170, Q_HB, Q_HO174, Q_HI⟩ hb_ hon hoff
                            refine ⟨_, rfl, fun K hK => ?_⟩
                            have e17 : a.tmps[17]? = some (.int .i64 ((rd_T38 l0 x12_1).f0)) := by rw [ha]; exact putSel_on (e := (1, 17, .int .i64 ((rd_T38 l0 x12_1).f0))) 0 rfl rfl (hon 1 (by kernel_rfl)) rfl
                            replace ha := Aside0.mk ha
                            have BK170 := Aside0.mk Q_BK170
                            have HB := Aside0.mk (Q_HB (hoff 9 (by kernel_rfl)))
                            refine goes_ Tryd.func21 (by kernel_rfl) rfl #[.int .i64 ((rd_T38 l0 x12_1).f0)] (by rfl) rfl rfl (by first | (simp only [List.map_toArray, List.map_cons, List.map_nil, Act.eval, Array.getD_eq_getD_getElem?, Option.getD_some, e17]; done) | (simp only [List.map_toArray, List.map_cons, List.map_nil, Act.eval, Array.getD_eq_getD_getElem?, Option.getD_some, e17]; rfl)) ?_
                            with_reducible refine (impl_pitchName.calls ((rd_T38 l0 x12_1).f0) t171 _ A8.out (tabs_ HT.out (by repeat (first | (with_reducible first | exact HB.out | apply below_alloc | apply pw_below_drewN | apply below_drew1 | refine below_set ?_ (by assumption)) | exact HB.out)))).mono ?_
                            rintro e w32 ⟨rfl, hb⟩
                            refine ⟨_, rfl, ?_⟩
                            have n0_ := Aside0.mk (blk_below (g := gb170) (o := .cells #[.int .i64 ((rd_T38 l0 x12_1).f0), .int .i64 ((rd_T38 l0 x12_1).f1), .int .i64 ((rd_T38 l0 x12_1).f2)] 38 (0, 0)) (by (with_reducible repeat (first | refine blk_drewN ?_ _ | refine blk_drew ?_ | refine blk_alloc ?_ _)); exact BK170.out) hb)
                            have n1_ := Aside0.mk (below_step (by repeat (first | (with_reducible first | exact HB.out | apply below_alloc | apply pw_below_drewN | apply below_drew1 | refine below_set ?_ GE170.out) | exact HB.out)) hb)
                            have z_HO174 := fun (h0_ : b 6 = true) => (show Kd.R (Kd.int .i64) 3 w32 wI.heap.size (fun _ => True) v173 y172 from by first | exact (Kd.R_below (by (with_reducible repeat (first | apply Kd.R_alloc | apply Kd.R_drewN | apply Kd.R_drew)); exact (Q_HO174 h0_)) hb) | exact Kd.R_mono (Kd.R_below (by (with_reducible repeat (first | apply Kd.R_alloc | apply Kd.R_drewN | apply Kd.R_drew)); exact (Q_HO174 h0_)) hb) (fun _ h_ => by first | trivial | exact h_ | exact h_.1))
                            clear BK170
                            clear HB
                            have BK170 := n0_
                            have HB := n1_
                            clear n0_ n1_
                            (try clear hb)
                            (try clear hb2)
                            (try clear hk)
                            (try clear hi)
                            refine hK.out _ _ ⟨v173, (by rw [ha.out]; exact putSel_upk 1 hb_ rfl rfl rfl), (by (with_reducible repeat (first | refine blk_drewN ?_ _ | refine blk_drew ?_ | refine blk_alloc ?_ _)); exact BK170.out), (fun _ => (by repeat (first | (with_reducible first | exact HB.out | apply below_alloc | apply pw_below_drewN | apply below_drew1 | refine below_set ?_ GE170.out) | exact HB.out))), z_HO174, (fun h9_ => absurd ((hoff 9 (by kernel_rfl)).symm.trans h9_) (by decide))⟩
                          refine steps_cons ?_ ?_
                          · rintro b a w' ⟨v173, ha, Q_BK170, Q_HB, Q_HO174, Q_HI⟩ hb_ hon hoff
                            refine ⟨_, rfl, fun K hK => ?_⟩
                            have e18 : a.tmps[18]? = some (.string t171) := by rw [ha]; exact putSel_on (e := (2, 18, .string t171)) 1 rfl rfl (hon 2 (by kernel_rfl)) rfl
                            replace ha := Aside0.mk ha
                            have BK170 := Aside0.mk Q_BK170
                            have HB := Aside0.mk (Q_HB (hoff 9 (by kernel_rfl)))
                            refine value_ (w1 := w') (v := .string (t171 ++ (⟨#[32]⟩ : ByteArray))) (by rfl) rfl ?_ ?_
                            · go_simp
                              (try simp only [i64_w])
                              try rfl
                            refine hK.out _ _ ⟨v173, (by rw [ha.out]; exact putSel_upk 2 hb_ rfl rfl rfl), Q_BK170, (fun _ => HB.out), Q_HO174, (fun h9_ => absurd ((hoff 9 (by kernel_rfl)).symm.trans h9_) (by decide))⟩
                          refine steps_cons ?_ ?_
                          · rintro b a w' ⟨v173, ha, Q_BK170, Q_HB, Q_HO174, Q_HI⟩ hb_ hon hoff
                            refine ⟨_, rfl, fun K hK => ?_⟩
                            have e20 : a.tmps[20]? = some (.pointer (some ⟨gb170, 1, none⟩)) := by rw [ha]; exact (putSel_off rfl).trans rfl
                            replace ha := Aside0.mk ha
                            have BK170 := Aside0.mk Q_BK170
                            have HB := Aside0.mk (Q_HB (hoff 9 (by kernel_rfl)))
                            have hc0_ : w'.cell? ⟨gb170, 0, none⟩ = some (.int .i64 ((rd_T38 l0 x12_1).f0)) := (blk_cell BK170.out 0).trans rfl
                            have hc1_ : w'.cell? ⟨gb170, 1, none⟩ = some (.int .i64 ((rd_T38 l0 x12_1).f1)) := (blk_cell BK170.out 1).trans rfl
                            have hc2_ : w'.cell? ⟨gb170, 2, none⟩ = some (.int .i64 ((rd_T38 l0 x12_1).f2)) := (blk_cell BK170.out 2).trans rfl
                            refine value_ (w1 := w') (v := .int .i64 ((rd_T38 l0 x12_1).f1)) (by rfl) rfl ?_ ?_
                            · go_simp
                              (try simp only [i64_w])
                              try rfl
                            refine hK.out _ _ ⟨v173, (by rw [ha.out]; exact putSel_upk 3 hb_ rfl rfl rfl), Q_BK170, (fun _ => HB.out), fun h0_ => absurd ((hoff 6 (by kernel_rfl)).symm.trans h0_) (by decide), (fun h9_ => absurd ((hoff 9 (by kernel_rfl)).symm.trans h9_) (by decide))⟩
                          refine steps_cons ?_ ?_
                          · rintro b a w' ⟨v173, ha, Q_BK170, Q_HB, Q_HO174, Q_HI⟩ hb_ hon hoff
                            refine ⟨_, rfl, fun K hK => ?_⟩
                            have e21 : a.tmps[21]? = some (.int .i64 ((rd_T38 l0 x12_1).f1)) := by rw [ha]; exact putSel_on (e := (5, 21, .int .i64 ((rd_T38 l0 x12_1).f1))) 3 rfl rfl (hon 5 (by kernel_rfl)) rfl
                            replace ha := Aside0.mk ha
                            have BK170 := Aside0.mk Q_BK170
                            have HB := Aside0.mk (Q_HB (hoff 9 (by kernel_rfl)))
                            refine Kd.R_lit_step (Kd.int .i64) _ 3 ?hg (N := 22) ?hd (xs := ([(rd_T38 l0 x12_1).f1] : List Int)) (inner := [.int .i64 ((rd_T38 l0 x12_1).f1)]) (ok := fun _ => True) (okp := fun _ => True) ?hr ?hp (fun _ hk => hk) trivial (Below.refl _ _) (Nat.le_refl _) (by simp) ?_; (case hd => rfl); (case hg => rfl); (case hr => first | (go_simp; done) | (go_simp; rfl)); (case hp => exact (Reps.one (show Kd.M (Kd.int .i64) _ _ _ ((rd_T38 l0 x12_1).f1) [.int .i64 ((rd_T38 l0 x12_1).f1)] from rfl) (Reps.none _ _)))
                            intro v173 w32 ho33 hb hg_ hnew_
                            clear hg_ hnew_
                            (first | rw [← Ny172.out] at ho33 | (simp only [Int.reduceToNat] at ho33; rw [← Ny172.out] at ho33))
                            have n0_ := Aside0.mk (Kd.R_lower ho33 (below_size (by repeat (first | (with_reducible first | exact HB.out | apply below_alloc | apply pw_below_drewN | apply below_drew1 | refine below_set ?_ GE170.out) | exact HB.out))))
                            have n1_ := Aside0.mk (blk_below (g := gb170) (o := .cells #[.int .i64 ((rd_T38 l0 x12_1).f0), .int .i64 ((rd_T38 l0 x12_1).f1), .int .i64 ((rd_T38 l0 x12_1).f2)] 38 (0, 0)) (by (with_reducible repeat (first | refine blk_drewN ?_ _ | refine blk_drew ?_ | refine blk_alloc ?_ _)); exact BK170.out) hb)
                            have n2_ := Aside0.mk (below_step (by repeat (first | (with_reducible first | exact HB.out | apply below_alloc | apply pw_below_drewN | apply below_drew1 | refine below_set ?_ GE170.out) | exact HB.out)) hb)
                            clear BK170
                            clear HB
                            have HO174 := n0_
                            have BK170 := n1_
                            have HB := n2_
                            clear n0_ n1_ n2_
                            clear hb ho33
                            refine hK.out _ _ ⟨v173, (by rw [ha.out]; exact putSel_upk 4 hb_ rfl rfl rfl), (by (with_reducible repeat (first | refine blk_drewN ?_ _ | refine blk_drew ?_ | refine blk_alloc ?_ _)); exact BK170.out), (fun _ => (by repeat (first | (with_reducible first | exact HB.out | apply below_alloc | apply pw_below_drewN | apply below_drew1 | refine below_set ?_ GE170.out) | exact HB.out))), fun _ => (by (with_reducible repeat (first | apply Kd.R_alloc | apply Kd.R_drewN | apply Kd.R_drew)); exact HO174.out), (fun h9_ => absurd ((hoff 9 (by kernel_rfl)).symm.trans h9_) (by decide))⟩
                          refine steps_cons ?_ ?_
                          · rintro b a w' ⟨v173, ha, Q_BK170, Q_HB, Q_HO174, Q_HI⟩ hb_ hon hoff
                            refine ⟨_, rfl, fun K hK => ?_⟩
                            have e22 : a.tmps[22]? = some (v173) := by rw [ha]; exact putSel_on (e := (6, 22, v173)) 4 rfl rfl (hon 6 (by kernel_rfl)) rfl
                            replace ha := Aside0.mk ha
                            have BK170 := Aside0.mk Q_BK170
                            have HB := Aside0.mk (Q_HB (hoff 9 (by kernel_rfl)))
                            have HO174 := Aside0.mk (Q_HO174 (hon 6 (by kernel_rfl)))
                            obtain ⟨Ao36, co36, eo36⟩ := Kd.R_slice HO174.out
                            (first | subst eo36 | (injection eo36 with f1_ f2_ f3_; have f4_ := f1_.symm; have f5_ := f3_.symm; clear f1_ f2_ f3_; subst f4_; subst f5_))
                            refine goes_ Tryd.func22 (by kernel_rfl) rfl #[.slice Ao36 y172.length co36] (by rfl) rfl rfl (by first | (simp only [List.map_toArray, List.map_cons, List.map_nil, Act.eval, Array.getD_eq_getD_getElem?, Option.getD_some, e22]; done) | (simp only [List.map_toArray, List.map_cons, List.map_nil, Act.eval, Array.getD_eq_getD_getElem?, Option.getD_some, e22]; rfl)) ?_
                            with_reducible refine (impl_words.calls k1 _ _ y172 t175 _ ?side1 ?side2 A10.out (tabs_ HT.out (by repeat (first | (with_reducible first | exact HB.out | apply below_alloc | apply pw_below_drewN | apply below_drew1 | refine below_set ?_ (by assumption)) | exact HB.out)))).mono ?_
                            (case side1 => repeat (first | exact (Kd.R_reads' HO174.out).2.2 | (with_reducible refine Kd.C_alloc ?_ _) | (with_reducible refine Kd.C_drewN ?_ _) | (with_reducible refine Kd.C_drew ?_)))
                            (case side2 => exact (Kd.R_reads' HO174.out).2.1)
                            rintro e w37 ⟨rfl, hb⟩
                            refine ⟨_, rfl, ?_⟩
                            have n0_ := Aside0.mk (Kd.R_below (by (with_reducible repeat (first | apply Kd.R_alloc | apply Kd.R_drewN | apply Kd.R_drew)); exact HO174.out) hb)
                            have n1_ := Aside0.mk (blk_below (g := gb170) (o := .cells #[.int .i64 ((rd_T38 l0 x12_1).f0), .int .i64 ((rd_T38 l0 x12_1).f1), .int .i64 ((rd_T38 l0 x12_1).f2)] 38 (0, 0)) (by (with_reducible repeat (first | refine blk_drewN ?_ _ | refine blk_drew ?_ | refine blk_alloc ?_ _)); exact BK170.out) hb)
                            have n2_ := Aside0.mk (below_step (by repeat (first | (with_reducible first | exact HB.out | apply below_alloc | apply pw_below_drewN | apply below_drew1 | refine below_set ?_ GE170.out) | exact HB.out)) hb)
                            clear HO174
                            clear BK170
                            clear HB
                            have HO174 := n0_
                            have BK170 := n1_
                            have HB := n2_
                            clear n0_ n1_ n2_
                            (try clear hb)
                            (try clear hb2)
                            (try clear hk)
                            (try clear hi)
                            refine hK.out _ _ ⟨.slice Ao36 y172.length co36, (by rw [ha.out]; exact putSel_upk 5 hb_ rfl rfl rfl), (by (with_reducible repeat (first | refine blk_drewN ?_ _ | refine blk_drew ?_ | refine blk_alloc ?_ _)); exact BK170.out), (fun _ => (by repeat (first | (with_reducible first | exact HB.out | apply below_alloc | apply pw_below_drewN | apply below_drew1 | refine below_set ?_ GE170.out) | exact HB.out))), fun _ => (by (with_reducible repeat (first | apply Kd.R_alloc | apply Kd.R_drewN | apply Kd.R_drew)); exact HO174.out), (fun h9_ => absurd ((hoff 9 (by kernel_rfl)).symm.trans h9_) (by decide))⟩
                          refine steps_cons ?_ ?_
                          · rintro b a w' ⟨v173, ha, Q_BK170, Q_HB, Q_HO174, Q_HI⟩ hb_ hon hoff
                            refine ⟨_, rfl, fun K hK => ?_⟩
                            have e19 : a.tmps[19]? = some (.string (t171 ++ (⟨#[32]⟩ : ByteArray))) := by rw [ha]; exact putSel_on (e := (3, 19, .string (t171 ++ (⟨#[32]⟩ : ByteArray)))) 2 rfl rfl (hon 3 (by kernel_rfl)) rfl
                            have e23 : a.tmps[23]? = some (.string t175) := by rw [ha]; exact putSel_on (e := (7, 23, .string t175)) 5 rfl rfl (hon 7 (by kernel_rfl)) rfl
                            replace ha := Aside0.mk ha
                            have BK170 := Aside0.mk Q_BK170
                            have HB := Aside0.mk (Q_HB (hoff 9 (by kernel_rfl)))
                            have HO174 := Aside0.mk (Q_HO174 (hon 6 (by kernel_rfl)))
                            refine value_ (w1 := w') (v := .string ((t171 ++ (⟨#[32]⟩ : ByteArray)) ++ t175)) (by rfl) rfl ?_ ?_
                            · go_simp
                              (try simp only [i64_w])
                              try rfl
                            refine hK.out _ _ ⟨v173, (by rw [ha.out]; exact putSel_upk 6 hb_ rfl rfl rfl), Q_BK170, (fun _ => HB.out), Q_HO174, (fun h9_ => absurd ((hoff 9 (by kernel_rfl)).symm.trans h9_) (by decide))⟩
                          refine steps_cons ?_ ?_
                          · rintro b a w' ⟨v173, ha, Q_BK170, Q_HB, Q_HO174, Q_HI⟩ hb_ hon hoff
                            refine ⟨_, rfl, fun K hK => ?_⟩
                            have e4 : a.tmps[4]? = some (.pointer (some ⟨gb, 0, none⟩)) := by rw [ha]; exact (putSel_off rfl).trans rfl
                            have e24 : a.tmps[24]? = some (.string ((t171 ++ (⟨#[32]⟩ : ByteArray)) ++ t175)) := by rw [ha]; exact putSel_on (e := (8, 24, .string ((t171 ++ (⟨#[32]⟩ : ByteArray)) ++ t175))) 6 rfl rfl (hon 8 (by kernel_rfl)) rfl
                            replace ha := Aside0.mk ha
                            have HB := Aside0.mk (Q_HB hb_)
                            have BK170 := Aside0.mk Q_BK170
                            have HO174 := Aside0.mk (Q_HO174 (hon 6 (by kernel_rfl)))
                            refine goes_ Tryd.func20 (by kernel_rfl) rfl #[.pointer (some ⟨gb, 0, none⟩), .string (((t171 ++ (⟨#[32]⟩ : ByteArray)) ++ t175))] (by rfl) rfl rfl (by first | (simp only [List.map_toArray, List.map_cons, List.map_nil, Act.eval, Array.getD_eq_getD_getElem?, Option.getD_some, e4, e24]; done) | (simp only [List.map_toArray, List.map_cons, List.map_nil, Act.eval, Array.getD_eq_getD_getElem?, Option.getD_some, e4, e24]; rfl)) ?_
                            have hIw_ := bld.Is.below HI.out HB.out
                            refine (bld.write gb x4_1 (((t171 ++ (⟨#[32]⟩ : ByteArray)) ++ t175)) w w' hIw_ (Nat.le_trans HB0.out.size HB.out.size) c12).mono ?_
                            rintro e w8_ ⟨rfl, hI2_, hb2_, ho2_⟩
                            refine ⟨_, rfl, ?_⟩
                            refine hK.out _ _ ⟨v173, (by rw [ha.out]; exact putSel_upk 7 hb_ rfl rfl rfl), bld.kept_blk ho2_ BK170.out (by decide) (by have := HI.out.lt; have := GE170.out; omega), (fun h9_ => absurd ((up_self b 9).symm.trans h9_) (by decide)), (fun h0_ => bld.kept_R hIw_ ho2_ (Q_HO174 h0_) (fun q hq => by rcases List.mem_cons.1 hq with rfl | hq <;> first | decide | exact absurd (show q ∈ ([] : List Nat) from hq) List.not_mem_nil)), fun _ => ⟨hI2_, bld.chain HB0.out HB.out HB0.out.size hb2_⟩⟩
                          exact steps_nil
                        rintro b a w37 hall ⟨v173, ha, Q_BK170, Q_HB, Q_HO174, Q_HI⟩
                        clear BK170 HB
                        have hb1_ := hall 1 (by kernel_rfl)
                        have hb2_ := hall 2 (by kernel_rfl)
                        have hb3_ := hall 3 (by kernel_rfl)
                        have hb5_ := hall 5 (by kernel_rfl)
                        have hb6_ := hall 6 (by kernel_rfl)
                        have hb7_ := hall 7 (by kernel_rfl)
                        have hb8_ := hall 8 (by kernel_rfl)
                        have hb9_ := hall 9 (by kernel_rfl)
                        subst ha
                        simp only [putSel, hb1_, hb2_, hb3_, hb5_, hb6_, hb7_, hb8_, hb9_, if_true, Act.put, List.setIfInBounds_toArray, List.set_cons_zero, List.set_cons_succ]
                        have BK170 := Aside0.mk Q_BK170
                        clear Q_BK170
                        obtain ⟨i1_, i2_⟩ := Q_HI hb9_
                        clear HI HB0
                        have HI := Aside0.mk i1_
                        have HB0 := Aside0.mk i2_
                        clear Q_HI i1_ i2_
                        clear Q_HB
                        have HO174 := Aside0.mk (Q_HO174 hb6_)
                        clear Q_HO174
                        clear hall hb1_ hb2_ hb3_ hb5_ hb6_ hb7_ hb8_ hb9_
                        have hcz38_0 : w37.cell? ⟨gb170, 0, none⟩ = some (.int .i64 ((rd_T38 l0 x12_1).f0)) := (blk_cell BK170.out 0).trans rfl
                        have hcz38_1 : w37.cell? ⟨gb170, 1, none⟩ = some (.int .i64 ((rd_T38 l0 x12_1).f1)) := (blk_cell BK170.out 1).trans rfl
                        have hcz38_2 : w37.cell? ⟨gb170, 2, none⟩ = some (.int .i64 ((rd_T38 l0 x12_1).f2)) := (blk_cell BK170.out 2).trans rfl
                        have hfz38_0 := blk_frozen BK170.out 0
                        have hfz38_1 := blk_frozen BK170.out 1
                        have hfz38_2 := blk_frozen BK170.out 2
                        go_wp2_with (first | ((with_reducible refine gate_callee (f := 20) rfl ?_); refine goesL_ (some 30) rfl rfl Tryd.func20 (by kernel_rfl) rfl #[.pointer (some ⟨gb, 0, none⟩), .string (⟨#[10]⟩ : ByteArray)] rfl (by (try simp only [List.map_toArray, List.map_cons, List.map_nil]); first | done | rfl | (simp only [List.length_drop, List.length_take]; rfl)) ?_; (refine (bld.write gb _ (⟨#[10]⟩ : ByteArray) w _ HI.out HB0.out.size c27).mono ?_); rintro e wz_ ⟨rfl, hI2_, hb2_, ho2_⟩; refine ⟨_, rfl, ?_⟩; have n0_ := Aside0.mk hI2_; have n1_ := Aside0.mk (HB0.out.trans hb2_); clear HI HB0; have HI := n0_; have HB0 := n1_; clear n0_ n1_ hI2_ hb2_ ho2_))
                        go_roundg k1
                        case measure => have := HK1.out; omega
                        case rel => exact ⟨((x4_1 ++ ((t171 ++ (⟨#[32]⟩ : ByteArray)) ++ t175)) ++ (⟨#[10]⟩ : ByteArray)), (wrap64 (x12_1 + 1)), (by first | rfl | (simp; done) | (simp [*]; done)), H', ⟨by have := HK1.out; omega⟩, ⟨HB0.out⟩, ⟨HI.out⟩⟩
                      · rw [if_neg c27] at H
                        exact absurd H (by simp)
                  · rw [if_neg c12] at H
                    exact absurd H (by simp)
                · rw [if_neg c11] at H
                  exact absurd H (by simp)
              · rw [if_neg c9] at H
                exact absurd H (by simp)
            · rw [if_neg c7] at H
              exact absurd H (by simp)
          · rw [if_neg c6] at H
            exact absurd H (by simp)
        · rw [if_neg c5] at H
          have c5b0 : decide (x12_1 < (l0.length : Int)) = false := decide_eq_false c5
          clear c5
          simp only [Option.some.injEq, Prod.mk.injEq] at H
          obtain ⟨rfl, rfl⟩ := H
          go_wp2_with (first | ((with_reducible refine gate_callee (f := 23) rfl ?_); refine goesL_ (some 32) rfl rfl Tryd.func23 (by kernel_rfl) rfl #[.pointer (some ⟨gb, 0, none⟩)] rfl (by (try simp only [List.map_toArray, List.map_cons, List.map_nil]); first | done | rfl) ?_; (refine (bld.str gb _ w _ HI.out HB0.out.size).mono ?_); rintro e wz_ ⟨rfl, hb2_⟩; refine ⟨_, rfl, ?_⟩; have HB := Aside0.mk (HB0.out.trans hb2_); clear hb2_))
          go_ret2
          exact ⟨by first | rfl | (simp [errW_none, errW_some] <;> rfl) | (simp [*, errW_none, errW_some] <;> rfl), by repeat (first | (with_reducible first | exact HB.out | apply below_alloc | apply pw_below_drewN | apply below_drew1) | exact HB.out)⟩
  · replace c3 := Bool.eq_false_iff.mpr c3
    subst c3
    have H1 : (some ((⟨#[]⟩ : ByteArray), false)) = some (r1, r2) := by rw [if_neg (show ¬ (false = true) by decide)] at H; exact H
    clear H
    have H := H1
    clear H1
    simp only [Option.some.injEq, Prod.mk.injEq] at H
    obtain ⟨rfl, rfl⟩ := H
    go_enter Tryd.func8, Tryd.ntmps8
    go_wp2_with (first | ((with_reducible refine gate_callee (f := 19) rfl ?_); refine goesL_ (some 8) rfl rfl Tryd.func19 (by kernel_rfl) rfl #[.slice A0 l0.length c0] rfl (by (try simp only [List.map_toArray, List.map_cons, List.map_nil]); first | done | rfl | (simp only [List.length_drop, List.length_take]; rfl)) ?_; (with_reducible refine (impl_IsComb.calls k _ _ l0 false _ ?side1 ?side2 A2.out).mono ?_); (case side1 => repeat (first | exact HR0.out | (with_reducible refine Kd.C_alloc ?_ _) | (with_reducible refine Kd.C_drewN ?_ _) | (with_reducible refine Kd.C_drew ?_))); (case side2 => exact HC0.out); rintro e w39 ⟨rfl, hb⟩; refine ⟨_, rfl, ?_⟩; have n0_ := Aside0.mk (below_step (by repeat (first | (with_reducible first | exact HB.out | apply below_alloc | apply pw_below_drewN | apply below_drew1) | exact HB.out)) hb); clear HB; have HB := n0_; clear n0_; (try clear hb); (try clear hb2); (try clear hk); (try clear hi)))
    go_ret2
    exact ⟨by first | rfl | (simp [errW_none, errW_some] <;> rfl) | (simp [*, errW_none, errW_some] <;> rfl), by repeat (first | (with_reducible first | exact HB.out | apply below_alloc | apply pw_below_drewN | apply below_drew1) | exact HB.out)⟩

/-! ### laws_eqTooth: function 24 -/
def laws_eqTooth.f (a0_0 : Int) (a0_1 : Int) (a0_2 : Int) (a1_0 : Int) (a1_1 : Int) (a1_2 : Int) : Option (Bool) := if a0_0 = a1_0 then (if a0_1 = a1_1 then (if a0_2 = a1_2 then (some true) else (some false)) else (some false)) else (some false)
set_option maxHeartbeats 8000000 in
set_option maxRecDepth 100000 in
theorem laws_eqTooth.calls (a0_0 : Int) (a0_1 : Int) (a0_2 : Int) (a1_0 : Int) (a1_1 : Int) (a1_2 : Int) (r : Bool) (w : World) (h : laws_eqTooth.f a0_0 a0_1 a0_2 a1_0 a1_1 a1_2 = some r) :
    Calls Tryd.prog 24 #[.agg #[.int .i64 a0_0, .int .i64 a0_1, .int .i64 a0_2], .agg #[.int .i64 a1_0, .int .i64 a1_1, .int .i64 a1_2]] w fun e w' => e = .returned (.bool r) ∧ Below w.heap.size w w' := by
  have hu38 := Tryd.underlying38
  have HB := Aside0.mk (Below.refl w.heap.size w)
  have H : (if a0_0 = a1_0 then (if a0_1 = a1_1 then (if a0_2 = a1_2 then (some true) else (some false)) else (some false)) else (some false)) = some r := h
  clear h
  by_cases c3 : a0_0 = a1_0
  · rw [if_pos c3] at H
    have c3b0 : (a0_0 == a1_0) = true := beq_iff_eq.mpr c3
    have c3b1 : (a0_0 != a1_0) = false := bne_eq_false_iff_eq.mpr c3
    clear c3
    by_cases c4 : a0_1 = a1_1
    · rw [if_pos c4] at H
      have c4b0 : (a0_1 == a1_1) = true := beq_iff_eq.mpr c4
      have c4b1 : (a0_1 != a1_1) = false := bne_eq_false_iff_eq.mpr c4
      clear c4
      by_cases c5 : a0_2 = a1_2
      · rw [if_pos c5] at H
        have c5b0 : (a0_2 == a1_2) = true := beq_iff_eq.mpr c5
        have c5b1 : (a0_2 != a1_2) = false := bne_eq_false_iff_eq.mpr c5
        clear c5
        obtain rfl := Option.some.inj H
        go_enter Tryd.func24, Tryd.ntmps24
        go_wp2_with (first | ((with_reducible refine gate_dst (N := 2) rfl ?_); refine box_event ?hg (N := 2) ?hd (cs := #[.int .i64 a0_0, .int .i64 a0_1, .int .i64 a0_2]) (t := 38) ?hr ?_; (case hd => rfl); (case hg => rfl); (case hr => first | (go_simp; done) | (go_simp; rfl)); intro gb176 hg w6 hbox hb; have n0_ := Aside0.mk (below_step (by repeat (first | (with_reducible first | exact HB.out | apply below_alloc | apply pw_below_drewN | apply below_drew1) | exact HB.out)) hb); have n1_ := Aside0.mk (hbox); have n2_ := Aside0.mk ((by rw [hg]; exact (below_size (by repeat (first | (with_reducible first | exact HB.out | apply below_alloc | apply pw_below_drewN | apply below_drew1) | exact HB.out))) : w.heap.size ≤ gb176)); have n3_ := Aside0.mk ((by rw [hg]; exact (below_size (by repeat (first | (with_reducible first | exact HB.out | apply below_alloc | apply pw_below_drewN | apply below_drew1) | exact HB.out))) : w.heap.size ≤ gb176)); clear HB; have HB := n0_; have BK176 := n1_; have GW176 := n2_; have GE176 := n3_; clear n0_ n1_ n2_ n3_; clear hb hbox hg) | ((with_reducible refine gate_dst (N := 3) rfl ?_); refine box_event ?hg (N := 3) ?hd (cs := #[.int .i64 a1_0, .int .i64 a1_1, .int .i64 a1_2]) (t := 38) ?hr ?_; (case hd => rfl); (case hg => rfl); (case hr => first | (go_simp; done) | (go_simp; rfl)); intro gb177 hg w7 hbox hb; have n0_ := Aside0.mk (blk_below (g := gb176) (o := .cells #[.int .i64 a0_0, .int .i64 a0_1, .int .i64 a0_2] 38 (0, 0)) (by (with_reducible repeat (first | refine blk_drewN ?_ _ | refine blk_drew ?_ | refine blk_alloc ?_ _)); exact BK176.out) hb); have n1_ := Aside0.mk (below_step (by repeat (first | (with_reducible first | exact HB.out | apply below_alloc | apply pw_below_drewN | apply below_drew1 | refine below_set ?_ GE176.out) | exact HB.out)) hb); have n2_ := Aside0.mk (hbox); have n3_ := Aside0.mk ((by rw [hg]; exact (below_size (by repeat (first | (with_reducible first | exact HB.out | apply below_alloc | apply pw_below_drewN | apply below_drew1 | refine below_set ?_ GE176.out) | exact HB.out))) : w.heap.size ≤ gb177)); have n4_ := Aside0.mk ((by rw [hg]; exact (below_size (by repeat (first | (with_reducible first | exact HB.out | apply below_alloc | apply pw_below_drewN | apply below_drew1 | refine below_set ?_ GE176.out) | exact HB.out))) : w.heap.size ≤ gb177)); have n5_ := Aside0.mk ((by rw [hg]; exact Nat.ne_of_lt (blk_lt (g := gb176) (o := .cells #[.int .i64 a0_0, .int .i64 a0_1, .int .i64 a0_2] 38 (0, 0)) (by (with_reducible repeat (first | refine blk_drewN ?_ _ | refine blk_drew ?_ | refine blk_alloc ?_ _)); exact BK176.out)) : gb176 ≠ gb177)); have n6_ := Aside0.mk ((by rw [hg]; exact Nat.ne_of_gt (blk_lt (g := gb176) (o := .cells #[.int .i64 a0_0, .int .i64 a0_1, .int .i64 a0_2] 38 (0, 0)) (by (with_reducible repeat (first | refine blk_drewN ?_ _ | refine blk_drew ?_ | refine blk_alloc ?_ _)); exact BK176.out)) : gb177 ≠ gb176)); clear BK176; clear HB; have BK176 := n0_; have HB := n1_; have BK177 := n2_; have GW177 := n3_; have GE177 := n4_; have NB176_177 := n5_; have NB177_176 := n6_; clear n0_ n1_ n2_ n3_ n4_ n5_ n6_; clear hb hbox hg; have hnb8 := NB176_177.out; have hnc8 := NB177_176.out; have hcz9_0 : w7.cell? ⟨gb176, 0, none⟩ = some (.int .i64 a0_0) := (blk_cell BK176.out 0).trans rfl; have hcz9_1 : w7.cell? ⟨gb176, 1, none⟩ = some (.int .i64 a0_1) := (blk_cell BK176.out 1).trans rfl; have hcz9_2 : w7.cell? ⟨gb176, 2, none⟩ = some (.int .i64 a0_2) := (blk_cell BK176.out 2).trans rfl; have hfz9_0 := blk_frozen BK176.out 0; have hfz9_1 := blk_frozen BK176.out 1; have hfz9_2 := blk_frozen BK176.out 2; have hcz10_0 : w7.cell? ⟨gb177, 0, none⟩ = some (.int .i64 a1_0) := (blk_cell BK177.out 0).trans rfl; have hcz10_1 : w7.cell? ⟨gb177, 1, none⟩ = some (.int .i64 a1_1) := (blk_cell BK177.out 1).trans rfl; have hcz10_2 : w7.cell? ⟨gb177, 2, none⟩ = some (.int .i64 a1_2) := (blk_cell BK177.out 2).trans rfl; have hfz10_0 := blk_frozen BK177.out 0; have hfz10_1 := blk_frozen BK177.out 1; have hfz10_2 := blk_frozen BK177.out 2))
        go_ret
        exact ⟨by first | rfl | (simp [errW_none, errW_some] <;> rfl) | (simp [*, errW_none, errW_some] <;> rfl), by repeat (first | (with_reducible first | exact HB.out | apply below_alloc | apply pw_below_drewN | apply below_drew1 | refine below_set ?_ GE176.out | refine below_set ?_ GE177.out) | exact HB.out)⟩
      · rw [if_neg c5] at H
        have c5b0 : (a0_2 == a1_2) = false := beq_eq_false_iff_ne.mpr c5
        have c5b1 : (a0_2 != a1_2) = true := bne_iff_ne.mpr c5
        obtain rfl := Option.some.inj H
        go_enter Tryd.func24, Tryd.ntmps24
        go_wp2_with (first | ((with_reducible refine gate_dst (N := 2) rfl ?_); refine box_event ?hg (N := 2) ?hd (cs := #[.int .i64 a0_0, .int .i64 a0_1, .int .i64 a0_2]) (t := 38) ?hr ?_; (case hd => rfl); (case hg => rfl); (case hr => first | (go_simp; done) | (go_simp; rfl)); intro gb176 hg w11 hbox hb; have n0_ := Aside0.mk (below_step (by repeat (first | (with_reducible first | exact HB.out | apply below_alloc | apply pw_below_drewN | apply below_drew1) | exact HB.out)) hb); have n1_ := Aside0.mk (hbox); have n2_ := Aside0.mk ((by rw [hg]; exact (below_size (by repeat (first | (with_reducible first | exact HB.out | apply below_alloc | apply pw_below_drewN | apply below_drew1) | exact HB.out))) : w.heap.size ≤ gb176)); have n3_ := Aside0.mk ((by rw [hg]; exact (below_size (by repeat (first | (with_reducible first | exact HB.out | apply below_alloc | apply pw_below_drewN | apply below_drew1) | exact HB.out))) : w.heap.size ≤ gb176)); clear HB; have HB := n0_; have BK176 := n1_; have GW176 := n2_; have GE176 := n3_; clear n0_ n1_ n2_ n3_; clear hb hbox hg) | ((with_reducible refine gate_dst (N := 3) rfl ?_); refine box_event ?hg (N := 3) ?hd (cs := #[.int .i64 a1_0, .int .i64 a1_1, .int .i64 a1_2]) (t := 38) ?hr ?_; (case hd => rfl); (case hg => rfl); (case hr => first | (go_simp; done) | (go_simp; rfl)); intro gb177 hg w12 hbox hb; have n0_ := Aside0.mk (blk_below (g := gb176) (o := .cells #[.int .i64 a0_0, .int .i64 a0_1, .int .i64 a0_2] 38 (0, 0)) (by (with_reducible repeat (first | refine blk_drewN ?_ _ | refine blk_drew ?_ | refine blk_alloc ?_ _)); exact BK176.out) hb); have n1_ := Aside0.mk (below_step (by repeat (first | (with_reducible first | exact HB.out | apply below_alloc | apply pw_below_drewN | apply below_drew1 | refine below_set ?_ GE176.out) | exact HB.out)) hb); have n2_ := Aside0.mk (hbox); have n3_ := Aside0.mk ((by rw [hg]; exact (below_size (by repeat (first | (with_reducible first | exact HB.out | apply below_alloc | apply pw_below_drewN | apply below_drew1 | refine below_set ?_ GE176.out) | exact HB.out))) : w.heap.size ≤ gb177)); have n4_ := Aside0.mk ((by rw [hg]; exact (below_size (by repeat (first | (with_reducible first | exact HB.out | apply below_alloc | apply pw_below_drewN | apply below_drew1 | refine below_set ?_ GE176.out) | exact HB.out))) : w.heap.size ≤ gb177)); have n5_ := Aside0.mk ((by rw [hg]; exact Nat.ne_of_lt (blk_lt (g := gb176) (o := .cells #[.int .i64 a0_0, .int .i64 a0_1, .int .i64 a0_2] 38 (0, 0)) (by (with_reducible repeat (first | refine blk_drewN ?_ _ | refine blk_drew ?_ | refine blk_alloc ?_ _)); exact BK176.out)) : gb176 ≠ gb177)); have n6_ := Aside0.mk ((by rw [hg]; exact Nat.ne_of_gt (blk_lt (g := gb176) (o := .cells #[.int .i64 a0_0, .int .i64 a0_1, .int .i64 a0_2] 38 (0, 0)) (by (with_reducible repeat (first | refine blk_drewN ?_ _ | refine blk_drew ?_ | refine blk_alloc ?_ _)); exact BK176.out)) : gb177 ≠ gb176)); clear BK176; clear HB; have BK176 := n0_; have HB := n1_; have BK177 := n2_; have GW177 := n3_; have GE177 := n4_; have NB176_177 := n5_; have NB177_176 := n6_; clear n0_ n1_ n2_ n3_ n4_ n5_ n6_; clear hb hbox hg; have hnb13 := NB176_177.out; have hnc13 := NB177_176.out; have hcz14_0 : w12.cell? ⟨gb176, 0, none⟩ = some (.int .i64 a0_0) := (blk_cell BK176.out 0).trans rfl; have hcz14_1 : w12.cell? ⟨gb176, 1, none⟩ = some (.int .i64 a0_1) := (blk_cell BK176.out 1).trans rfl; have hcz14_2 : w12.cell? ⟨gb176, 2, none⟩ = some (.int .i64 a0_2) := (blk_cell BK176.out 2).trans rfl; have hfz14_0 := blk_frozen BK176.out 0; have hfz14_1 := blk_frozen BK176.out 1; have hfz14_2 := blk_frozen BK176.out 2; have hcz15_0 : w12.cell? ⟨gb177, 0, none⟩ = some (.int .i64 a1_0) := (blk_cell BK177.out 0).trans rfl; have hcz15_1 : w12.cell? ⟨gb177, 1, none⟩ = some (.int .i64 a1_1) := (blk_cell BK177.out 1).trans rfl; have hcz15_2 : w12.cell? ⟨gb177, 2, none⟩ = some (.int .i64 a1_2) := (blk_cell BK177.out 2).trans rfl; have hfz15_0 := blk_frozen BK177.out 0; have hfz15_1 := blk_frozen BK177.out 1; have hfz15_2 := blk_frozen BK177.out 2))
        go_ret
        exact ⟨by first | rfl | (simp [errW_none, errW_some] <;> rfl) | (simp [*, errW_none, errW_some] <;> rfl), by repeat (first | (with_reducible first | exact HB.out | apply below_alloc | apply pw_below_drewN | apply below_drew1 | refine below_set ?_ GE176.out | refine below_set ?_ GE177.out) | exact HB.out)⟩
    · rw [if_neg c4] at H
      have c4b0 : (a0_1 == a1_1) = false := beq_eq_false_iff_ne.mpr c4
      have c4b1 : (a0_1 != a1_1) = true := bne_iff_ne.mpr c4
      obtain rfl := Option.some.inj H
      go_enter Tryd.func24, Tryd.ntmps24
      go_wp2_with (first | ((with_reducible refine gate_dst (N := 2) rfl ?_); refine box_event ?hg (N := 2) ?hd (cs := #[.int .i64 a0_0, .int .i64 a0_1, .int .i64 a0_2]) (t := 38) ?hr ?_; (case hd => rfl); (case hg => rfl); (case hr => first | (go_simp; done) | (go_simp; rfl)); intro gb176 hg w16 hbox hb; have n0_ := Aside0.mk (below_step (by repeat (first | (with_reducible first | exact HB.out | apply below_alloc | apply pw_below_drewN | apply below_drew1) | exact HB.out)) hb); have n1_ := Aside0.mk (hbox); have n2_ := Aside0.mk ((by rw [hg]; exact (below_size (by repeat (first | (with_reducible first | exact HB.out | apply below_alloc | apply pw_below_drewN | apply below_drew1) | exact HB.out))) : w.heap.size ≤ gb176)); have n3_ := Aside0.mk ((by rw [hg]; exact (below_size (by repeat (first | (with_reducible first | exact HB.out | apply below_alloc | apply pw_below_drewN | apply below_drew1) | exact HB.out))) : w.heap.size ≤ gb176)); clear HB; have HB := n0_; have BK176 := n1_; have GW176 := n2_; have GE176 := n3_; clear n0_ n1_ n2_ n3_; clear hb hbox hg) | ((with_reducible refine gate_dst (N := 3) rfl ?_); refine box_event ?hg (N := 3) ?hd (cs := #[.int .i64 a1_0, .int .i64 a1_1, .int .i64 a1_2]) (t := 38) ?hr ?_; (case hd => rfl); (case hg => rfl); (case hr => first | (go_simp; done) | (go_simp; rfl)); intro gb177 hg w17 hbox hb; have n0_ := Aside0.mk (blk_below (g := gb176) (o := .cells #[.int .i64 a0_0, .int .i64 a0_1, .int .i64 a0_2] 38 (0, 0)) (by (with_reducible repeat (first | refine blk_drewN ?_ _ | refine blk_drew ?_ | refine blk_alloc ?_ _)); exact BK176.out) hb); have n1_ := Aside0.mk (below_step (by repeat (first | (with_reducible first | exact HB.out | apply below_alloc | apply pw_below_drewN | apply below_drew1 | refine below_set ?_ GE176.out) | exact HB.out)) hb); have n2_ := Aside0.mk (hbox); have n3_ := Aside0.mk ((by rw [hg]; exact (below_size (by repeat (first | (with_reducible first | exact HB.out | apply below_alloc | apply pw_below_drewN | apply below_drew1 | refine below_set ?_ GE176.out) | exact HB.out))) : w.heap.size ≤ gb177)); have n4_ := Aside0.mk ((by rw [hg]; exact (below_size (by repeat (first | (with_reducible first | exact HB.out | apply below_alloc | apply pw_below_drewN | apply below_drew1 | refine below_set ?_ GE176.out) | exact HB.out))) : w.heap.size ≤ gb177)); have n5_ := Aside0.mk ((by rw [hg]; exact Nat.ne_of_lt (blk_lt (g := gb176) (o := .cells #[.int .i64 a0_0, .int .i64 a0_1, .int .i64 a0_2] 38 (0, 0)) (by (with_reducible repeat (first | refine blk_drewN ?_ _ | refine blk_drew ?_ | refine blk_alloc ?_ _)); exact BK176.out)) : gb176 ≠ gb177)); have n6_ := Aside0.mk ((by rw [hg]; exact Nat.ne_of_gt (blk_lt (g := gb176) (o := .cells #[.int .i64 a0_0, .int .i64 a0_1, .int .i64 a0_2] 38 (0, 0)) (by (with_reducible repeat (first | refine blk_drewN ?_ _ | refine blk_drew ?_ | refine blk_alloc ?_ _)); exact BK176.out)) : gb177 ≠ gb176)); clear BK176; clear HB; have BK176 := n0_; have HB := n1_; have BK177 := n2_; have GW177 := n3_; have GE177 := n4_; have NB176_177 := n5_; have NB177_176 := n6_; clear n0_ n1_ n2_ n3_ n4_ n5_ n6_; clear hb hbox hg; have hnb18 := NB176_177.out; have hnc18 := NB177_176.out; have hcz19_0 : w17.cell? ⟨gb176, 0, none⟩ = some (.int .i64 a0_0) := (blk_cell BK176.out 0).trans rfl; have hcz19_1 : w17.cell? ⟨gb176, 1, none⟩ = some (.int .i64 a0_1) := (blk_cell BK176.out 1).trans rfl; have hcz19_2 : w17.cell? ⟨gb176, 2, none⟩ = some (.int .i64 a0_2) := (blk_cell BK176.out 2).trans rfl; have hfz19_0 := blk_frozen BK176.out 0; have hfz19_1 := blk_frozen BK176.out 1; have hfz19_2 := blk_frozen BK176.out 2; have hcz20_0 : w17.cell? ⟨gb177, 0, none⟩ = some (.int .i64 a1_0) := (blk_cell BK177.out 0).trans rfl; have hcz20_1 : w17.cell? ⟨gb177, 1, none⟩ = some (.int .i64 a1_1) := (blk_cell BK177.out 1).trans rfl; have hcz20_2 : w17.cell? ⟨gb177, 2, none⟩ = some (.int .i64 a1_2) := (blk_cell BK177.out 2).trans rfl; have hfz20_0 := blk_frozen BK177.out 0; have hfz20_1 := blk_frozen BK177.out 1; have hfz20_2 := blk_frozen BK177.out 2))
      go_ret
      exact ⟨by first | rfl | (simp [errW_none, errW_some] <;> rfl) | (simp [*, errW_none, errW_some] <;> rfl), by repeat (first | (with_reducible first | exact HB.out | apply below_alloc | apply pw_below_drewN | apply below_drew1 | refine below_set ?_ GE176.out | refine below_set ?_ GE177.out) | exact HB.out)⟩
  · rw [if_neg c3] at H
    have c3b0 : (a0_0 == a1_0) = false := beq_eq_false_iff_ne.mpr c3
    have c3b1 : (a0_0 != a1_0) = true := bne_iff_ne.mpr c3
    obtain rfl := Option.some.inj H
    go_enter Tryd.func24, Tryd.ntmps24
    go_wp2_with (first | ((with_reducible refine gate_dst (N := 2) rfl ?_); refine box_event ?hg (N := 2) ?hd (cs := #[.int .i64 a0_0, .int .i64 a0_1, .int .i64 a0_2]) (t := 38) ?hr ?_; (case hd => rfl); (case hg => rfl); (case hr => first | (go_simp; done) | (go_simp; rfl)); intro gb176 hg w21 hbox hb; have n0_ := Aside0.mk (below_step (by repeat (first | (with_reducible first | exact HB.out | apply below_alloc | apply pw_below_drewN | apply below_drew1) | exact HB.out)) hb); have n1_ := Aside0.mk (hbox); have n2_ := Aside0.mk ((by rw [hg]; exact (below_size (by repeat (first | (with_reducible first | exact HB.out | apply below_alloc | apply pw_below_drewN | apply below_drew1) | exact HB.out))) : w.heap.size ≤ gb176)); have n3_ := Aside0.mk ((by rw [hg]; exact (below_size (by repeat (first | (with_reducible first | exact HB.out | apply below_alloc | apply pw_below_drewN | apply below_drew1) | exact HB.out))) : w.heap.size ≤ gb176)); clear HB; have HB := n0_; have BK176 := n1_; have GW176 := n2_; have GE176 := n3_; clear n0_ n1_ n2_ n3_; clear hb hbox hg) | ((with_reducible refine gate_dst (N := 3) rfl ?_); refine box_event ?hg (N := 3) ?hd (cs := #[.int .i64 a1_0, .int .i64 a1_1, .int .i64 a1_2]) (t := 38) ?hr ?_; (case hd => rfl); (case hg => rfl); (case hr => first | (go_simp; done) | (go_simp; rfl)); intro gb177 hg w22 hbox hb; have n0_ := Aside0.mk (blk_below (g := gb176) (o := .cells #[.int .i64 a0_0, .int .i64 a0_1, .int .i64 a0_2] 38 (0, 0)) (by (with_reducible repeat (first | refine blk_drewN ?_ _ | refine blk_drew ?_ | refine blk_alloc ?_ _)); exact BK176.out) hb); have n1_ := Aside0.mk (below_step (by repeat (first | (with_reducible first | exact HB.out | apply below_alloc | apply pw_below_drewN | apply below_drew1 | refine below_set ?_ GE176.out) | exact HB.out)) hb); have n2_ := Aside0.mk (hbox); have n3_ := Aside0.mk ((by rw [hg]; exact (below_size (by repeat (first | (with_reducible first | exact HB.out | apply below_alloc | apply pw_below_drewN | apply below_drew1 | refine below_set ?_ GE176.out) | exact HB.out))) : w.heap.size ≤ gb177)); have n4_ := Aside0.mk ((by rw [hg]; exact (below_size (by repeat (first | (with_reducible first | exact HB.out | apply below_alloc | apply pw_below_drewN | apply below_drew1 | refine below_set ?_ GE176.out) | exact HB.out))) : w.heap.size ≤ gb177)); have n5_ := Aside0.mk ((by rw [hg]; exact Nat.ne_of_lt (blk_lt (g := gb176) (o := .cells #[.int .i64 a0_0, .int .i64 a0_1, .int .i64 a0_2] 38 (0, 0)) (by (with_reducible repeat (first | refine blk_drewN ?_ _ | refine blk_drew ?_ | refine blk_alloc ?_ _)); exact BK176.out)) : gb176 ≠ gb177)); have n6_ := Aside0.mk ((by rw [hg]; exact Nat.ne_of_gt (blk_lt (g := gb176) (o := .cells #[.int .i64 a0_0, .int .i64 a0_1, .int .i64 a0_2] 38 (0, 0)) (by (with_reducible repeat (first | refine blk_drewN ?_ _ | refine blk_drew ?_ | refine blk_alloc ?_ _)); exact BK176.out)) : gb177 ≠ gb176)); clear BK176; clear HB; have BK176 := n0_; have HB := n1_; have BK177 := n2_; have GW177 := n3_; have GE177 := n4_; have NB176_177 := n5_; have NB177_176 := n6_; clear n0_ n1_ n2_ n3_ n4_ n5_ n6_; clear hb hbox hg; have hnb23 := NB176_177.out; have hnc23 := NB177_176.out; have hcz24_0 : w22.cell? ⟨gb176, 0, none⟩ = some (.int .i64 a0_0) := (blk_cell BK176.out 0).trans rfl; have hcz24_1 : w22.cell? ⟨gb176, 1, none⟩ = some (.int .i64 a0_1) := (blk_cell BK176.out 1).trans rfl; have hcz24_2 : w22.cell? ⟨gb176, 2, none⟩ = some (.int .i64 a0_2) := (blk_cell BK176.out 2).trans rfl; have hfz24_0 := blk_frozen BK176.out 0; have hfz24_1 := blk_frozen BK176.out 1; have hfz24_2 := blk_frozen BK176.out 2; have hcz25_0 : w22.cell? ⟨gb177, 0, none⟩ = some (.int .i64 a1_0) := (blk_cell BK177.out 0).trans rfl; have hcz25_1 : w22.cell? ⟨gb177, 1, none⟩ = some (.int .i64 a1_1) := (blk_cell BK177.out 1).trans rfl; have hcz25_2 : w22.cell? ⟨gb177, 2, none⟩ = some (.int .i64 a1_2) := (blk_cell BK177.out 2).trans rfl; have hfz25_0 := blk_frozen BK177.out 0; have hfz25_1 := blk_frozen BK177.out 1; have hfz25_2 := blk_frozen BK177.out 2))
    go_ret
    exact ⟨by first | rfl | (simp [errW_none, errW_some] <;> rfl) | (simp [*, errW_none, errW_some] <;> rfl), by repeat (first | (with_reducible first | exact HB.out | apply below_alloc | apply pw_below_drewN | apply below_drew1 | refine below_set ?_ GE176.out | refine below_set ?_ GE177.out) | exact HB.out)⟩

end Go.Proofs.YtiekokdlcgpcdaaDoor.PFnExactCombText
