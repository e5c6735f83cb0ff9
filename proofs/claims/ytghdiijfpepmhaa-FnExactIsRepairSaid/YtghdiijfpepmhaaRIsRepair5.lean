/- The walks of functions that FnExactIsRepair reaches: what they return is what the plain functions of the same names say. Laid by a program of this session after the kit's print. No conditions beyond the arguments' being read. -/
import Derived.Test.YtghdiijfpepmhaaRIsRepair0
import Derived.Test.YtghdiijfpepmhaaRIsRepair3
import Derived.Test.YtghdiijfpepmhaaRIsRepair4
namespace Go.Proofs.Ytghdiijfpepmhaa.PFnExactIsRepair
open Go.RowKit Go.Proofs.YtghdiijfpepmhaaW.PrintWords Go.Proofs.YtghdiijfpepmhaaW.PrintLast Go.Proofs.YtghdiijfpepmhaaW.PrintMore
attribute [local go_sem] max2_int min2_int max_two min_two max_three min_three max_four min_four   -- for this text's walks alone
set_option linter.unusedVariables false
set_option linter.unusedSimpArgs false

namespace grid
theorem atRow {w : World} {A : Option Addr} {n : Nat} {xs : List (List Int)} (h : Kd.C (Kd.slice 3 (Kd.int .i64)) w A n xs) (i : Int) (h0 : 0 ≤ i) (h1 : i < n) : ∃ ad A0 c0, A = some ad ∧ w.cell? (ad.add i.toNat) = some (.slice A0 (xs.getD i.toNat []).length c0) ∧ (xs.getD i.toNat []).length ≤ c0 ∧ (Kd.int .i64).C w A0 (xs.getD i.toNat []).length (xs.getD i.toNat []) := by
  obtain ⟨ad, c, e, _, hK, hc0⟩ := Kd.C_get h ([] : List Int) i h0 h1
  have hc : ∀ j u, c[j]? = some u → w.cell? (ad.add (i.toNat * 1 + j)) = some u := hc0
  obtain ⟨A0, c0, rfl, l0, g0⟩ := hK
  exact ⟨ad, A0, c0, e, by have hq := hc 0 _ rfl; rwa [Nat.mul_one, Nat.add_zero] at hq, l0, g0⟩
end grid
/-! ### spec.rpApply: function 26 -/
namespace grid
/-- A row whose steps from a to m hold op. -/
def apRow (op : Bool) (a m : Int) (row : List Bool) : List Bool := row.mapIdx fun s b => if a ≤ (s : Int) ∧ (s : Int) < m then op else b
theorem apRow_length (op : Bool) (a m : Int) (row : List Bool) : (apRow op a m row).length = row.length := by simp [apRow]
theorem apRow_none (op : Bool) (a m : Int) (row : List Bool) (h : m ≤ a) : apRow op a m row = row := by
  refine List.ext_getElem (apRow_length _ _ _ _) (fun i h1 h2 => ?_)
  simp only [apRow, List.getElem_mapIdx]
  rw [if_neg (fun h => by omega)]
theorem apRow_set (op : Bool) (a m : Int) (row : List Bool) (h0 : 0 ≤ a) (h : a ≤ m) : (apRow op a m row).set m.toNat op = apRow op a (m + 1) row := by
  refine List.ext_getElem (by simp [apRow_length]) (fun i h1 h2 => ?_)
  rw [List.getElem_set]
  simp only [apRow, List.getElem_mapIdx]
  by_cases e : m.toNat = i
  · rw [if_pos e, if_pos ⟨by omega, by omega⟩]
  · rw [if_neg e]
    by_cases q : a ≤ (i : Int) ∧ (i : Int) < m
    · rw [if_pos q, if_pos ⟨q.1, by omega⟩]
    · rw [if_neg q, if_neg (fun q' => q ⟨q'.1, by omega⟩)]
def apOk (h : List (List Bool)) (x : List Int) : Prop := x.length = 3 ∧ 0 ≤ rd x 0 ∧ rd x 0 < h.length ∧ 0 ≤ rd x 1 ∧ rd x 1 ≤ 1000000 ∧ rd x 2 ≤ (h.getD (rd x 0).toNat []).length ∧ rd x 2 ≤ 1000000
instance (h : List (List Bool)) (x : List Int) : Decidable (apOk h x) := by unfold apOk; infer_instance
def apTo (op : Bool) (h : List (List Bool)) (x : List Int) (m : Int) : List (List Bool) := h.set (rd x 0).toNat (apRow op (rd x 1) m (h.getD (rd x 0).toNat []))
def apAll (op : Bool) : List (List Int) → List (List Bool) → Option (List (List Bool))
  | [], h => some h
  | x :: xs, h => if apOk h x then apAll op xs (apTo op h x (rd x 2)) else none
theorem apTo_length (op : Bool) (h : List (List Bool)) (x : List Int) (m : Int) : (apTo op h x m).length = h.length := by simp [apTo]
theorem apTo_none (op : Bool) (h : List (List Bool)) (x : List Int) (m : Int) (hm : m ≤ rd x 1) (h0 : 0 ≤ rd x 0) (h1 : rd x 0 < h.length) : apTo op h x m = h := by
  unfold apTo
  rw [apRow_none _ _ _ _ hm, List.getD_eq_getElem?_getD, List.getElem?_eq_getElem (by omega)]
  simp
theorem apTo_row (op : Bool) (h : List (List Bool)) (x : List Int) (m : Int) (h0 : 0 ≤ rd x 0) (h1 : rd x 0 < h.length) : (apTo op h x m).getD (rd x 0).toNat [] = apRow op (rd x 1) m (h.getD (rd x 0).toNat []) := by
  unfold apTo
  rw [List.getD_eq_getElem?_getD, List.getElem?_set]
  rw [if_pos rfl, if_pos (by omega)]
  rfl
theorem apTo_step (op : Bool) (h : List (List Bool)) (x : List Int) (m : Int) (h0 : 0 ≤ rd x 0) (h1 : rd x 0 < h.length) (ha : 0 ≤ rd x 1) (hm : rd x 1 ≤ m) :
    (apTo op h x m).set (rd x 0).toNat (((apTo op h x m).getD (rd x 0).toNat []).set m.toNat op) = apTo op h x (m + 1) := by
  rw [apTo_row _ _ _ _ h0 h1, apRow_set _ _ _ _ ha hm]
  unfold apTo
  rw [List.set_set]
set_option maxHeartbeats 8000000 in
set_option maxRecDepth 100000 in
theorem rpApply.calls (v : Value) (h : List (List Bool)) (op : Bool) (A1 : Option Addr) (c1 : Nat) (l1 : List (List Int)) (res : List (List Bool)) (w0 w : World) (hS : Kd.S (Kd.slice 4 Kd.bool) 45 w w0.heap.size (fun _ => True) v h) (hr1 : Kd.C (Kd.slice 3 (Kd.int .i64)) w0 A1 l1.length l1) (hB : Below w0.heap.size w0 w) (hf : apAll op l1 h = some res) :
    Calls Try.prog 26 #[v, .slice A1 l1.length c1, .bool op] w fun e w' => e = .returned v ∧ Kd.S (Kd.slice 4 Kd.bool) 45 w' w0.heap.size (fun _ => True) v res ∧ Below w0.heap.size w0 w' := by
  obtain ⟨Ao, co, eo⟩ := Kd.S_slice hS
  subst eo
  have HR := Aside0.mk hr1
  have HB := Aside0.mk hB
  have HO := Aside0.mk hS
  have HF := Aside0.mk hf
  have HL := Aside0.mk hr1.2.1
  clear hr1 hB hS hf
  go_enter Try.func26, Try.ntmps26
  go_wp2
  go_loopw [12] (fun v12 wr => ∃ (i : Int) (o : List (List Bool)), Aside0 (0 ≤ i ∧ i ≤ l1.length) ∧ v12 = .int .i64 i ∧ Aside0 (o.length = h.length) ∧ Aside0 (apAll op (l1.drop i.toNat) o = some res) ∧ Aside0 (Kd.S (Kd.slice 4 Kd.bool) 45 wr w0.heap.size (fun _ => True) (.slice Ao h.length co) o) ∧ Aside0 (Below w0.heap.size w0 wr)) (fun v _ => ((l1.length : Int) - intOf v).toNat)
  case atStart => exact ⟨0, h, ⟨by omega⟩, rfl, ⟨rfl⟩, ⟨by simpa using HF.out⟩, HO, HB⟩
  case round =>
    clear HO HB HF
    obtain ⟨i, o, hi, rfl, HOL, HF, HO, HB⟩ := hrel
    by_cases q : i < (l1.length : Int)
    · have p : 0 ≤ i := hi.out.1
      have hlt : i.toNat < l1.length := by omega
      obtain ⟨ad, Ax, cx, eA, hxc0, hxl, hxr⟩ := atRow HR.out i p q
      subst eA
      have hxc := (HB.out.cell (World.block_lt_of_cell? w0 _ hxc0)).trans hxc0
      have hf := HF.out
      rw [List.drop_eq_getElem_cons hlt] at hf
      have ex : l1[i.toNat] = l1.getD i.toNat [] := by rw [List.getD_eq_getElem?_getD, List.getElem?_eq_getElem hlt]; rfl
      rw [ex] at hf
      obtain ⟨x, hx⟩ : ∃ x, x = l1.getD i.toNat [] := ⟨_, rfl⟩
      rw [← hx] at hf hxc hxl hxr
      clear ex hx
      unfold apAll at hf
      by_cases hok : apOk o x
      · rw [if_pos hok] at hf
        have HXV := Aside0.mk (show x.length = 3 ∧ 0 ≤ rd x 0 ∧ rd x 0 < o.length ∧ 0 ≤ rd x 1 ∧ rd x 1 ≤ 1000000 ∧ rd x 2 ≤ (o.getD (rd x 0).toNat []).length ∧ rd x 2 ≤ 1000000 from hok)
        have HF' := Aside0.mk (show apAll op (l1.drop (i + 1).toNat) (apTo op o x (rd x 2)) = some res from by rw [show (i + 1).toNat = i.toNat + 1 by omega]; exact hf)
        clear hf hok HF
        have hx3 := HXV.out.1
        rw [hx3] at hxc hxl hxr
        obtain ⟨xd, exd, hxr0⟩ := Kd.at_int hxr 0 (by omega) (by omega)
        obtain ⟨xd1, exd1, hxr1⟩ := Kd.at_int hxr 1 (by omega) (by omega)
        obtain ⟨xd2, exd2, hxr2⟩ := Kd.at_int hxr 2 (by omega) (by omega)
        cases exd
        cases exd1
        cases exd2
        rw [show ((0 : Int)).toNat = 0 from rfl, Addr.add_zero'] at hxr0
        simp only [show (1 : Int).toNat = 1 from rfl, Nat.reduceMul, Nat.reduceEqDiff, Go.Addr.add, ↓reduceIte] at hxr1
        simp only [show (2 : Int).toNat = 2 from rfl, Nat.reduceMul, Nat.reduceEqDiff, Go.Addr.add, ↓reduceIte] at hxr2
        have HX0 := Aside0.mk hxr0
        have HX1 := Aside0.mk hxr1
        have HX2 := Aside0.mk hxr2
        have hx1 := (HB.out.cell (World.block_lt_of_cell? w0 _ hxr1)).trans hxr1
        clear hxr0 hxr1 hxr2 hxr hxl hx3
        have HLT := Aside0.mk hlt
        replace p := eq_true p
        have qb : decide (i < (l1.length : Int)) = true := decide_eq_true q
        replace q := eq_true q
        clear hlt
        go_wp2
        clear hxc hx1
        go_loopw [9] (fun v wi => ∃ m : Int, Aside0 (rd x 1 ≤ m ∧ (m ≤ rd x 2 ∨ m = rd x 1)) ∧ v = .int .i64 m ∧ Aside0 (Kd.S (Kd.slice 4 Kd.bool) 45 wi w0.heap.size (fun _ => True) (.slice Ao h.length co) (apTo op o x m)) ∧ Aside0 (Below w0.heap.size w0 wi)) (fun v _ => (rd x 2 - intOf v).toNat)
        case atStart => exact ⟨rd x 1, ⟨Int.le_refl _, .inr rfl⟩, rfl, ⟨by rw [apTo_none _ _ _ _ (Int.le_refl _) HXV.out.2.1 HXV.out.2.2.1]; exact HO.out⟩, HB⟩
        case round =>
          clear HO HB p q
          obtain ⟨m, hm, rfl, HO, HB⟩ := hrel
          have hx0 := (HB.out.cell (World.block_lt_of_cell? w0 _ HX0.out)).trans HX0.out
          have hx2 := (HB.out.cell (World.block_lt_of_cell? w0 _ HX2.out)).trans HX2.out
          by_cases hlt : m < rd x 2
          · have hb : decide (m < rd x 2) = true := decide_eq_true hlt
            have h0 : 0 ≤ rd x 0 := HXV.out.2.1
            have h1 : rd x 0 < o.length := HXV.out.2.2.1
            have hol : (apTo op o x m).length = h.length := (apTo_length _ _ _ _).trans HOL.out
            have h1' : rd x 0 < (h.length : Int) := by have := HOL.out; omega
            have h1s : rd x 0 < ((apTo op o x m).length : Int) := by omega
            have h2 : 0 ≤ m := by have := HXV.out.2.2.2.1; have := hm.out; omega
            have hrl : ((apTo op o x m).getD (rd x 0).toNat []).length = (o.getD (rd x 0).toNat []).length := by rw [apTo_row _ _ _ _ h0 h1, apRow_length]
            have h3 : m < (((apTo op o x m).getD (rd x 0).toNat []).length : Int) := by rw [hrl]; have := HXV.out.2.2.2.2.2.1; omega
            have HM := Aside0.mk (show 0 ≤ rd x 0 ∧ 0 ≤ m ∧ m < rd x 2 ∧ rd x 0 < o.length from ⟨h0, h2, hlt, h1⟩)
            have hS := HO.out
            rw [← hol] at hS
            obtain ⟨go, co', eo, _⟩ := Kd.S_form hS (by omega)
            cases eo
            obtain ⟨oki, c, hcl, hMM, hcc, hoki, hback⟩ := Kd.S_borrow hS [] (rd x 0) h0 h1s
            obtain ⟨y, hy⟩ : ∃ y, y = (apTo op o x m).getD (rd x 0).toNat [] := ⟨_, rfl⟩
            rw [← hy] at hMM h3
            obtain ⟨hv', ec, hrowy⟩ := hMM
            have hcy := hcc 0 hv' (by rw [ec]; rfl)
            rw [add_plain, show (rd x 0).toNat * (Kd.slice 4 Kd.bool).sz + 0 = (rd x 0).toNat from by rw [show (Kd.slice 4 Kd.bool).sz = 1 from rfl]; omega] at hcy
            obtain ⟨gy, cy, ey, gyb, gyl, cyl⟩ := Kd.R_form hrowy (by omega)
            subst ey
            obtain ⟨hyc, hyf⟩ := Kd.R_celln false hrowy m h2 h3
            have HYY := Aside0.mk hrowy
            have HGY := Aside0.mk gyb
            have HBK := Aside0.mk @hback
            have HGI := Aside0.mk (show oki gy from hrowy.1 gy (by simp [Value.ownBlock]))
            have HEC := Aside0.mk ec
            have HY := Aside0.mk hy
            have HOLn := Aside0.mk hol
            replace h0 := eq_true h0
            replace h1' := eq_true h1'
            replace h2 := eq_true h2
            replace h3 := eq_true h3
            clear hlt hcl hcc hoki hback hy hrowy gyb gyl cyl ec hS hol h1 h1s hrl HO
            go_wp2
            have HPU := Aside0.mk (Kd.R_putg HYY.out m op)
            have HGW := Aside0.mk (show wr.grownBy (wr.setCell ⟨gy, m.toNat, none⟩ (.bool op)) (some gy) from HPU.out.2)
            have HO2 := Aside0.mk (HBK.out (w1 := wr.setCell ⟨gy, m.toNat, none⟩ (.bool op)) HGW.out (fun k hk => by cases hk; exact HGI.out) (x' := y.set m.toNat op) ⟨_, HEC.out, HPU.out.1⟩)
            have HO3 := Aside0.mk (show Kd.S (Kd.slice 4 Kd.bool) 45 (wr.setCell ⟨gy, m.toNat, none⟩ (.bool op)) w0.heap.size (fun _ => True) (.slice (some ⟨go, 0, none⟩) h.length co) (apTo op o x (m + 1)) from by
              have e := HO2.out
              rw [HOLn.out, HY.out, apTo_step op o x m HXV.out.2.1 HXV.out.2.2.1 HXV.out.2.2.2.1 hm.out.1] at e
              exact e)
            clear HPU HGW HO2
            go_roundw
            case rel => exact ⟨m + 1, ⟨by have := HM.out; have := hm.out; omega⟩, (by first | rfl | (congr 1; have := HM.out; have := HXV.out.2.2.2.2.2.2; unfold wrap64; omega)), HO3, ⟨below_set HB.out HGY.out⟩⟩
            case measure => have h1 := HM.out; have h2 := HXV.out.2.2.2.2.2.2; have hw : wrap64 (m + 1) = m + 1 := (by unfold wrap64; omega); simp [intOf, hw]; omega
          · have hb : decide (m < rd x 2) = false := decide_eq_false hlt
            have HM := Aside0.mk hlt
            clear hlt
            go_wp2
            go_roundw
            case rel => exact ⟨i + 1, apTo op o x (rd x 2), ⟨by have := HLT.out; have := hi.out; omega⟩, (by first | rfl | (congr 1; have := HLT.out; have := HL.out; have := hi.out; unfold wrap64; omega)), ⟨(apTo_length _ _ _ _).trans HOL.out⟩, HF', ⟨by
              have h1 := HM.out
              have h2 := hm.out
              have e : apTo op o x (rd x 2) = apTo op o x m := by
                rcases h2.2 with h3 | h3
                · rw [show m = rd x 2 by omega]
                · rw [apTo_none _ _ _ m (by omega) HXV.out.2.1 HXV.out.2.2.1, apTo_none _ _ _ _ (by omega) HXV.out.2.1 HXV.out.2.2.1]
              rw [e]; exact HO.out⟩, HB⟩
            case measure => have := HLT.out; have := hi.out; have := HL.out; have hw : wrap64 (i + 1) = i + 1 := (by unfold wrap64; omega); simp [intOf, hw]; omega
      · rw [if_neg hok] at hf
        exact absurd hf (by simp)
    · have hb : decide (i < (l1.length : Int)) = false := decide_eq_false q
      have HQ := Aside0.mk q
      clear q
      go_wp2
      go_ret
      have e : o = res := by
        have h1 := hi.out
        have h2 := HF.out
        have h3 := HQ.out
        rw [List.drop_eq_nil_of_le (by omega)] at h2
        exact Option.some.inj h2
      exact ⟨rfl, e ▸ HO.out, HB.out⟩
end grid
/-! ### spec.IsRepair: function 8 -/
namespace grid
def rpIn (k : Nat) (t : List (List Bool)) (is : Bool) : List (List Int) → Option Bool
  | [] => some true
  | x :: xs => if x.length = 3 then (spec_rpAll.f k t (rd x 0) (rd x 1) (rd x 2) is).bind fun q => if q = true then rpIn k t is xs else some false else none
theorem rpIn_mono (k : Nat) (t : List (List Bool)) (is : Bool) : ∀ xs, LeO (rpIn k t is xs) (rpIn (k + 1) t is xs)
  | [] => LeO.refl _
  | _ :: xs => LeO.ite (LeO.bind (spec_rpAll.mono _ _ _ _ _ _) (fun _ => LeO.ite (rpIn_mono k t is xs) (LeO.refl _))) (LeO.none _)
def rpFit (h t : List (List Bool)) : Bool := decide (h.length = t.length) && decide (h.length ≤ 1000) && (List.range h.length).all fun i => decide ((h.getD i []).length = (t.getD i []).length ∧ (h.getD i []).length ≤ 1000000)
theorem rpFit_of {h t : List (List Bool)} (e : rpFit h t = true) : h.length = t.length ∧ h.length ≤ 1000 ∧ ∀ i, i < h.length → (h.getD i []).length = (t.getD i []).length ∧ (h.getD i []).length ≤ 1000000 := by
  unfold rpFit at e
  simp only [Bool.and_eq_true, decide_eq_true_eq, List.all_eq_true, List.mem_range] at e
  exact ⟨e.1.1, e.1.2, e.2⟩
theorem atRowB {w : World} {A : Option Addr} {n : Nat} {xs : List (List Bool)} (h : Kd.C (Kd.slice 4 Kd.bool) w A n xs) (i : Int) (h0 : 0 ≤ i) (h1 : i < n) : ∃ ad A0 c0, A = some ad ∧ w.cell? (ad.add i.toNat) = some (.slice A0 (xs.getD i.toNat []).length c0) ∧ (xs.getD i.toNat []).length ≤ c0 ∧ Kd.bool.C w A0 (xs.getD i.toNat []).length (xs.getD i.toNat []) := by
  obtain ⟨ad, c, e, _, hK, hc0⟩ := Kd.C_get h ([] : List Bool) i h0 h1
  have hc : ∀ j u, c[j]? = some u → w.cell? (ad.add (i.toNat * 1 + j)) = some u := hc0
  obtain ⟨A0, c0, rfl, l0, g0⟩ := hK
  exact ⟨ad, A0, c0, e, by have hq := hc 0 _ rfl; rwa [Nat.mul_one, Nat.add_zero] at hq, l0, g0⟩
/-- Both rows are alike up to step j. -/
def likeTo (y z : List Bool) (j : Nat) : Prop := ∀ s, s < j → y.getD s false = z.getD s false
theorem like_all {y z : List Bool} (hl : y.length = z.length) (h : likeTo y z y.length) : y = z := by
  refine List.ext_getElem hl (fun s h1 h2 => ?_)
  have := h s h1
  rw [List.getD_eq_getElem?_getD, List.getD_eq_getElem?_getD, List.getElem?_eq_getElem h1, List.getElem?_eq_getElem h2] at this
  exact this
theorem rows_all {h t : List (List Bool)} (hl : h.length = t.length) (e : ∀ i, i < h.length → h.getD i [] = t.getD i []) : h = t := by
  refine List.ext_getElem hl (fun s h1 h2 => ?_)
  have := e s h1
  rw [List.getD_eq_getElem?_getD, List.getD_eq_getElem?_getD, List.getElem?_eq_getElem h1, List.getElem?_eq_getElem h2] at this
  exact this
end grid
def spec_IsRepair.f (k : Nat) (l0 : List (S47)) (l1 : List (S47)) (l2 : List (List Int)) (l3 : List (List Int)) : Option (Bool × Bool) := (spec_rpTwo.f k l0 l1).bind fun q => if q = true then ((spec_rpGood.f k l2).bind fun q => if q = true then ((spec_rpGood.f k l3).bind fun q => if q = true then ((spec_rpOpen.f k l1).bind fun t => ((grid.rpIn k t false l2).bind fun q => if q = true then ((grid.rpIn k t true l3).bind fun q => if q = true then ((spec_rpOpen.f k l0).bind fun h => (grid.apAll false l2 h).bind fun h1 => (grid.apAll true l3 h1).bind fun h2 => if grid.rpFit h2 t = true then some (decide (h2 = t), true) else none) else some (false, true)) else some (false, true))) else some (false, false)) else some (false, false)) else some (false, false)
theorem spec_IsRepair.mono : ∀ a0 a1 a2 a3 k, LeO (spec_IsRepair.f k a0 a1 a2 a3) (spec_IsRepair.f (k + 1) a0 a1 a2 a3) := by
  intro a0 a1 a2 a3 k
  unfold spec_IsRepair.f
  exact LeO.bind (spec_rpTwo.mono _ _ _) (fun _ => LeO.ite (LeO.bind (spec_rpGood.mono _ _) (fun _ => LeO.ite (LeO.bind (spec_rpGood.mono _ _) (fun _ => LeO.ite (LeO.bind (spec_rpOpen.mono _ _) (fun _ => LeO.bind (grid.rpIn_mono _ _ _ _) (fun _ => LeO.ite (LeO.bind (grid.rpIn_mono _ _ _ _) (fun _ => LeO.ite (LeO.bind (spec_rpOpen.mono _ _) (fun _ => LeO.refl _)) (LeO.refl _))) (LeO.refl _)))) (LeO.refl _))) (LeO.refl _))) (LeO.refl _))
set_option maxHeartbeats 8000000 in
set_option maxRecDepth 100000 in
theorem spec_IsRepair.calls (k : Nat) (A0 : Option Addr) (c0 : Nat) (l0 : List (S47)) (A1 : Option Addr) (c1 : Nat) (l1 : List (S47)) (A2 : Option Addr) (c2 : Nat) (l2 : List (List Int)) (A3 : Option Addr) (c3 : Nat) (l3 : List (List Int)) (r1 : Bool) (r2 : Bool) (w : World) (hr0 : Kd.C k47 w A0 l0.length l0) (hc0 : l0.length ≤ c0) (hr1 : Kd.C k47 w A1 l1.length l1) (hc1 : l1.length ≤ c1) (hr2 : Kd.C (Kd.slice 3 (Kd.int .i64)) w A2 l2.length l2) (hc2 : l2.length ≤ c2) (hr3 : Kd.C (Kd.slice 3 (Kd.int .i64)) w A3 l3.length l3) (hc3 : l3.length ≤ c3) (h : spec_IsRepair.f k l0 l1 l2 l3 = some (r1, r2)) :
    Calls Try.prog 8 #[.slice A0 l0.length c0, .slice A1 l1.length c1, .slice A2 l2.length c2, .slice A3 l3.length c3] w fun e w' => e = .returned (.tuple #[.bool r1, .bool r2]) ∧ Below w.heap.size w w' := by
  unfold spec_IsRepair.f at h
  have HR0 := Aside0.mk hr0
  have HC0 := Aside0.mk hc0
  have HR1 := Aside0.mk hr1
  have HC1 := Aside0.mk hc1
  have HR2 := Aside0.mk hr2
  have HC2 := Aside0.mk hc2
  have HR3 := Aside0.mk hr3
  have HC3 := Aside0.mk hc3
  have HB := Aside0.mk (Below.refl w.heap.size w)
  clear hr0 hr1 hr2 hr3 hc0 hc1 hc2 hc3
  obtain ⟨q0, hq0, h⟩ := Option.bind_eq_some_iff.1 h
  have HQ0 := Aside0.mk hq0
  clear hq0
  cases q0 with
  | false =>
    rw [if_neg (by decide)] at h
    cases h
    go_enter Try.func8, Try.ntmps8
    go_wp2_with (first | (go_at_call 22; (with_reducible refine (spec_rpTwo.calls k _ _ l0 _ _ l1 false _ ?s1 ?s2 ?s3 ?s4 HQ0.out).mono ?_); (case s1 => exact Kd.C_below HR0.out HB.out); (case s2 => exact HC0.out); (case s3 => exact Kd.C_below HR1.out HB.out); (case s4 => exact HC1.out); rintro e w1 ⟨rfl, hb⟩; have n0_ := Aside0.mk (below_step HB.out hb); clear HB hb; have HB := n0_; clear n0_))
    go_ret2
    exact ⟨rfl, HB.out⟩
  | true =>
    rw [if_pos rfl] at h
    obtain ⟨q1, hq1, h⟩ := Option.bind_eq_some_iff.1 h
    have HQ1 := Aside0.mk hq1
    clear hq1
    cases q1 with
    | false =>
      rw [if_neg (by decide)] at h
      cases h
      go_enter Try.func8, Try.ntmps8
      go_wp2_with (first | (go_at_call 22; (with_reducible refine (spec_rpTwo.calls k _ _ l0 _ _ l1 true _ ?s1 ?s2 ?s3 ?s4 HQ0.out).mono ?_); (case s1 => exact Kd.C_below HR0.out HB.out); (case s2 => exact HC0.out); (case s3 => exact Kd.C_below HR1.out HB.out); (case s4 => exact HC1.out); rintro e w1 ⟨rfl, hb⟩; have n0_ := Aside0.mk (below_step HB.out hb); clear HB hb; have HB := n0_; clear n0_) | (go_at_call 23; (with_reducible refine (spec_rpGood.calls k _ _ l2 false _ ?s1 ?s2 HQ1.out).mono ?_); (case s1 => exact Kd.C_below HR2.out HB.out); (case s2 => exact HC2.out); rintro e w2 ⟨rfl, hb⟩; have n0_ := Aside0.mk (below_step HB.out hb); clear HB hb; have HB := n0_; clear n0_))
      go_ret2
      exact ⟨rfl, HB.out⟩
    | true =>
      rw [if_pos rfl] at h
      obtain ⟨q2, hq2, h⟩ := Option.bind_eq_some_iff.1 h
      have HQ2 := Aside0.mk hq2
      clear hq2
      cases q2 with
      | false =>
        rw [if_neg (by decide)] at h
        cases h
        go_enter Try.func8, Try.ntmps8
        go_wp2_with (first | (go_at_call 22; (with_reducible refine (spec_rpTwo.calls k _ _ l0 _ _ l1 true _ ?s1 ?s2 ?s3 ?s4 HQ0.out).mono ?_); (case s1 => exact Kd.C_below HR0.out HB.out); (case s2 => exact HC0.out); (case s3 => exact Kd.C_below HR1.out HB.out); (case s4 => exact HC1.out); rintro e w1 ⟨rfl, hb⟩; have n0_ := Aside0.mk (below_step HB.out hb); clear HB hb; have HB := n0_; clear n0_) | (go_at_call 23; (with_reducible refine (spec_rpGood.calls k _ _ l2 true _ ?s1 ?s2 HQ1.out).mono ?_); (case s1 => exact Kd.C_below HR2.out HB.out); (case s2 => exact HC2.out); rintro e w2 ⟨rfl, hb⟩; have n0_ := Aside0.mk (below_step HB.out hb); clear HB hb; have HB := n0_; clear n0_) | (go_at_call 23; (with_reducible refine (spec_rpGood.calls k _ _ l3 false _ ?s1 ?s2 HQ2.out).mono ?_); (case s1 => exact Kd.C_below HR3.out HB.out); (case s2 => exact HC3.out); rintro e w3 ⟨rfl, hb⟩; have n0_ := Aside0.mk (below_step HB.out hb); clear HB hb; have HB := n0_; clear n0_))
        go_ret2
        exact ⟨rfl, HB.out⟩
      | true =>
        rw [if_pos rfl] at h
        obtain ⟨t, ht, h⟩ := Option.bind_eq_some_iff.1 h
        obtain ⟨q4, hq4, h⟩ := Option.bind_eq_some_iff.1 h
        have HT := Aside0.mk ht
        have HI2 := Aside0.mk hq4
        have HRES2 := Aside0.mk h
        clear h ht hq4
        go_enter Try.func8, Try.ntmps8
        go_wp2_with (first | (go_at_call 22; (with_reducible refine (spec_rpTwo.calls k _ _ l0 _ _ l1 true _ ?s1 ?s2 ?s3 ?s4 HQ0.out).mono ?_); (case s1 => exact Kd.C_below HR0.out HB.out); (case s2 => exact HC0.out); (case s3 => exact Kd.C_below HR1.out HB.out); (case s4 => exact HC1.out); rintro e w1 ⟨rfl, hb⟩; have n0_ := Aside0.mk (below_step HB.out hb); clear HB hb; have HB := n0_; clear n0_) | (go_at_call 23; (with_reducible refine (spec_rpGood.calls k _ _ l2 true _ ?s1 ?s2 HQ1.out).mono ?_); (case s1 => exact Kd.C_below HR2.out HB.out); (case s2 => exact HC2.out); rintro e w2 ⟨rfl, hb⟩; have n0_ := Aside0.mk (below_step HB.out hb); clear HB hb; have HB := n0_; clear n0_) | (go_at_call 23; (with_reducible refine (spec_rpGood.calls k _ _ l3 true _ ?s1 ?s2 HQ2.out).mono ?_); (case s1 => exact Kd.C_below HR3.out HB.out); (case s2 => exact HC3.out); rintro e w3 ⟨rfl, hb⟩; have n0_ := Aside0.mk (below_step HB.out hb); clear HB hb; have HB := n0_; clear n0_) | ((with_reducible refine gate_callee (f := 24) rfl ?_); refine goesL_ (some 35) rfl rfl Try.func24 (by kernel_rfl) rfl #[.slice A1 l1.length c1] rfl (by (try simp only [List.map_toArray, List.map_cons, List.map_nil]); first | done | rfl) ?_; (with_reducible refine (spec_rpOpen.calls k _ _ l1 t _ ?side1 ?side2 HT.out).mono ?_); (case side1 => exact Kd.C_below HR1.out HB.out); (case side2 => exact HC1.out); rintro e w4 ⟨vt, rfl, ho0, hb⟩; refine ⟨_, rfl, ?_⟩; obtain ⟨At, ct, et, htl, htc⟩ := Kd.S_reads ho0; subst et; have HTC := Aside0.mk htc; have HTL := Aside0.mk htl; have HBW := Aside0.mk (below_step HB.out hb); clear ho0 hb HB htc htl))
        have HB := Aside0.mk (Below.refl w4.heap.size w4)
        have HL2 := Aside0.mk HR2.out.2.1
        go_loopw [38] (fun v wr => ∃ i : Int, Aside0 (0 ≤ i ∧ i ≤ l2.length) ∧ v = .int .i64 i ∧ Aside0 (grid.rpIn k t false (l2.drop i.toNat) = some q4) ∧ Aside0 (Below w4.heap.size w4 wr)) (fun v _ => ((l2.length : Int) - intOf v).toNat)
        case atStart => exact ⟨0, ⟨by omega⟩, rfl, ⟨by simpa using HI2.out⟩, HB⟩
        case round =>
          clear HB
          obtain ⟨i, hi, rfl, HA, HB⟩ := hrel
          by_cases q : i < (l2.length : Int)
          · have p : 0 ≤ i := hi.out.1
            have hlt : i.toNat < l2.length := by omega
            have HX2 := Aside0.mk (Kd.C_below HR2.out (below_step HBW.out HB.out))
            obtain ⟨ad, Ax, cx, eA, hxc, hxl, hxr⟩ := grid.atRow HX2.out i p q
            subst eA
            have hf := HA.out
            rw [List.drop_eq_getElem_cons hlt] at hf
            have ex : l2[i.toNat] = l2.getD i.toNat [] := by rw [List.getD_eq_getElem?_getD, List.getElem?_eq_getElem hlt]; rfl
            rw [ex] at hf
            obtain ⟨x, hx⟩ : ∃ x, x = l2.getD i.toNat [] := ⟨_, rfl⟩
            rw [← hx] at hf hxc hxl hxr
            clear ex hx HA
            unfold grid.rpIn at hf
            by_cases hx3 : x.length = 3
            · rw [if_pos hx3] at hf
              rw [hx3] at hxc hxl hxr
              obtain ⟨qv, hal, hf⟩ := Option.bind_eq_some_iff.1 hf
              have HAL := Aside0.mk hal
              obtain ⟨xd, exd, hxr0⟩ := Kd.at_int hxr 0 (by omega) (by omega)
              obtain ⟨xd1, exd1, hxr1⟩ := Kd.at_int hxr 1 (by omega) (by omega)
              obtain ⟨xd2, exd2, hxr2⟩ := Kd.at_int hxr 2 (by omega) (by omega)
              cases exd
              cases exd1
              cases exd2
              rw [show ((0 : Int)).toNat = 0 from rfl, Addr.add_zero'] at hxr0
              simp only [show (1 : Int).toNat = 1 from rfl, Nat.reduceMul, Nat.reduceEqDiff, Go.Addr.add, ↓reduceIte] at hxr1
              simp only [show (2 : Int).toNat = 2 from rfl, Nat.reduceMul, Nat.reduceEqDiff, Go.Addr.add, ↓reduceIte] at hxr2
              have HTW := Aside0.mk (Kd.C_below HTC.out HB.out)
              have HLT := Aside0.mk hlt
              have qb : decide (i < (l2.length : Int)) = true := decide_eq_true q
              replace p := eq_true p
              replace q := eq_true q
              clear hlt hal hxl hxr hx3
              cases qv with
              | false =>
                rw [if_neg (by decide)] at hf
                have HE := Aside0.mk (Option.some.inj hf)
                clear hf
                go_wp2
                go_quiet (first | (go_at_call 25; (with_reducible refine (spec_rpAll.calls k _ _ t (rd x 0) (rd x 1) (rd x 2) false false _ ?s1 ?s2 HAL.out).mono ?_); (case s1 => repeat (first | exact HTW.out | (with_reducible refine Kd.C_alloc ?_ _) | (with_reducible refine Kd.C_drewN ?_ _) | (with_reducible refine Kd.C_drew ?_))); (case s2 => exact HTL.out); rintro e w' ⟨rfl, ⟨nd, rfl⟩⟩; exact ⟨rfl, _, World.drewN_drewN _ _ _⟩))
                go_wp2
                go_ret2
                have hR := HRES2.out
                rw [← HE.out, if_neg (by decide)] at hR
                have hR := Option.some.inj hR
                rw [show r1 = false from (congrArg Prod.fst hR).symm, show r2 = true from (congrArg Prod.snd hR).symm]
                exact ⟨rfl, pw_below_drewN (below_step HBW.out HB.out) _⟩
              | true =>
                rw [if_pos rfl] at hf
                have HF' := Aside0.mk (show grid.rpIn k t false (l2.drop (i + 1).toNat) = some q4 from by have := hi.out; rw [show (i + 1).toNat = i.toNat + 1 by omega]; exact hf)
                clear hf
                go_wp2
                go_quiet (first | (go_at_call 25; (with_reducible refine (spec_rpAll.calls k _ _ t (rd x 0) (rd x 1) (rd x 2) false true _ ?s1 ?s2 HAL.out).mono ?_); (case s1 => repeat (first | exact HTW.out | (with_reducible refine Kd.C_alloc ?_ _) | (with_reducible refine Kd.C_drewN ?_ _) | (with_reducible refine Kd.C_drew ?_))); (case s2 => exact HTL.out); rintro e w' ⟨rfl, ⟨nd, rfl⟩⟩; exact ⟨rfl, _, World.drewN_drewN _ _ _⟩))
                go_wp2
                go_roundw
                case rel => exact ⟨i + 1, ⟨by have := HLT.out; have := hi.out; omega⟩, (by first | rfl | (congr 1; have := HLT.out; have := HL2.out; have := hi.out; unfold wrap64; omega)), HF', ⟨pw_below_drewN HB.out _⟩⟩
                case measure => have := HLT.out; have := hi.out; have := HL2.out; have hw : wrap64 (i + 1) = i + 1 := (by unfold wrap64; omega); simp [intOf, hw]; omega
            · rw [if_neg hx3] at hf
              exact absurd hf (by simp)
          · have qb : decide (i < (l2.length : Int)) = false := decide_eq_false q
            have HE := Aside0.mk (show true = q4 from by have h1 := hi.out; have h2 := HA.out; rw [List.drop_eq_nil_of_le (by omega)] at h2; exact Option.some.inj h2)
            have hR := HRES2.out
            rw [← HE.out, if_pos rfl] at hR
            clear q hi HA HE HRES2 HI2
            obtain ⟨q5, hq5, hR⟩ := Option.bind_eq_some_iff.1 hR
            have HI3 := Aside0.mk hq5
            have HRES3 := Aside0.mk hR
            clear hq5 hR
            go_wp2
            have HL3 := Aside0.mk HR3.out.2.1
            go_loopw [57] (fun v wr => ∃ i : Int, Aside0 (0 ≤ i ∧ i ≤ l3.length) ∧ v = .int .i64 i ∧ Aside0 (grid.rpIn k t true (l3.drop i.toNat) = some q5) ∧ Aside0 (Below w4.heap.size w4 wr)) (fun v _ => ((l3.length : Int) - intOf v).toNat)
            case atStart => exact ⟨0, ⟨by omega⟩, rfl, ⟨by simpa using HI3.out⟩, HB⟩
            case round =>
              clear HB
              obtain ⟨i, hi, rfl, HA, HB⟩ := hrel
              by_cases q : i < (l3.length : Int)
              · have p : 0 ≤ i := hi.out.1
                have hlt : i.toNat < l3.length := by omega
                have HX3 := Aside0.mk (Kd.C_below HR3.out (below_step HBW.out HB.out))
                obtain ⟨ad, Ax, cx, eA, hxc, hxl, hxr⟩ := grid.atRow HX3.out i p q
                subst eA
                have hf := HA.out
                rw [List.drop_eq_getElem_cons hlt] at hf
                have ex : l3[i.toNat] = l3.getD i.toNat [] := by rw [List.getD_eq_getElem?_getD, List.getElem?_eq_getElem hlt]; rfl
                rw [ex] at hf
                obtain ⟨x, hx⟩ : ∃ x, x = l3.getD i.toNat [] := ⟨_, rfl⟩
                rw [← hx] at hf hxc hxl hxr
                clear ex hx HA
                unfold grid.rpIn at hf
                by_cases hx3 : x.length = 3
                · rw [if_pos hx3] at hf
                  rw [hx3] at hxc hxl hxr
                  obtain ⟨qv, hal, hf⟩ := Option.bind_eq_some_iff.1 hf
                  have HAL := Aside0.mk hal
                  obtain ⟨xd, exd, hxr0⟩ := Kd.at_int hxr 0 (by omega) (by omega)
                  obtain ⟨xd1, exd1, hxr1⟩ := Kd.at_int hxr 1 (by omega) (by omega)
                  obtain ⟨xd2, exd2, hxr2⟩ := Kd.at_int hxr 2 (by omega) (by omega)
                  cases exd
                  cases exd1
                  cases exd2
                  rw [show ((0 : Int)).toNat = 0 from rfl, Addr.add_zero'] at hxr0
                  simp only [show (1 : Int).toNat = 1 from rfl, Nat.reduceMul, Nat.reduceEqDiff, Go.Addr.add, ↓reduceIte] at hxr1
                  simp only [show (2 : Int).toNat = 2 from rfl, Nat.reduceMul, Nat.reduceEqDiff, Go.Addr.add, ↓reduceIte] at hxr2
                  have HTW := Aside0.mk (Kd.C_below HTC.out HB.out)
                  have HLT := Aside0.mk hlt
                  have qb : decide (i < (l3.length : Int)) = true := decide_eq_true q
                  replace p := eq_true p
                  replace q := eq_true q
                  clear hlt hal hxl hxr hx3
                  cases qv with
                  | false =>
                    rw [if_neg (by decide)] at hf
                    have HE := Aside0.mk (Option.some.inj hf)
                    clear hf
                    go_wp2
                    go_quiet (first | (go_at_call 25; (with_reducible refine (spec_rpAll.calls k _ _ t (rd x 0) (rd x 1) (rd x 2) true false _ ?s1 ?s2 HAL.out).mono ?_); (case s1 => repeat (first | exact HTW.out | (with_reducible refine Kd.C_alloc ?_ _) | (with_reducible refine Kd.C_drewN ?_ _) | (with_reducible refine Kd.C_drew ?_))); (case s2 => exact HTL.out); rintro e w' ⟨rfl, ⟨nd, rfl⟩⟩; exact ⟨rfl, _, World.drewN_drewN _ _ _⟩))
                    go_wp2
                    go_ret2
                    have hR := HRES3.out
                    rw [← HE.out, if_neg (by decide)] at hR
                    have hR := Option.some.inj hR
                    rw [show r1 = false from (congrArg Prod.fst hR).symm, show r2 = true from (congrArg Prod.snd hR).symm]
                    exact ⟨rfl, pw_below_drewN (below_step HBW.out HB.out) _⟩
                  | true =>
                    rw [if_pos rfl] at hf
                    have HF' := Aside0.mk (show grid.rpIn k t true (l3.drop (i + 1).toNat) = some q5 from by have := hi.out; rw [show (i + 1).toNat = i.toNat + 1 by omega]; exact hf)
                    clear hf
                    go_wp2
                    go_quiet (first | (go_at_call 25; (with_reducible refine (spec_rpAll.calls k _ _ t (rd x 0) (rd x 1) (rd x 2) true true _ ?s1 ?s2 HAL.out).mono ?_); (case s1 => repeat (first | exact HTW.out | (with_reducible refine Kd.C_alloc ?_ _) | (with_reducible refine Kd.C_drewN ?_ _) | (with_reducible refine Kd.C_drew ?_))); (case s2 => exact HTL.out); rintro e w' ⟨rfl, ⟨nd, rfl⟩⟩; exact ⟨rfl, _, World.drewN_drewN _ _ _⟩))
                    go_wp2
                    go_roundw
                    case rel => exact ⟨i + 1, ⟨by have := HLT.out; have := hi.out; omega⟩, (by first | rfl | (congr 1; have := HLT.out; have := HL3.out; have := hi.out; unfold wrap64; omega)), HF', ⟨pw_below_drewN HB.out _⟩⟩
                    case measure => have := HLT.out; have := hi.out; have := HL3.out; have hw : wrap64 (i + 1) = i + 1 := (by unfold wrap64; omega); simp [intOf, hw]; omega
                · rw [if_neg hx3] at hf
                  exact absurd hf (by simp)
              · have qb : decide (i < (l3.length : Int)) = false := decide_eq_false q
                have HE := Aside0.mk (show true = q5 from by have h1 := hi.out; have h2 := HA.out; rw [List.drop_eq_nil_of_le (by omega)] at h2; exact Option.some.inj h2)
                have hR := HRES3.out
                rw [← HE.out, if_pos rfl] at hR
                clear q hi HA HE HRES3 HI3
                obtain ⟨h, hh, hR⟩ := Option.bind_eq_some_iff.1 hR
                obtain ⟨h1, ha1, hR⟩ := Option.bind_eq_some_iff.1 hR
                obtain ⟨h2, ha2, hR⟩ := Option.bind_eq_some_iff.1 hR
                by_cases hfit : grid.rpFit h2 t = true
                · rw [if_pos hfit] at hR
                  have hR := Option.some.inj hR
                  have HRES := Aside0.mk hR
                  have HFT := Aside0.mk (grid.rpFit_of hfit)
                  have HH := Aside0.mk hh
                  have HA2 := Aside0.mk ha1
                  have HA3 := Aside0.mk ha2
                  clear hR hfit hh ha1 ha2
                  obtain ⟨w5, hw5⟩ : ∃ w5, w5 = wr := ⟨_, rfl⟩
                  subst hw5
                  go_wp2_with (first | ((with_reducible refine gate_callee (f := 24) rfl ?_); refine goesL_ (some 75) rfl rfl Try.func24 (by kernel_rfl) rfl #[.slice A0 l0.length c0] rfl (by (try simp only [List.map_toArray, List.map_cons, List.map_nil]); first | done | rfl) ?_; (with_reducible refine (spec_rpOpen.calls k _ _ l0 h _ ?side1 ?side2 HH.out).mono ?_); (case side1 => exact Kd.C_below HR0.out (below_step HBW.out HB.out)); (case side2 => exact HC0.out); rintro e w6 ⟨vh, rfl, ho0, hb⟩; refine ⟨_, rfl, ?_⟩; obtain ⟨Ao, co, eo⟩ := Kd.S_slice ho0; subst eo; have HO := Aside0.mk ho0; have HBO := Aside0.mk hb; clear ho0 hb) | (go_at_call 26; (with_reducible refine (grid.rpApply.calls (.slice Ao h.length co) h false A2 c2 l2 h1 w5 _ HO.out ?s1 HBO.out HA2.out).mono ?_); (case s1 => exact Kd.C_below HR2.out (below_step HBW.out HB.out)); rintro e w7 ⟨rfl, ho, hb⟩; have n0_ := Aside0.mk ho; have n1_ := Aside0.mk hb; clear HO HBO ho hb; have HO := n0_; have HBO := n1_; clear n0_ n1_) | (go_at_call 26; (with_reducible refine (grid.rpApply.calls (.slice Ao h.length co) h1 true A3 c3 l3 h2 w5 _ HO.out ?s1 HBO.out HA3.out).mono ?_); (case s1 => exact Kd.C_below HR3.out (below_step HBW.out HB.out)); rintro e w8 ⟨rfl, ho, hb⟩; have n0_ := Aside0.mk ho; have n1_ := Aside0.mk hb; clear HO HBO ho hb; have HO := n0_; have HBO := n1_; clear n0_ n1_))
                  obtain ⟨en, hcap, hcc⟩ := Kd.S_reads' HO.out
                  have HEN := Aside0.mk en
                  have HXC := Aside0.mk hcc
                  have HT8 := Aside0.mk (Kd.C_below HTC.out (below_step HB.out HBO.out))
                  have HBF := Aside0.mk (below_step (below_step HBW.out HB.out) HBO.out)
                  clear hcc hcap en HO HBO HB
                  go_loopw [82] (fun v wq => ∃ i : Int, Aside0 (0 ≤ i ∧ i ≤ h.length) ∧ v = .int .i64 i ∧ Aside0 (∀ n, n < i.toNat → h2.getD n [] = t.getD n []) ∧ wq = w8) (fun v _ => ((h.length : Int) - intOf v).toNat)
                  case atStart => exact ⟨0, ⟨by omega⟩, rfl, ⟨fun n hn => absurd hn (by simp)⟩, rfl⟩
                  case round =>
                    obtain ⟨i, hi, rfl, HS, hw⟩ := hrel
                    subst hw
                    by_cases q : i < (h.length : Int)
                    · have p : 0 ≤ i := hi.out.1
                      have hle : i.toNat < h2.length := by have := HEN.out; omega
                      obtain ⟨ad, Ay, cy, eA, hyc, hyl, hyr⟩ := grid.atRowB HXC.out i p (by have := HEN.out; omega)
                      subst eA
                      obtain ⟨y, hy⟩ : ∃ y, y = h2.getD i.toNat [] := ⟨_, rfl⟩
                      rw [← hy] at hyc hyl hyr
                      have q2 : i < (t.length : Int) := by have := HEN.out; have := HFT.out.1; omega
                      obtain ⟨ad2, Az, cz, eA2, hzc, hzl, hzr⟩ := grid.atRowB HT8.out i p q2
                      subst eA2
                      obtain ⟨z, hz⟩ : ∃ z, z = t.getD i.toNat [] := ⟨_, rfl⟩
                      rw [← hz] at hzc hzl hzr
                      have hyz : y.length = z.length ∧ y.length ≤ 1000000 := by rw [hy, hz]; exact HFT.out.2.2 i.toNat hle
                      have HYR := Aside0.mk hyr
                      have HZR := Aside0.mk hzr
                      have HYZ := Aside0.mk hyz
                      have HY := Aside0.mk hy
                      have HZ := Aside0.mk hz
                      have HQ := Aside0.mk q
                      have qb : decide (i < (h.length : Int)) = true := decide_eq_true q
                      replace p := eq_true p
                      replace q := eq_true q
                      replace q2 := eq_true q2
                      clear hyl hyr hzl hzr hyz hy hz hle
                      go_wp2
                      go_loopw [89] (fun v wq => ∃ j : Int, Aside0 (0 ≤ j ∧ j ≤ y.length) ∧ v = .int .i64 j ∧ Aside0 (grid.likeTo y z j.toNat) ∧ wq = wr) (fun v _ => ((y.length : Int) - intOf v).toNat)
                      case atStart => exact ⟨0, ⟨by omega⟩, rfl, ⟨fun n hn => absurd hn (by simp)⟩, rfl⟩
                      case round =>
                        obtain ⟨j, hj, rfl, HLK, hw⟩ := hrel
                        subst hw
                        by_cases qj : j < (y.length : Int)
                        · have pj : 0 ≤ j := hj.out.1
                          have qz : j < (z.length : Int) := by have := HYZ.out.1; omega
                          obtain ⟨yd, eyd, hyb⟩ := Kd.at_bool HYR.out j pj qj
                          obtain ⟨zd, ezd, hzb⟩ := Kd.at_bool HZR.out j pj qz
                          cases eyd
                          cases ezd
                          have HQJ := Aside0.mk (show 0 ≤ j ∧ j < (y.length : Int) from ⟨pj, qj⟩)
                          have qjb : decide (j < (y.length : Int)) = true := decide_eq_true qj
                          replace pj := eq_true pj
                          replace qj := eq_true qj
                          replace qz := eq_true qz
                          by_cases he : rdOf false y j = rdOf false z j
                          · have d0 : (rdOf false y j != rdOf false z j) = false := by simp [he]
                            have d1 : decide (rdOf false y j = rdOf false z j) = true := decide_eq_true he
                            have d2 : (rdOf false y j == rdOf false z j) = true := by simp [he]
                            have HE := Aside0.mk he
                            clear he
                            go_wp2
                            go_roundw
                            case rel => exact ⟨j + 1, ⟨by have := HQJ.out; omega⟩, (by first | rfl | (congr 1; have := HQJ.out; have := HYZ.out.2; unfold wrap64; omega)), ⟨fun s hs => by
                              by_cases e : s < j.toNat
                              · exact HLK.out s e
                              · have h1 := HQJ.out
                                rw [show s = j.toNat by omega]
                                exact HE.out⟩, by trivial⟩
                            case measure => have := HQJ.out; have := HYZ.out.2; have hw : wrap64 (j + 1) = j + 1 := (by unfold wrap64; omega); simp [intOf, hw]; omega
                          · have d0 : (rdOf false y j != rdOf false z j) = true := by simp [he]
                            have d1 : decide (rdOf false y j = rdOf false z j) = false := decide_eq_false he
                            have d2 : (rdOf false y j == rdOf false z j) = false := by simp [he]
                            have HE := Aside0.mk he
                            clear he
                            go_wp2
                            go_ret2
                            have hR := HRES.out
                            have hn : decide (h2 = t) = false := decide_eq_false (fun e => HE.out (by rw [HY.out, HZ.out, e]))
                            rw [hn] at hR
                            rw [show r1 = false from (congrArg Prod.fst hR).symm, show r2 = true from (congrArg Prod.snd hR).symm]
                            exact ⟨rfl, HBF.out⟩
                        · have qjb : decide (j < (y.length : Int)) = false := decide_eq_false qj
                          have HQJ := Aside0.mk qj
                          clear qj
                          go_wp2
                          go_roundw
                          case rel => exact ⟨i + 1, ⟨by have := HQ.out; have := hi.out; omega⟩, (by first | rfl | (congr 1; have := HQ.out; have := hi.out; have := HFT.out.2.1; have := HEN.out; unfold wrap64; omega)), ⟨fun n hn => by
                            have h1 := hi.out
                            by_cases e : n < i.toNat
                            · exact HS.out n e
                            · rw [show n = i.toNat by omega, ← HY.out, ← HZ.out]
                              have h2 := HQJ.out
                              have h3 := hj.out
                              refine grid.like_all HYZ.out.1 (fun s hs => HLK.out s (by omega))⟩, by trivial⟩
                          case measure => have := HQ.out; have := hi.out; have := HFT.out.2.1; have := HEN.out; have hw : wrap64 (i + 1) = i + 1 := (by unfold wrap64; omega); simp [intOf, hw]; omega
                    · have qb : decide (i < (h.length : Int)) = false := decide_eq_false q
                      have HQ := Aside0.mk q
                      clear q
                      go_wp2
                      go_ret2
                      have hR := HRES.out
                      have hn : decide (h2 = t) = true := decide_eq_true (grid.rows_all HFT.out.1 (fun n hn => HS.out n (by have := HQ.out; have := hi.out; have := HEN.out; omega)))
                      rw [hn] at hR
                      rw [show r1 = true from (congrArg Prod.fst hR).symm, show r2 = true from (congrArg Prod.snd hR).symm]
                      exact ⟨rfl, HBF.out⟩
                · rw [if_neg hfit] at hR; cases hR

/-! ### laws_toHole: function 27 -/
def laws_toHole.f (a0_0 : Int) (a0_1 : Int) (a0_2 : Int) : Option (Int × Int × Int) := some (a0_0, a0_1, a0_2)
set_option maxHeartbeats 8000000 in
set_option maxRecDepth 100000 in
theorem laws_toHole.calls (a0_0 : Int) (a0_1 : Int) (a0_2 : Int) (r1 : Int) (r2 : Int) (r3 : Int) (w : World) (h : laws_toHole.f a0_0 a0_1 a0_2 = some (r1, r2, r3)) :
    Calls Try.prog 27 #[.agg #[.int .i64 a0_0, .int .i64 a0_1, .int .i64 a0_2]] w fun e w' => e = .returned (.agg #[.int .i64 r1, .int .i64 r2, .int .i64 r3]) ∧ Below w.heap.size w w' := by
  have hu49 := Try.underlying49
  have hu47 := Try.underlying47
  have HB := Aside0.mk (Below.refl w.heap.size w)
  have H : (some (a0_0, a0_1, a0_2)) = some (r1, r2, r3) := h
  clear h
  simp only [Option.some.injEq, Prod.mk.injEq] at H
  obtain ⟨rfl, rfl, rfl⟩ := H
  go_enter Try.func27, Try.ntmps27
  go_wp2_with (first | ((with_reducible refine gate_dst (N := 1) rfl ?_); refine box_event ?hg (N := 1) ?hd (cs := #[.int .i64 a0_0, .int .i64 a0_1, .int .i64 a0_2]) (t := 49) ?hr ?_; (case hd => rfl); (case hg => rfl); (case hr => first | (go_simp; done) | (go_simp; rfl)); intro gb143 hg w2 hbox hb; have n0_ := Aside0.mk (below_step (by repeat (first | (with_reducible first | exact HB.out | apply below_alloc | apply pw_below_drewN | apply below_drew1) | exact HB.out)) hb); have n1_ := Aside0.mk (hbox); have n2_ := Aside0.mk ((by rw [hg]; exact (below_size (by repeat (first | (with_reducible first | exact HB.out | apply below_alloc | apply pw_below_drewN | apply below_drew1) | exact HB.out))) : w.heap.size ≤ gb143)); have n3_ := Aside0.mk ((by rw [hg]; exact (below_size (by repeat (first | (with_reducible first | exact HB.out | apply below_alloc | apply pw_below_drewN | apply below_drew1) | exact HB.out))) : w.heap.size ≤ gb143)); clear HB; have HB := n0_; have BK143 := n1_; have GW143 := n2_; have GE143 := n3_; clear n0_ n1_ n2_ n3_; clear hb hbox hg) | ((with_reducible refine gate_dst (N := 2) rfl ?_); refine box_event ?hg (N := 2) ?hd (cs := #[.int .i64 0, .int .i64 0, .int .i64 0]) (t := 47) ?hr ?_; (case hd => rfl); (case hg => rfl); (case hr => first | (go_simp; done) | (go_simp; rfl)); intro gb144 hg w3 hbox hb; have n0_ := Aside0.mk (blk_below (g := gb143) (o := .cells #[.int .i64 a0_0, .int .i64 a0_1, .int .i64 a0_2] 49 (0, 0)) (by (with_reducible repeat (first | refine blk_drewN ?_ _ | refine blk_drew ?_ | refine blk_alloc ?_ _)); exact BK143.out) hb); have n1_ := Aside0.mk (below_step (by repeat (first | (with_reducible first | exact HB.out | apply below_alloc | apply pw_below_drewN | apply below_drew1 | refine below_set ?_ GE143.out) | exact HB.out)) hb); have n2_ := Aside0.mk (hbox); have n3_ := Aside0.mk ((by rw [hg]; exact (below_size (by repeat (first | (with_reducible first | exact HB.out | apply below_alloc | apply pw_below_drewN | apply below_drew1 | refine below_set ?_ GE143.out) | exact HB.out))) : w.heap.size ≤ gb144)); have n4_ := Aside0.mk ((by rw [hg]; exact (below_size (by repeat (first | (with_reducible first | exact HB.out | apply below_alloc | apply pw_below_drewN | apply below_drew1 | refine below_set ?_ GE143.out) | exact HB.out))) : w.heap.size ≤ gb144)); have n5_ := Aside0.mk ((by rw [hg]; exact Nat.ne_of_lt (blk_lt (g := gb143) (o := .cells #[.int .i64 a0_0, .int .i64 a0_1, .int .i64 a0_2] 49 (0, 0)) (by (with_reducible repeat (first | refine blk_drewN ?_ _ | refine blk_drew ?_ | refine blk_alloc ?_ _)); exact BK143.out)) : gb143 ≠ gb144)); have n6_ := Aside0.mk ((by rw [hg]; exact Nat.ne_of_gt (blk_lt (g := gb143) (o := .cells #[.int .i64 a0_0, .int .i64 a0_1, .int .i64 a0_2] 49 (0, 0)) (by (with_reducible repeat (first | refine blk_drewN ?_ _ | refine blk_drew ?_ | refine blk_alloc ?_ _)); exact BK143.out)) : gb144 ≠ gb143)); clear BK143; clear HB; have BK143 := n0_; have HB := n1_; have BK144 := n2_; have GW144 := n3_; have GE144 := n4_; have NB143_144 := n5_; have NB144_143 := n6_; clear n0_ n1_ n2_ n3_ n4_ n5_ n6_; clear hb hbox hg) | ((with_reducible refine gate_dst (N := 3) rfl ?_); refine box_event ?hg (N := 3) ?hd (cs := #[.int .i64 0, .int .i64 0, .int .i64 0]) (t := 47) ?hr ?_; (case hd => rfl); (case hg => rfl); (case hr => first | (go_simp; done) | (go_simp; rfl)); intro gb145 hg w4 hbox hb; have n0_ := Aside0.mk (blk_below (g := gb143) (o := .cells #[.int .i64 a0_0, .int .i64 a0_1, .int .i64 a0_2] 49 (0, 0)) (by (with_reducible repeat (first | refine blk_drewN ?_ _ | refine blk_drew ?_ | refine blk_alloc ?_ _)); exact BK143.out) hb); have n1_ := Aside0.mk (blk_below (g := gb144) (o := .cells #[.int .i64 0, .int .i64 0, .int .i64 0] 47 (0, 0)) (by (with_reducible repeat (first | refine blk_drewN ?_ _ | refine blk_drew ?_ | refine blk_alloc ?_ _)); exact BK144.out) hb); have n2_ := Aside0.mk (below_step (by repeat (first | (with_reducible first | exact HB.out | apply below_alloc | apply pw_below_drewN | apply below_drew1 | refine below_set ?_ GE143.out | refine below_set ?_ GE144.out) | exact HB.out)) hb); have n3_ := Aside0.mk (hbox); have n4_ := Aside0.mk ((by rw [hg]; exact (below_size (by repeat (first | (with_reducible first | exact HB.out | apply below_alloc | apply pw_below_drewN | apply below_drew1 | refine below_set ?_ GE143.out | refine below_set ?_ GE144.out) | exact HB.out))) : w.heap.size ≤ gb145)); have n5_ := Aside0.mk ((by rw [hg]; exact (below_size (by repeat (first | (with_reducible first | exact HB.out | apply below_alloc | apply pw_below_drewN | apply below_drew1 | refine below_set ?_ GE143.out | refine below_set ?_ GE144.out) | exact HB.out))) : w.heap.size ≤ gb145)); have n6_ := Aside0.mk ((by rw [hg]; exact Nat.ne_of_lt (blk_lt (g := gb143) (o := .cells #[.int .i64 a0_0, .int .i64 a0_1, .int .i64 a0_2] 49 (0, 0)) (by (with_reducible repeat (first | refine blk_drewN ?_ _ | refine blk_drew ?_ | refine blk_alloc ?_ _)); exact BK143.out)) : gb143 ≠ gb145)); have n7_ := Aside0.mk ((by rw [hg]; exact Nat.ne_of_gt (blk_lt (g := gb143) (o := .cells #[.int .i64 a0_0, .int .i64 a0_1, .int .i64 a0_2] 49 (0, 0)) (by (with_reducible repeat (first | refine blk_drewN ?_ _ | refine blk_drew ?_ | refine blk_alloc ?_ _)); exact BK143.out)) : gb145 ≠ gb143)); have n8_ := Aside0.mk ((by rw [hg]; exact Nat.ne_of_lt (blk_lt (g := gb144) (o := .cells #[.int .i64 0, .int .i64 0, .int .i64 0] 47 (0, 0)) (by (with_reducible repeat (first | refine blk_drewN ?_ _ | refine blk_drew ?_ | refine blk_alloc ?_ _)); exact BK144.out)) : gb144 ≠ gb145)); have n9_ := Aside0.mk ((by rw [hg]; exact Nat.ne_of_gt (blk_lt (g := gb144) (o := .cells #[.int .i64 0, .int .i64 0, .int .i64 0] 47 (0, 0)) (by (with_reducible repeat (first | refine blk_drewN ?_ _ | refine blk_drew ?_ | refine blk_alloc ?_ _)); exact BK144.out)) : gb145 ≠ gb144)); clear BK143; clear BK144; clear HB; have BK143 := n0_; have BK144 := n1_; have HB := n2_; have BK145 := n3_; have GW145 := n4_; have GE145 := n5_; have NB143_145 := n6_; have NB145_143 := n7_; have NB144_145 := n8_; have NB145_144 := n9_; clear n0_ n1_ n2_ n3_ n4_ n5_ n6_ n7_ n8_ n9_; clear hb hbox hg; have hnb5 := NB143_144.out; have hnc5 := NB144_143.out; have hnb6 := NB143_145.out; have hnc6 := NB145_143.out; have hcz7_0 : w4.cell? ⟨gb143, 0, none⟩ = some (.int .i64 a0_0) := (blk_cell BK143.out 0).trans rfl; have hcz7_1 : w4.cell? ⟨gb143, 1, none⟩ = some (.int .i64 a0_1) := (blk_cell BK143.out 1).trans rfl; have hcz7_2 : w4.cell? ⟨gb143, 2, none⟩ = some (.int .i64 a0_2) := (blk_cell BK143.out 2).trans rfl; have hfz7_0 := blk_frozen BK143.out 0; have hfz7_1 := blk_frozen BK143.out 1; have hfz7_2 := blk_frozen BK143.out 2; have hnb8 := NB145_144.out; have hnc8 := NB144_145.out; have hcz9_0 : w4.cell? ⟨gb145, 0, none⟩ = some (.int .i64 0) := (blk_cell BK145.out 0).trans rfl; have hcz9_1 : w4.cell? ⟨gb145, 1, none⟩ = some (.int .i64 0) := (blk_cell BK145.out 1).trans rfl; have hcz9_2 : w4.cell? ⟨gb145, 2, none⟩ = some (.int .i64 0) := (blk_cell BK145.out 2).trans rfl; have hfz9_0 := blk_frozen BK145.out 0; have hfz9_1 := blk_frozen BK145.out 1; have hfz9_2 := blk_frozen BK145.out 2; have hcz10_0 : w4.cell? ⟨gb144, 0, none⟩ = some (.int .i64 0) := (blk_cell BK144.out 0).trans rfl; have hcz10_1 : w4.cell? ⟨gb144, 1, none⟩ = some (.int .i64 0) := (blk_cell BK144.out 1).trans rfl; have hcz10_2 : w4.cell? ⟨gb144, 2, none⟩ = some (.int .i64 0) := (blk_cell BK144.out 2).trans rfl; have hfz10_0 := blk_frozen BK144.out 0; have hfz10_1 := blk_frozen BK144.out 1; have hfz10_2 := blk_frozen BK144.out 2))
  refine bodyPost_ret (results_cell_row rfl _ _ gb144 47 #[.int .i64 a0_0, .int .i64 a0_1, .int .i64 a0_2] (0, 0) _ rfl (by (with_reducible repeat (first | refine blk_drewN ?_ _ | refine blk_drew ?_ | refine blk_alloc ?_ _)); refine blk_put (cs := #[.int .i64 a0_0, .int .i64 a0_1, .int .i64 0]) ?_ 2 _ rfl; (with_reducible repeat (first | refine blk_drewN ?_ _ | refine blk_drew ?_ | refine blk_alloc ?_ _)); refine blk_put (cs := #[.int .i64 a0_0, .int .i64 0, .int .i64 0]) ?_ 1 _ rfl; (with_reducible repeat (first | refine blk_drewN ?_ _ | refine blk_drew ?_ | refine blk_alloc ?_ _)); refine blk_put (cs := #[.int .i64 0, .int .i64 0, .int .i64 0]) ?_ 0 _ rfl; (with_reducible repeat (first | refine blk_drewN ?_ _ | refine blk_drew ?_ | refine blk_alloc ?_ _)); refine blk_far ?_ NB144_145.out _; (with_reducible repeat (first | refine blk_drewN ?_ _ | refine blk_drew ?_ | refine blk_alloc ?_ _)); refine blk_far ?_ NB144_145.out _; (with_reducible repeat (first | refine blk_drewN ?_ _ | refine blk_drew ?_ | refine blk_alloc ?_ _)); refine blk_far ?_ NB144_145.out _; (with_reducible repeat (first | refine blk_drewN ?_ _ | refine blk_drew ?_ | refine blk_alloc ?_ _)); exact BK144.out) Try.underlying47 rfl (by kernel_rfl)) rfl ?_
  exact ⟨by first | rfl | (simp [errW_none, errW_some] <;> rfl) | (simp [*, errW_none, errW_some] <;> rfl), by repeat (first | (with_reducible first | exact HB.out | apply below_alloc | apply pw_below_drewN | apply below_drew1 | refine below_set ?_ GE143.out | refine below_set ?_ GE144.out | refine below_set ?_ GE145.out) | exact HB.out)⟩

/-! ### laws_toHoleS: function 9 -/
def laws_toHoleS.l0 : Nat → List (S49) → List (S47) → Int → Option ((List (S47)))
  | 0, _, _, _ => none
  | k + 1, x0, x3, x4 => if x4 < (x0.length : Int) then (if 0 ≤ x4 then ((laws_toHole.f ((rd_T49 x0 x4).f0) ((rd_T49 x0 x4).f1) ((rd_T49 x0 x4).f2)).bind fun bt150 => (if x4 < (x3.length : Int) then (laws_toHoleS.l0 k x0 (x3.set (x4 : Int).toNat (⟨bt150.1, bt150.2.1, bt150.2.2⟩ : S47)) (wrap64 (x4 + 1))) else (none))) else (none)) else (some x3)
def laws_toHoleS.f (k : Nat) (l0 : List (S49)) : Option ((List (S47))) := if 0 ≤ (l0.length : Int) then (if ((l0.length : Int) : Int).toNat ≤ 11728124029610 then (laws_toHoleS.l0 k l0 (List.replicate ((l0.length : Int) : Int).toNat z47) 0) else (none)) else (none)
theorem laws_toHoleS.mono_l : ∀ k, (∀ y0 y1 y2, LeO (laws_toHoleS.l0 k y0 y1 y2) (laws_toHoleS.l0 (k + 1) y0 y1 y2))
  | 0 => fun _ _ _ r h => by simp [laws_toHoleS.l0] at h
  | k + 1 => by
    have ih0 := laws_toHoleS.mono_l k
    · intro y0 y1 y2
      unfold laws_toHoleS.l0
      repeat' first
      | (with_reducible exact ih0 _ _ _)
      | (with_reducible exact LeO.refl _)
      | (with_reducible exact LeO.none _)
      | (with_reducible refine LeO.ite ?_ ?_)
      | (with_reducible refine LeO.bind ?_ (fun _ => ?_))
      | exact ih0 _ _ _
      | exact LeO.none _
      | refine LeO.ite ?_ ?_
      | refine LeO.bind ?_ (fun _ => ?_)
theorem laws_toHoleS.mono : ∀ a0 k, LeO (laws_toHoleS.f k a0) (laws_toHoleS.f (k + 1) a0) := by
  intro a0 k
  have ih0 := laws_toHoleS.mono_l k
  unfold laws_toHoleS.f
  repeat' first
      | (with_reducible exact ih0 _ _ _)
      | (with_reducible exact LeO.refl _)
      | (with_reducible exact LeO.none _)
      | (with_reducible refine LeO.ite ?_ ?_)
      | (with_reducible refine LeO.bind ?_ (fun _ => ?_))
      | exact ih0 _ _ _
      | exact LeO.none _
      | refine LeO.ite ?_ ?_
      | refine LeO.bind ?_ (fun _ => ?_)
set_option maxHeartbeats 8000000 in
set_option maxRecDepth 100000 in
theorem laws_toHoleS.calls (k : Nat) (A0 : Option Addr) (c0 : Nat) (l0 : List (S49)) (r : List (S47)) (w : World) (hr0 : Kd.C k49 w A0 l0.length l0) (hc0 : l0.length ≤ c0) (h : laws_toHoleS.f k l0 = some r) :
    Calls Try.prog 9 #[.slice A0 l0.length c0] w fun e w' => ∃ v0_ : Value, e = .returned (v0_) ∧ Kd.R k47 47 w' w.heap.size (fun _ => True) v0_ r ∧ Below w.heap.size w w' := by
  have hu49 := Try.underlying49
  have hu47 := Try.underlying47
  have HR0 := Aside0.mk hr0
  have HC0 := Aside0.mk hc0
  clear hr0 hc0
  have HB := Aside0.mk (Below.refl w.heap.size w)
  have H : (if 0 ≤ (l0.length : Int) then (if ((l0.length : Int) : Int).toNat ≤ 11728124029610 then (laws_toHoleS.l0 k l0 (List.replicate ((l0.length : Int) : Int).toNat z47) 0) else (none)) else (none)) = some r := h
  clear h
  by_cases c2 : 0 ≤ (l0.length : Int)
  · rw [if_pos c2] at H
    have c2b0 := eq_true c2
    have c2b1 : decide (0 ≤ (l0.length : Int)) = true := decide_eq_true c2
    clear c2
    by_cases c3 : ((l0.length : Int) : Int).toNat ≤ 11728124029610
    · rw [if_pos c3] at H
      have c3b0 := eq_true c3
      have c3b1 : decide (((l0.length : Int) : Int).toNat ≤ 11728124029610) = true := decide_eq_true c3
      clear c3
      obtain ⟨y146, hy146⟩ : ∃ y_ : List (S47), y_ = (List.replicate ((l0.length : Int) : Int).toNat z47) := ⟨_, rfl⟩
      replace H : (laws_toHoleS.l0 k l0 y146 0) = some r := by first | (rw [hy146]; with_reducible exact H) | (have H2_ := (Option.bind_some _ _).symm.trans H; rw [hy146]; with_reducible exact H2_) | (have H2_ := (Option.bind_some _ _).symm.trans H; with_reducible exact H2_) | with_reducible exact H | (rw [hy146]; exact H) | exact H
      have Ny146 := Aside0.mk hy146
      clear hy146
      have H' := Aside0.mk H
      clear H
      go_enter Try.func9, Try.ntmps9
      go_wp2_with (first | ((with_reducible refine gate_dst (N := 7) rfl ?_); refine Kd.R_make k47 _ 47 rfl (N := 7) rfl 28 _ _ rfl (l0.length : Int) rfl rfl Try.underlying28 (.agg #[(.int .i64 0), (.int .i64 0), (.int .i64 0)]) 24 info47 rfl (by decide) (by omega) z47 (ok := fun _ => True) (okp := fun _ => True) (k47_mkM _ _ _ z47 ) (fun _ hk => hk) trivial (of_decide_eq_true (by first | (with_reducible assumption) | assumption)) (Nat.le_trans (Nat.mul_le_mul_right _ (of_decide_eq_true (by first | (with_reducible assumption) | assumption) : (l0.length : Int).toNat ≤ 11728124029610)) (by omega)) (Below.refl _ _) (Nat.le_refl _) ?_; intro v147 w4 ho5 hb hg_ hnew_; clear hg_ hnew_; (first | rw [← Ny146.out] at ho5 | (simp only [Int.reduceToNat] at ho5; rw [← Ny146.out] at ho5)); have n0_ := Aside0.mk (Kd.R_lower ho5 (below_size (by repeat (first | (with_reducible first | exact HB.out | apply below_alloc | apply pw_below_drewN | apply below_drew1) | exact HB.out)))); have n1_ := Aside0.mk (below_step (by repeat (first | (with_reducible first | exact HB.out | apply below_alloc | apply pw_below_drewN | apply below_drew1) | exact HB.out)) hb); clear HB; have HO148 := n0_; have HB := n1_; clear n0_ n1_; clear hb ho5))
      go_loopg [4] k (fun kq v4 w' => ∃ (x3_1 : List (S47)) (x4_1 : Int), v4 = .int .i64 x4_1 ∧ Aside0 (laws_toHoleS.l0 kq l0 x3_1 x4_1 = some r) ∧ Aside0 (kq ≤ k) ∧ Aside0 (Kd.R k47 47 w' w.heap.size (fun _ => True) v147 x3_1) ∧ Aside0 (Below w.heap.size w w'))
      case atStart => exact ⟨(y146), (0), (by first | rfl | (simp; done) | (simp [*]; done)), H', ⟨Nat.le_refl _⟩, ⟨by (with_reducible repeat (first | apply Kd.R_alloc | apply Kd.R_drewN | apply Kd.R_drew)); exact HO148.out⟩, ⟨by repeat (first | (with_reducible first | exact HB.out | apply below_alloc | apply pw_below_drewN | apply below_drew1) | exact HB.out)⟩⟩
      case round =>
        clear H'
        try clear c2
        try clear c2b0
        try clear c2b1
        try clear p2
        try clear c3
        try clear c3b0
        try clear c3b1
        obtain ⟨x3_1, x4_1, rfl, HA, HK1, HO_3, HB⟩ := hrel
        cases gk with
        | zero => exact absurd HA.out (by simp [laws_toHoleS.l0])
        | succ k1 =>
          have H := HA.out
          clear HA
          simp only [laws_toHoleS.l0] at H
          by_cases c6 : x4_1 < (l0.length : Int)
          · rw [if_pos c6] at H
            have c6b0 : decide (x4_1 < (l0.length : Int)) = true := decide_eq_true c6
            clear c6
            by_cases c7 : 0 ≤ x4_1
            · rw [if_pos c7] at H
              have c7b0 : decide (0 ≤ x4_1) = true := decide_eq_true c7
              clear c7
              replace H := Option.bind_eq_some_iff.mp H
              obtain ⟨⟨t150, t151, t152⟩, A80, H⟩ := H
              replace H : (if x4_1 < (x3_1.length : Int) then (laws_toHoleS.l0 k1 l0 (x3_1.set (x4_1 : Int).toNat (⟨t150, t151, t152⟩ : S47)) (wrap64 (x4_1 + 1))) else (none)) = some r := H
              have A8 := Aside0.mk A80
              clear A80
              by_cases c9 : x4_1 < (x3_1.length : Int)
              · rw [if_pos c9] at H
                have c9b0 : decide (x4_1 < (x3_1.length : Int)) = true := decide_eq_true c9
                clear c9
                obtain ⟨y153, hy153⟩ : ∃ y_ : List (S47), y_ = (x3_1.set (x4_1 : Int).toNat (⟨t150, t151, t152⟩ : S47)) := ⟨_, rfl⟩
                replace H : (laws_toHoleS.l0 k1 l0 y153 (wrap64 (x4_1 + 1))) = some r := by first | (rw [hy153]; with_reducible exact H) | (have H2_ := (Option.bind_some _ _).symm.trans H; rw [hy153]; with_reducible exact H2_) | (have H2_ := (Option.bind_some _ _).symm.trans H; with_reducible exact H2_) | with_reducible exact H | (rw [hy153]; exact H) | exact H
                have Ny153 := Aside0.mk hy153
                clear hy153
                have H' := Aside0.mk H
                clear H
                have p149 : 0 ≤ (x4_1 : Int) := of_decide_eq_true (by first | (with_reducible assumption) | assumption)
                have q149 : x4_1 < (l0.length : Int) := of_decide_eq_true (by first | (with_reducible assumption) | assumption)
                obtain ⟨ad149, e149, hx149_0, hx149_1, hx149_2⟩ := at_T49 HR0.out x4_1 p149 q149
                cases e149
                replace hx149_0 := (HB.out.cell (World.block_lt_of_cell? w _ hx149_0)).trans hx149_0
                replace hx149_1 := (HB.out.cell (World.block_lt_of_cell? w _ hx149_1)).trans hx149_1
                replace hx149_2 := (HB.out.cell (World.block_lt_of_cell? w _ hx149_2)).trans hx149_2
                replace p149 := eq_true p149
                replace q149 := eq_true q149
                go_wp2_with (first | ((with_reducible refine gate_callee (f := 27) rfl ?_); refine goesL_ (some 20) rfl rfl Try.func27 (by kernel_rfl) rfl #[.agg #[.int .i64 ((rd_T49 l0 x4_1).f0), .int .i64 ((rd_T49 l0 x4_1).f1), .int .i64 ((rd_T49 l0 x4_1).f2)]] rfl (by (try simp only [List.map_toArray, List.map_cons, List.map_nil]); first | done | rfl | (simp only [List.length_drop, List.length_take]; rfl)) ?_; (with_reducible refine (laws_toHole.calls ((rd_T49 l0 x4_1).f0) ((rd_T49 l0 x4_1).f1) ((rd_T49 l0 x4_1).f2) t150 t151 t152 _ A8.out).mono ?_); rintro e w11 ⟨rfl, hb⟩; refine ⟨_, rfl, ?_⟩; have n0_ := Aside0.mk (Kd.R_below (by (with_reducible repeat (first | apply Kd.R_alloc | apply Kd.R_drewN | apply Kd.R_drew)); exact HO_3.out) hb); have n1_ := Aside0.mk (below_step (by repeat (first | (with_reducible first | exact HB.out | apply below_alloc | apply pw_below_drewN | apply below_drew1) | exact HB.out)) hb); clear HO_3; clear HB; have HO_3 := n0_; have HB := n1_; clear n0_ n1_; (try clear hb); (try clear hb2); (try clear hk); (try clear hi); have p10 : 0 ≤ (x4_1 : Int) := of_decide_eq_true (by first | (with_reducible assumption) | assumption); have q10 : (x4_1 : Int) < ((x3_1.length : Int) : Int) := of_decide_eq_true (by first | (with_reducible assumption) | assumption); obtain ⟨go10, co10, eo10, gb10, gl10, cl10, HG10⟩ := Kd.R_form HO_3.out (by omega); (first | cases eo10 | (injection eo10 with ea_ en_ ec_; (first | subst ea_ | (injection ea_ with ea_; subst ea_)); subst ec_; clear en_)); have GB10 := Aside0.mk gb10; have GG10 := Aside0.mk HG10; clear gb10 gl10 HG10; obtain ⟨ce10, hcl10, hM10, hcc10, hfr10⟩ := Kd.R_elem HO_3.out z47 (x4_1 : Int) p10 q10; obtain rfl := k47_openM hM10; have hx10_0 : w11.cell? ⟨go10, (x4_1 : Int).toNat * 3, none⟩ = some (.int .i64 ((rd_T47 x3_1 x4_1).f0)) := hcc10 0 _ rfl; have hx10_1 : w11.cell? ⟨go10, (x4_1 : Int).toNat * 3 + 1, none⟩ = some (.int .i64 ((rd_T47 x3_1 x4_1).f1)) := hcc10 1 _ rfl; have hx10_2 : w11.cell? ⟨go10, (x4_1 : Int).toNat * 3 + 2, none⟩ = some (.int .i64 ((rd_T47 x3_1 x4_1).f2)) := hcc10 2 _ rfl; have hf10_0 : w11.frozen? ⟨go10, (x4_1 : Int).toNat * 3, none⟩ = false := hfr10 0; have hf10_1 : w11.frozen? ⟨go10, (x4_1 : Int).toNat * 3 + 1, none⟩ = false := hfr10 1; have hf10_2 : w11.frozen? ⟨go10, (x4_1 : Int).toNat * 3 + 2, none⟩ = false := hfr10 2; (try clear hcl10); (try clear hcc10); (try clear hfr10); (try clear hM10); replace p10 := eq_true p10; replace q10 := eq_true q10; have HX12 := Aside0.mk (show Kd.R k47 47 w11 w.heap.size (fun _ => True) (.slice (some ⟨go10, 0, none⟩) x3_1.length co10) x3_1 from (by (with_reducible repeat (first | apply Kd.R_alloc | apply Kd.R_drewN | apply Kd.R_drew)); exact HO_3.out)); obtain ⟨ce12, hcl12, hM12, hcc12, hfr12⟩ := Kd.R_elem HX12.out z47 (x4_1 : Int) (of_decide_eq_true (by first | (with_reducible assumption) | assumption)) (by have h_ : (x4_1 : Int) < ((x3_1.length : Int) : Int) := of_decide_eq_true (by first | (with_reducible assumption) | assumption); first | exact h_ | (have e_ := (Kd.R_reads' HO_3.out).1; omega) | simpa using h_); obtain rfl := k47_openM hM12; have HP12 := Kd.R_seg HX12.out (x4_1 : Int) (of_decide_eq_true (by first | (with_reducible assumption) | assumption)) (by have h_ : (x4_1 : Int) < ((x3_1.length : Int) : Int) := of_decide_eq_true (by first | (with_reducible assumption) | assumption); first | exact h_ | (have e_ := (Kd.R_reads' HO_3.out).1; omega) | simpa using h_) (seg := [.int .i64 t150, .int .i64 t151, .int .i64 t152]) (j := 0) hcl12 hcc12 (show 3 ≤ 3 from by decide) (x' := (⟨t150, t151, t152⟩ : S47)) (k47_mkM _ _ _ (⟨t150, t151, t152⟩ : S47) ) (fun _ hk => hk); have hx12_0 := hcc12 0 _ rfl; (try simp only [show (k47).sz = 3 from rfl, Nat.mul_one, Nat.add_zero] at hx12_0); have hf12_0 := hfr12 0; (try simp only [show (k47).sz = 3 from rfl, Nat.mul_one, Nat.add_zero] at hf12_0); have hx12_1 := hcc12 1 _ rfl; (try simp only [show (k47).sz = 3 from rfl, Nat.mul_one, Nat.add_zero] at hx12_1); have hf12_1 := hfr12 1; (try simp only [show (k47).sz = 3 from rfl, Nat.mul_one, Nat.add_zero] at hf12_1); have hx12_2 := hcc12 2 _ rfl; (try simp only [show (k47).sz = 3 from rfl, Nat.mul_one, Nat.add_zero] at hx12_2); have hf12_2 := hfr12 2; (try simp only [show (k47).sz = 3 from rfl, Nat.mul_one, Nat.add_zero] at hf12_2); (try clear hcl12); (try clear hcc12); (try clear hfr12); (try clear hM12)) | ((with_reducible refine gate_store (t := 47) (p := 21) rfl ?_); refine store_event (t := 47) (p := 21) (v := ?vo_w13) (w1 := (((w11.setCell ⟨go10, (x4_1 : Int).toNat * 3, none⟩ (.int .i64 t150)).setCell ⟨go10, (x4_1 : Int).toNat * 3 + 1, none⟩ (.int .i64 t151)).setCell ⟨go10, (x4_1 : Int).toNat * 3 + 2, none⟩ (.int .i64 t152))) ?hg ?ho ?hn ?hr ?_; (case ho => rfl); (case hg => rfl); (case hn => rfl); (case hr => first | (go_simp; done) | (go_simp; rfl)); intro w13 hw; have hg : w11.grownBy w13 (some go10) := (by rw [hw]; exact HP12.2); have hp_ : Kd.R k47 47 w13 w.heap.size (fun _ => True) (.slice (some ⟨go10, 0, none⟩) x3_1.length co10) y153 := (by rw [hw, Ny153.out]; exact HP12.1); clear HP12; have n0_ := Aside0.mk (hp_); have n1_ := Aside0.mk ((by rw [hw]; exact below_set (below_set (below_set (HB.out) GB10.out) GB10.out) GB10.out : Below w.heap.size w w13)); clear HO_3; clear HB; have HO_3 := n0_; have HB := n1_; clear n0_ n1_; clear hg hw hp_))
                go_roundg k1
                case measure => have := HK1.out; omega
                case rel => exact ⟨(y153), (wrap64 (x4_1 + 1)), (by first | rfl | (simp; done) | (simp [*]; done)), H', ⟨by have := HK1.out; omega⟩, ⟨by (with_reducible repeat (first | apply Kd.R_alloc | apply Kd.R_drewN | apply Kd.R_drew)); exact HO_3.out⟩, ⟨by repeat (first | (with_reducible first | exact HB.out | apply below_alloc | apply pw_below_drewN | apply below_drew1) | exact HB.out)⟩⟩
              · rw [if_neg c9] at H
                exact absurd H (by simp)
            · rw [if_neg c7] at H
              exact absurd H (by simp)
          · rw [if_neg c6] at H
            have c6b0 : decide (x4_1 < (l0.length : Int)) = false := decide_eq_false c6
            clear c6
            obtain rfl := Option.some.inj H
            go_wp2
            go_ret
            exact ⟨_, by first | rfl | (simp [errW_none, errW_some] <;> rfl) | (simp [*, errW_none, errW_some] <;> rfl), by (with_reducible repeat (first | apply Kd.R_alloc | apply Kd.R_drewN | apply Kd.R_drew)); exact HO_3.out, by repeat (first | (with_reducible first | exact HB.out | apply below_alloc | apply pw_below_drewN | apply below_drew1) | exact HB.out)⟩
    · rw [if_neg c3] at H
      exact absurd H (by simp)
  · rw [if_neg c2] at H
    exact absurd H (by simp)

/-! ### laws_toIntS: function 28 -/
def laws_toIntS.l0 : Nat → List Int → List Int → Int → Option (List Int)
  | 0, _, _, _ => none
  | k + 1, x0, x3, x4 => if x4 < (x0.length : Int) then (if 0 ≤ x4 then (if x4 < (x3.length : Int) then (laws_toIntS.l0 k x0 (x3.set (x4 : Int).toNat (rd x0 x4)) (wrap64 (x4 + 1))) else (none)) else (none)) else (some x3)
def laws_toIntS.f (k : Nat) (l0 : List Int) : Option (List Int) := if 0 ≤ (l0.length : Int) then (if ((l0.length : Int) : Int).toNat ≤ 35184372088832 then (laws_toIntS.l0 k l0 (List.replicate ((l0.length : Int) : Int).toNat 0) 0) else (none)) else (none)
theorem laws_toIntS.mono_l : ∀ k, (∀ y0 y1 y2, LeO (laws_toIntS.l0 k y0 y1 y2) (laws_toIntS.l0 (k + 1) y0 y1 y2))
  | 0 => fun _ _ _ r h => by simp [laws_toIntS.l0] at h
  | k + 1 => by
    have ih0 := laws_toIntS.mono_l k
    · intro y0 y1 y2
      unfold laws_toIntS.l0
      repeat' first
      | (with_reducible exact ih0 _ _ _)
      | (with_reducible exact LeO.refl _)
      | (with_reducible exact LeO.none _)
      | (with_reducible refine LeO.ite ?_ ?_)
      | (with_reducible refine LeO.bind ?_ (fun _ => ?_))
      | exact ih0 _ _ _
      | exact LeO.none _
      | refine LeO.ite ?_ ?_
      | refine LeO.bind ?_ (fun _ => ?_)
theorem laws_toIntS.mono : ∀ a0 k, LeO (laws_toIntS.f k a0) (laws_toIntS.f (k + 1) a0) := by
  intro a0 k
  have ih0 := laws_toIntS.mono_l k
  unfold laws_toIntS.f
  repeat' first
      | (with_reducible exact ih0 _ _ _)
      | (with_reducible exact LeO.refl _)
      | (with_reducible exact LeO.none _)
      | (with_reducible refine LeO.ite ?_ ?_)
      | (with_reducible refine LeO.bind ?_ (fun _ => ?_))
      | exact ih0 _ _ _
      | exact LeO.none _
      | refine LeO.ite ?_ ?_
      | refine LeO.bind ?_ (fun _ => ?_)
set_option maxHeartbeats 8000000 in
set_option maxRecDepth 100000 in
theorem laws_toIntS.calls (k : Nat) (A0 : Option Addr) (c0 : Nat) (l0 : List Int) (r : List Int) (w : World) (hr0 : Kd.C (Kd.int .i64) w A0 l0.length l0) (hc0 : l0.length ≤ c0) (h : laws_toIntS.f k l0 = some r) :
    Calls Try.prog 28 #[.slice A0 l0.length c0] w fun e w' => ∃ v0_ : Value, e = .returned (v0_) ∧ Kd.R (Kd.int .i64) 3 w' w.heap.size (fun _ => True) v0_ r ∧ Below w.heap.size w w' := by
  have HR0 := Aside0.mk hr0
  have HC0 := Aside0.mk hc0
  clear hr0 hc0
  have HB := Aside0.mk (Below.refl w.heap.size w)
  have H : (if 0 ≤ (l0.length : Int) then (if ((l0.length : Int) : Int).toNat ≤ 35184372088832 then (laws_toIntS.l0 k l0 (List.replicate ((l0.length : Int) : Int).toNat 0) 0) else (none)) else (none)) = some r := h
  clear h
  by_cases c2 : 0 ≤ (l0.length : Int)
  · rw [if_pos c2] at H
    have c2b0 := eq_true c2
    have c2b1 : decide (0 ≤ (l0.length : Int)) = true := decide_eq_true c2
    clear c2
    by_cases c3 : ((l0.length : Int) : Int).toNat ≤ 35184372088832
    · rw [if_pos c3] at H
      have c3b0 := eq_true c3
      have c3b1 : decide (((l0.length : Int) : Int).toNat ≤ 35184372088832) = true := decide_eq_true c3
      clear c3
      obtain ⟨y154, hy154⟩ : ∃ y_ : List Int, y_ = (List.replicate ((l0.length : Int) : Int).toNat 0) := ⟨_, rfl⟩
      replace H : (laws_toIntS.l0 k l0 y154 0) = some r := by first | (rw [hy154]; with_reducible exact H) | (have H2_ := (Option.bind_some _ _).symm.trans H; rw [hy154]; with_reducible exact H2_) | (have H2_ := (Option.bind_some _ _).symm.trans H; with_reducible exact H2_) | with_reducible exact H | (rw [hy154]; exact H) | exact H
      have Ny154 := Aside0.mk hy154
      clear hy154
      have H' := Aside0.mk H
      clear H
      go_enter Try.func28, Try.ntmps28
      go_wp2_with (first | ((with_reducible refine gate_dst (N := 7) rfl ?_); refine Kd.R_make (Kd.int .i64) _ 3 rfl (N := 7) rfl 39 _ _ rfl (l0.length : Int) rfl rfl Try.underlying39 (.int .i64 0) 8 info3 rfl (by decide) (by omega) 0 (ok := fun _ => True) (okp := fun _ => True) rfl (fun _ hk => hk) trivial (of_decide_eq_true (by first | (with_reducible assumption) | assumption)) (Nat.le_trans (Nat.mul_le_mul_right _ (of_decide_eq_true (by first | (with_reducible assumption) | assumption) : (l0.length : Int).toNat ≤ 35184372088832)) (by omega)) (Below.refl _ _) (Nat.le_refl _) ?_; intro v155 w4 ho5 hb hg_ hnew_; clear hg_ hnew_; (first | rw [← Ny154.out] at ho5 | (simp only [Int.reduceToNat] at ho5; rw [← Ny154.out] at ho5)); have n0_ := Aside0.mk (Kd.R_lower ho5 (below_size (by repeat (first | (with_reducible first | exact HB.out | apply below_alloc | apply pw_below_drewN | apply below_drew1) | exact HB.out)))); have n1_ := Aside0.mk (below_step (by repeat (first | (with_reducible first | exact HB.out | apply below_alloc | apply pw_below_drewN | apply below_drew1) | exact HB.out)) hb); clear HB; have HO156 := n0_; have HB := n1_; clear n0_ n1_; clear hb ho5))
      go_loopg [4] k (fun kq v4 w' => ∃ (x3_1 : List Int) (x4_1 : Int), v4 = .int .i64 x4_1 ∧ Aside0 (laws_toIntS.l0 kq l0 x3_1 x4_1 = some r) ∧ Aside0 (kq ≤ k) ∧ Aside0 (Kd.R (Kd.int .i64) 3 w' w.heap.size (fun _ => True) v155 x3_1) ∧ Aside0 (Below w.heap.size w w'))
      case atStart => exact ⟨(y154), (0), (by first | rfl | (simp; done) | (simp [*]; done)), H', ⟨Nat.le_refl _⟩, ⟨by (with_reducible repeat (first | apply Kd.R_alloc | apply Kd.R_drewN | apply Kd.R_drew)); exact HO156.out⟩, ⟨by repeat (first | (with_reducible first | exact HB.out | apply below_alloc | apply pw_below_drewN | apply below_drew1) | exact HB.out)⟩⟩
      case round =>
        clear H'
        try clear c2
        try clear c2b0
        try clear c2b1
        try clear p2
        try clear c3
        try clear c3b0
        try clear c3b1
        obtain ⟨x3_1, x4_1, rfl, HA, HK1, HO_3, HB⟩ := hrel
        cases gk with
        | zero => exact absurd HA.out (by simp [laws_toIntS.l0])
        | succ k1 =>
          have H := HA.out
          clear HA
          simp only [laws_toIntS.l0] at H
          by_cases c6 : x4_1 < (l0.length : Int)
          · rw [if_pos c6] at H
            have c6b0 : decide (x4_1 < (l0.length : Int)) = true := decide_eq_true c6
            clear c6
            by_cases c7 : 0 ≤ x4_1
            · rw [if_pos c7] at H
              have c7b0 : decide (0 ≤ x4_1) = true := decide_eq_true c7
              clear c7
              by_cases c8 : x4_1 < (x3_1.length : Int)
              · rw [if_pos c8] at H
                have c8b0 : decide (x4_1 < (x3_1.length : Int)) = true := decide_eq_true c8
                clear c8
                obtain ⟨y158, hy158⟩ : ∃ y_ : List Int, y_ = (x3_1.set (x4_1 : Int).toNat (rd l0 x4_1)) := ⟨_, rfl⟩
                replace H : (laws_toIntS.l0 k1 l0 y158 (wrap64 (x4_1 + 1))) = some r := by first | (rw [hy158]; with_reducible exact H) | (have H2_ := (Option.bind_some _ _).symm.trans H; rw [hy158]; with_reducible exact H2_) | (have H2_ := (Option.bind_some _ _).symm.trans H; with_reducible exact H2_) | with_reducible exact H | (rw [hy158]; exact H) | exact H
                have Ny158 := Aside0.mk hy158
                clear hy158
                have H' := Aside0.mk H
                clear H
                have p157 : 0 ≤ (x4_1 : Int) := of_decide_eq_true (by first | (with_reducible assumption) | assumption)
                have q157 : x4_1 < (l0.length : Int) := of_decide_eq_true (by first | (with_reducible assumption) | assumption)
                obtain ⟨ad157, e157, hx157_0⟩ := Kd.at_int HR0.out x4_1 p157 q157
                cases e157
                replace hx157_0 := (HB.out.cell (World.block_lt_of_cell? w _ hx157_0)).trans hx157_0
                replace p157 := eq_true p157
                replace q157 := eq_true q157
                have p9 : 0 ≤ (x4_1 : Int) := of_decide_eq_true (by first | (with_reducible assumption) | assumption)
                have q9 : (x4_1 : Int) < ((x3_1.length : Int) : Int) := of_decide_eq_true (by first | (with_reducible assumption) | assumption)
                obtain ⟨go9, co9, eo9, gb9, gl9, cl9, HG9⟩ := Kd.R_form HO_3.out (by omega)
                (first | cases eo9 | (injection eo9 with ea_ en_ ec_; (first | subst ea_ | (injection ea_ with ea_; subst ea_)); subst ec_; clear en_))
                have GB9 := Aside0.mk gb9
                have GG9 := Aside0.mk HG9
                clear gb9 gl9 HG9
                obtain ⟨hx9_0, hf9_0⟩ := Kd.R_celln 0 HO_3.out (x4_1 : Int) p9 q9
                replace p9 := eq_true p9
                replace q9 := eq_true q9
                have HP10 := Kd.R_putg HO_3.out (x4_1 : Int) (rd l0 x4_1)
                go_wp2_with (first | ((with_reducible refine gate_store (t := 3) (p := 20) rfl ?_); refine store_event (t := 3) (p := 20) (v := ?vo_w11) (w1 := (wr.setCell ⟨go9, (x4_1 : Int).toNat, none⟩ (.int .i64 (rd l0 x4_1)))) ?hg ?ho ?hn ?hr ?_; (case ho => rfl); (case hg => rfl); (case hn => rfl); (case hr => first | (go_simp; done) | (go_simp; rfl)); intro w11 hw; have hg : wr.grownBy w11 (some go9) := (by rw [hw]; exact HP10.2); have hp_ : Kd.R (Kd.int .i64) 3 w11 w.heap.size (fun _ => True) (.slice (some ⟨go9, 0, none⟩) x3_1.length co9) y158 := (by rw [hw, Ny158.out]; exact HP10.1); clear HP10; have n0_ := Aside0.mk (hp_); have n1_ := Aside0.mk ((by rw [hw]; exact below_set (HB.out) GB9.out : Below w.heap.size w w11)); clear HO_3; clear HB; have HO_3 := n0_; have HB := n1_; clear n0_ n1_; clear hg hw hp_))
                go_roundg k1
                case measure => have := HK1.out; omega
                case rel => exact ⟨(y158), (wrap64 (x4_1 + 1)), (by first | rfl | (simp; done) | (simp [*]; done)), H', ⟨by have := HK1.out; omega⟩, ⟨by (with_reducible repeat (first | apply Kd.R_alloc | apply Kd.R_drewN | apply Kd.R_drew)); exact HO_3.out⟩, ⟨by repeat (first | (with_reducible first | exact HB.out | apply below_alloc | apply pw_below_drewN | apply below_drew1) | exact HB.out)⟩⟩
              · rw [if_neg c8] at H
                exact absurd H (by simp)
            · rw [if_neg c7] at H
              exact absurd H (by simp)
          · rw [if_neg c6] at H
            have c6b0 : decide (x4_1 < (l0.length : Int)) = false := decide_eq_false c6
            clear c6
            obtain rfl := Option.some.inj H
            go_wp2
            go_ret
            exact ⟨_, by first | rfl | (simp [errW_none, errW_some] <;> rfl) | (simp [*, errW_none, errW_some] <;> rfl), by (with_reducible repeat (first | apply Kd.R_alloc | apply Kd.R_drewN | apply Kd.R_drew)); exact HO_3.out, by repeat (first | (with_reducible first | exact HB.out | apply below_alloc | apply pw_below_drewN | apply below_drew1) | exact HB.out)⟩
    · rw [if_neg c3] at H
      exact absurd H (by simp)
  · rw [if_neg c2] at H
    exact absurd H (by simp)

end Go.Proofs.Ytghdiijfpepmhaa.PFnExactIsRepair
