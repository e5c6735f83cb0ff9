/- The plain statement of FnExactShiftToPass: the law's function, over numbers and lists, answers true. No conditions beyond the arguments' own kinds. -/
import Derived.Test.YtipklbjbgbbgpaaGreatSShiftToPass21
import Derived.Test.YtipklbjbgbbgpaaGreatPureFnExactShiftToPasse
namespace Go.Proofs.YtipklbjbgbbgpaaGreat.PureFnExactShiftToPass
open Go Go.RowKit Go.Proofs.YtipklbjbgbbgpaaGreat.PFnExactShiftToPass Go.Proofs.YtipklbjbgbbgpaaGreatW.PrintWords Go.Proofs.YtipklbjbgbbgpaaGreatW.PrintLast Go.Proofs.YtipklbjbgbbgpaaGreatW.PrintMore Go.Proofs.YtipklbjbgbbgpaaGreat.Lib
set_option linter.unusedVariables false
set_option linter.unusedSimpArgs false
def mvH (d : Int) (x : S59) : S59 := ⟨x.f0, wrap64 (x.f1 + d), wrap64 (x.f2 + d)⟩
theorem sh_pair {l : List S59} (h : isSh l) : ∀ (d i j : Nat) (hj : j < l.length) (e : j = i + d + 1), befH (l[i]'(by omega)) l[j] := by
  intro d
  induction d with
  | zero =>
    intro i j hj e
    have h1 := (h.2 j hj).2.1 (by omega)
    have e1 : rd_T59 l (j : Int) = l[j] := by unfold rd_T59; rw [rd_get hj]
    have e2 : rd_T59 l ((j : Int) - 1) = l[i]'(by omega) := by
      rw [show ((j : Int) - 1) = ((i : Nat) : Int) by omega]
      unfold rd_T59
      rw [rd_get (show i < l.length by omega)]
    rw [e1, e2] at h1
    exact h1
  | succ d ih =>
    intro i j hj e
    have h1 := ih i (j - 1) (by omega) (by omega)
    have h2 := (h.2 j hj).2.1 (by omega)
    have e1 : rd_T59 l (j : Int) = l[j] := by unfold rd_T59; rw [rd_get hj]
    have e2 : rd_T59 l ((j : Int) - 1) = l[j - 1]'(by omega) := by
      rw [show ((j : Int) - 1) = ((j - 1 : Nat) : Int) by omega]
      unfold rd_T59
      rw [rd_get (show j - 1 < l.length by omega)]
    rw [e1, e2] at h2
    unfold befH at *
    omega
theorem mv_pair {l : List S59} (h : isSh l) {d : Int} (d1 : -2000 ≤ d) (d2 : d ≤ 2000) : (l.map (mvH d)).Pairwise befH := by
  refine List.pairwise_map.2 (List.pairwise_iff_getElem.2 (fun i j hi hj hij => ?_))
  have h1 := sh_pair h (j - i - 1) i j hj (by omega)
  have k1 := isSh_get h hi
  have k2 := isSh_get h hj
  unfold okH at k1 k2
  unfold befH at h1 ⊢
  show wrap64 (l[i].f1 + d) < wrap64 (l[j].f1 + d) ∨ wrap64 (l[i].f1 + d) = wrap64 (l[j].f1 + d) ∧ l[i].f0 < l[j].f0
  have e1 : wrap64 (l[i].f1 + d) = l[i].f1 + d := by unfold wrap64; omega
  have e2 : wrap64 (l[j].f1 + d) = l[j].f1 + d := by unfold wrap64; omega
  rw [e1, e2]
  omega
theorem mv_keys {l : List S59} (h : l.Pairwise befH) : (l.map shs.keyH).Nodup := by
  refine List.pairwise_map.2 (h.imp (fun {a b} hab e => ?_))
  have e' : (a.f1, a.f0) = (b.f1, b.f0) := e
  have q1 : a.f1 = b.f1 := congrArg Prod.fst e'
  have q2 : a.f0 = b.f0 := congrArg Prod.snd e'
  unfold befH at hab
  omega
theorem mv_sort {l : List S59} (h : l.Pairwise befH) : shs.sortH l = l := by
  refine (shs.sortH_eq (List.Perm.refl l) (mv_keys h) (h.imp (fun {a b} hab => ?_))).symm
  unfold befH at hab
  exact decide_eq_false (by omega)
/-- The moved sheet, if it is one. -/
def mvR (d : Int) (l : List S59) : List S59 × Bool := if isSh (l.map (mvH d)) then (l.map (mvH d), true) else ([], false)
theorem spec_mv {l : List S59} (h : isSh l) {d : Int} (d1 : -2000 ≤ d) (d2 : d ≤ 2000) : Ev (fun k => spec_MoveSheet.f k l d) (mvR d l) := by
  have h60 := h.1
  have key := count_up l.length (fun i (o : List S59) => o = (l.take i).map (mvH d)) (fun i o => Ev (fun k => spec_MoveSheet.l0 k d o l (l.length : Int) (i : Int)) (mvR d l)) (fun o ho => ?_) (fun i o hi ho ih => ?_) 0 [] (Nat.zero_le _) rfl
  · unfold spec_MoveSheet.f
    refine Ev.bind (spec_isSh l (by omega)) (ev_pos (decide_eq_true h) (ev_call (l1In_eq d (-2000) 2000) ?_))
    rw [decide_eq_true (⟨d1, d2⟩ : -2000 ≤ d ∧ d ≤ 2000)]
    refine Ev.step (fun k => ?_) key
    simp only [spec_MoveSheet.j0]
    rw [if_neg (by simp)]
    rfl
  · rw [List.take_length] at ho
    rw [ho]
    have hm : (l.map (mvH d)).length ≤ 1048576 := by rw [List.length_map]; omega
    refine Ev.step (f := fun k => (spec_shGood.f k (l.map (mvH d))).bind fun t => if t = true then some (l.map (mvH d), true) else some ([], false)) (fun k => ?_) (Ev.bind (spec_isSh _ hm) ?_)
    · simp only [spec_MoveSheet.l0]
      rw [if_neg (by omega)]
    · unfold mvR
      by_cases q : isSh (l.map (mvH d))
      · rw [if_pos q]
        exact ev_pos (decide_eq_true q) (Ev.now _)
      · rw [if_neg q]
        exact ev_neg (by simpa using q) (Ev.now _)
  · have e1 := wn hi (by omega)
    have er : rd_T59 l (i : Int) = l[i] := by unfold rd_T59; rw [rd_get hi]
    have hol : o.length = i := by rw [ho, List.length_map, List.length_take]; omega
    refine Ev.step (fun k => ?_) (ih (o ++ [mvH d l[i]]) (by rw [ho, List.take_add_one, List.getElem?_eq_getElem hi, List.map_append]; rfl))
    simp only [spec_MoveSheet.l0, e1, er]
    rw [if_pos (by omega), if_pos (by omega), if_pos (by omega), if_pos (by omega)]
    rfl
theorem impl_mv {l : List S59} (h : isSh l) {d : Int} (d1 : -2000 ≤ d) (d2 : d ≤ 2000) : Ev (fun k => impl_moveSheet.f k l d) (mvR d l) := by
  have h60 := h.1
  have key := count_up l.length (fun i (o : List S59) => o = (l.take i).map (mvH d) ++ l.drop i) (fun i o => Ev (fun k => impl_moveSheet.l0 k d o (l.length : Int) (i : Int)) (mvR d l)) (fun o ho => ?_) (fun i o hi ho ih => ?_) 0 l (Nat.zero_le _) rfl
  · unfold impl_moveSheet.f
    refine ev_call (?_ : impl_Hole.f l = some l) key
    unfold impl_Hole.f
    exact if_pos (by omega)
  · rw [List.take_length, List.drop_length, List.append_nil] at ho
    rw [ho]
    have hp := mv_pair h d1 d2
    have hm : (l.map (mvH d)).length = l.length := List.length_map _
    have hs : Ev (fun k => impl_sheetOf.f k (l.map (mvH d))) (mvR d l) := by
      unfold impl_sheetOf.f
      rw [mv_sort hp]
      refine ev_neg (by omega) (ev_pos (mv_keys hp) (Ev.bind (impl_isSh _ (by omega)) (ev_now ?_)))
      unfold mvR
      by_cases q : isSh (l.map (mvH d))
      · rw [if_pos q, if_pos (decide_eq_true q)]
      · rw [if_neg q, if_neg (by simpa using q)]
    refine Ev.step (f := fun k => (impl_sheetOf.f k (l.map (mvH d))).bind fun bt => some (bt.1, bt.2)) (fun k => ?_) (Ev.bind hs (Ev.now _))
    simp only [impl_moveSheet.l0]
    rw [if_neg (by omega)]
  · have e1 := wn hi (by omega)
    have hA : ((l.take i).map (mvH d)).length = i := by rw [List.length_map, List.length_take]; omega
    have hd : l.drop i = l[i] :: l.drop (i + 1) := List.drop_eq_getElem_cons hi
    have ho' : o = (l.take i).map (mvH d) ++ l[i] :: l.drop (i + 1) := by rw [ho, hd]
    have hol : o.length = l.length := by rw [ho, List.length_append, hA, List.length_drop]; omega
    have rdm : ∀ (a : S59), rd_T59 ((l.take i).map (mvH d) ++ a :: l.drop (i + 1)) (i : Int) = a := fun a => by
      unfold rd_T59
      rw [Int.toNat_natCast, List.getD_eq_getElem?_getD, List.getElem?_append_right (by omega), hA, Nat.sub_self]
      rfl
    have stm : ∀ (a b : S59), ((l.take i).map (mvH d) ++ a :: l.drop (i + 1)).set i b = (l.take i).map (mvH d) ++ b :: l.drop (i + 1) := fun a b => by
      rw [List.set_append_right _ _ (by omega), hA, Nat.sub_self]
      rfl
    refine Ev.step (fun k => ?_) (ih ((l.take i).map (mvH d) ++ mvH d l[i] :: l.drop (i + 1)) (by rw [List.take_add_one, List.getElem?_eq_getElem hi, List.map_append, List.append_assoc]; rfl))
    simp only [impl_moveSheet.l0, e1, Option.bind_some, Int.toNat_natCast]
    rw [if_pos (by omega), if_pos (by omega), if_pos (by omega), ho', rdm, stm, rdm, stm]
    rfl
def seg (a n : Nat) : List Int := (List.range' a n).flatMap fun (j : Nat) => [-(j : Int), (j : Int)]
theorem seg_head (a n : Nat) : seg a (n + 1) = [-(a : Int), (a : Int)] ++ seg (a + 1) n := by unfold seg; rw [List.range'_succ, List.flatMap_cons]
theorem seg_last (a n : Nat) : seg a (n + 1) = seg a n ++ [-((a + n : Nat) : Int), ((a + n : Nat) : Int)] := by
  unfold seg
  rw [List.range'_1_concat, List.flatMap_append, List.flatMap_singleton]
theorem seg_len (a : Nat) : ∀ n, (seg a n).length = 2 * n
  | 0 => rfl
  | n + 1 => by rw [seg_last, List.length_append, seg_len a n]; show 2 * n + 2 = _; omega
theorem seg_mem {a n : Nat} {x : Int} (h : x ∈ seg a n) : -((a + n : Nat) : Int) ≤ x ∧ x ≤ ((a + n : Nat) : Int) := by
  unfold seg at h
  obtain ⟨j, hj, hx⟩ := List.mem_flatMap.1 h
  have := List.mem_range'_1.1 hj
  simp only [List.mem_cons, List.not_mem_nil, or_false] at hx
  rcases hx with rfl | rfl <;> omega
theorem tr_order : Ev (fun k => spec_trOrder.f k 100) (0 :: seg 1 100) := by
  unfold spec_trOrder.f
  refine count_up 100 (fun i (o : List Int) => o = 0 :: seg 1 i) (fun i o => Ev (fun k => spec_trOrder.l0 k 100 o ((i : Int) + 1)) (0 :: seg 1 100)) (fun o ho => ?_) (fun i o hi ho ih => ?_) 0 [0] (Nat.zero_le _) rfl
  · rw [ho]
    refine Ev.step (f := fun _ => some (0 :: seg 1 100)) (fun k => ?_) (Ev.now _)
    simp only [spec_trOrder.l0]
    rw [if_neg (by omega)]
  · have e1 : wrap64 (((i : Int) + 1) + 1) = ((i + 1 : Nat) : Int) + 1 := by unfold wrap64; omega
    have e2 : wrap64 (-((i : Int) + 1)) = -((1 + i : Nat) : Int) := by unfold wrap64; omega
    have e3 : ((i : Int) + 1) = ((1 + i : Nat) : Int) := by omega
    have hol : o.length = 2 * i + 1 := by rw [ho, List.length_cons, seg_len]
    refine Ev.step (fun k => ?_) (ih (o ++ [-((1 + i : Nat) : Int), ((1 + i : Nat) : Int)]) (by rw [ho, seg_last]; rfl))
    simp only [spec_trOrder.l0, Option.bind_some, e1]
    rw [if_pos (by omega), if_pos (by show o.length + 2 < _; omega), e2, e3]
/-- What both tell of tries in order. -/
def res (P : Int → Bool) (L : List Int) : Int × Bool := match L.find? P with
  | some d => (d, true)
  | none => (0, false)
theorem res_cons (P : Int → Bool) (d : Int) (L : List Int) : res P (d :: L) = if P d = true then (d, true) else res P L := by
  unfold res
  rw [List.find?_cons]
  by_cases h : P d = true
  · rw [h, if_pos rfl]
  · rw [if_neg h, Bool.eq_false_iff.2 h]

section
variable (pi : List Int) (rp : Int) (l : List S55) (s : List S59) (d b c most : Int)
def specTry (x : Int) (G : Nat → Option (Int × Bool)) : Nat → Option (Int × Bool) := fun k => (spec_MoveSheet.f k s x).bind fun m => if m.2 = true then ((spec_vfFaults.f k pi rp l m.1 d b c most).bind fun t => if (t.length : Int) = 0 then some (x, true) else G k) else G k
def implTry (x : Int) (G : Nat → Option (Int × Bool)) : Nat → Option (Int × Bool) := fun k => (impl_moveSheet.f k s x).bind fun m => if m.2 = true then ((impl_faultsOf.f k pi rp l m.1 d b c most).bind fun t => if (t.length : Int) = 0 then some (x, true) else G k) else G k
def tryOk (x : Int) (p : Bool) : Prop := -2000 ≤ x → x ≤ 2000 → ∀ (G : Nat → Option (Int × Bool)) (q : Int × Bool), (p = true → q = (x, true)) → (p = false → Ev G q) → Ev (specTry pi rp l s d b c most x G) q ∧ Ev (implTry pi rp l s d b c most x G) q
theorem try_ex (h1 : pi.length ≤ 1048576) (hi : isIn pi rp) (hl : isSc l) (hs : isSh s) (x : Int) : ∃ p, tryOk pi rp l s d b c most x p := by
  by_cases hx : isSh (s.map (mvH x))
  · obtain ⟨r, r1, r2, r3, r4⟩ := faults_both pi rp l (s.map (mvH x)) d b c most h1 hi hl hx
    refine ⟨decide ((r.length : Int) = 0), fun x1 x2 G q hp hn => ?_⟩
    have m1 := spec_mv hs x1 x2
    have m2 := impl_mv hs x1 x2
    unfold mvR at m1 m2
    rw [if_pos hx] at m1 m2
    by_cases z : (r.length : Int) = 0
    · rw [hp (decide_eq_true z)]
      exact ⟨Ev.bind m1 (ev_pos rfl (Ev.bind r1 (ev_pos z (Ev.now _)))), Ev.bind m2 (ev_pos rfl (Ev.bind r2 (ev_pos z (Ev.now _))))⟩
    · have g := hn (decide_eq_false z)
      exact ⟨Ev.bind m1 (ev_pos rfl (Ev.bind r1 (ev_neg z g))), Ev.bind m2 (ev_pos rfl (Ev.bind r2 (ev_neg z g)))⟩
  · refine ⟨false, fun x1 x2 G q _ hn => ?_⟩
    have m1 := spec_mv hs x1 x2
    have m2 := impl_mv hs x1 x2
    unfold mvR at m1 m2
    rw [if_neg hx] at m1 m2
    have g := hn rfl
    exact ⟨Ev.bind m1 (ev_neg (by simp) g), Ev.bind m2 (ev_neg (by simp) g)⟩
variable (P : Int → Bool) (hP : ∀ x, tryOk pi rp l s d b c most x (P x))
include hP
theorem res_try (x : Int) (T : List Int) (x1 : -2000 ≤ x) (x2 : x ≤ 2000) (G : Nat → Option (Int × Bool)) (hG : Ev G (res P T)) : Ev (specTry pi rp l s d b c most x G) (res P (x :: T)) ∧ Ev (implTry pi rp l s d b c most x G) (res P (x :: T)) := by
  rw [res_cons]
  refine hP x x1 x2 G _ (fun h => if_pos h) (fun h => ?_)
  rw [if_neg (by rw [h]; simp)]
  exact hG
theorem spec_search : Ev (fun k => spec_ShiftToPass.l0 k l s most (0 :: seg 1 100) (((0 :: seg 1 100).length : Nat) : Int) 0 pi rp d b c) (res P (0 :: seg 1 100)) := by
  obtain ⟨L, hL⟩ : ∃ L, L = 0 :: seg 1 100 := ⟨_, rfl⟩
  have hm : ∀ x ∈ L, -2000 ≤ x ∧ x ≤ 2000 := fun x hx => by
    rw [hL] at hx
    rcases List.mem_cons.1 hx with rfl | hx
    · omega
    · have := seg_mem hx
      omega
  have hl : L.length = 201 := by rw [hL, List.length_cons, seg_len]
  rw [← hL]
  refine count_up L.length (fun _ (_ : Unit) => True) (fun i _ => Ev (fun k => spec_ShiftToPass.l0 k l s most L (L.length : Int) (i : Int) pi rp d b c) (res P (L.drop i))) (fun _ _ => ?_) (fun i _ hi _ ih => ?_) 0 () (Nat.zero_le _) trivial
  · rw [List.drop_length]
    refine Ev.step (f := fun _ => some (0, false)) (fun k => ?_) (Ev.now _)
    simp only [spec_ShiftToPass.l0]
    rw [if_neg (by omega)]
  · have e1 := wn hi (by omega)
    have er : rd L (i : Int) = L[i] := rd_get hi
    have hx := hm _ (List.getElem_mem hi)
    rw [List.drop_eq_getElem_cons hi]
    refine Ev.step (fun k => ?_) (res_try pi rp l s d b c most P hP L[i] (L.drop (i + 1)) hx.1 hx.2 _ (ih () trivial)).1
    simp only [spec_ShiftToPass.l0, e1, er]
    rw [if_pos (by omega), if_pos (by omega), if_pos (by omega)]
    rfl
theorem impl_search : Ev (fun k => impl_ShiftToPass.l0 k l s most 0 pi rp d b c) (res P (seg 0 101)) := by
  refine count_up 101 (fun _ (_ : Unit) => True) (fun i _ => Ev (fun k => impl_ShiftToPass.l0 k l s most (i : Int) pi rp d b c) (res P (seg i (101 - i)))) (fun _ _ => ?_) (fun i _ hi _ ih => ?_) 0 () (Nat.zero_le _) trivial
  · refine Ev.step (f := fun _ => some (0, false)) (fun k => ?_) (Ev.now _)
    simp only [impl_ShiftToPass.l0]
    rw [if_neg (by omega)]
  · have e1 : wrap64 ((i : Int) + 1) = ((i + 1 : Nat) : Int) := by unfold wrap64; omega
    have e2 : wrap64 (-(i : Int)) = -(i : Int) := by unfold wrap64; omega
    have hseg : seg i (101 - i) = [-(i : Int), (i : Int)] ++ seg (i + 1) (101 - (i + 1)) := by rw [show 101 - i = (101 - (i + 1)) + 1 by omega]; exact seg_head _ _
    rw [hseg]
    have g2 : Ev (fun k => impl_ShiftToPass.l1 k l s most (i : Int) [-(i : Int), (i : Int)] 2 2 pi rp d b c) (res P (seg (i + 1) (101 - (i + 1)))) := by
      refine Ev.step (fun k => ?_) (ih () trivial)
      simp only [impl_ShiftToPass.l1, e1]
      rw [if_neg (by omega)]
    have g1 : Ev (fun k => impl_ShiftToPass.l1 k l s most (i : Int) [-(i : Int), (i : Int)] 2 1 pi rp d b c) (res P ((i : Int) :: seg (i + 1) (101 - (i + 1)))) := by
      refine Ev.step (fun k => ?_) (res_try pi rp l s d b c most P hP (i : Int) (seg (i + 1) (101 - (i + 1))) (by omega) (by omega) _ g2).2
      simp only [impl_ShiftToPass.l1, show wrap64 ((1 : Int) + 1) = 2 from by unfold wrap64; omega, show rd [-(i : Int), (i : Int)] 1 = (i : Int) from rfl]
      rw [if_pos (by omega), if_pos (by omega), if_pos (by show (1 : Int) < ((2 : Nat) : Int); omega)]
      rfl
    have g0 : Ev (fun k => impl_ShiftToPass.l1 k l s most (i : Int) [-(i : Int), (i : Int)] 2 0 pi rp d b c) (res P (-(i : Int) :: (i : Int) :: seg (i + 1) (101 - (i + 1)))) := by
      refine Ev.step (fun k => ?_) (res_try pi rp l s d b c most P hP (-(i : Int)) ((i : Int) :: seg (i + 1) (101 - (i + 1))) (by omega) (by omega) _ g1).2
      simp only [impl_ShiftToPass.l1, show wrap64 ((0 : Int) + 1) = 1 from by unfold wrap64; omega, show rd [-(i : Int), (i : Int)] 0 = -(i : Int) from rfl]
      rw [if_pos (by omega), if_pos (by omega), if_pos (by show (0 : Int) < ((2 : Nat) : Int); omega)]
      rfl
    refine Ev.step (fun k => ?_) g0
    simp only [impl_ShiftToPass.l0, Option.bind_some, e2]
    rw [if_pos (by omega)]
    rfl
end
theorem st (pi : List Int) (rp : Int) (l : List S55) (s : List S59) (d b c most : Int) (h1 : pi.length ≤ 1048576) (h2 : l.length ≤ 1048576) (h3 : s.length ≤ 1048576) :
    ∃ r : Int × Bool, Ev (fun k => spec_ShiftToPass.f k pi rp l s d b c most) r ∧ Ev (fun k => impl_ShiftToPass.f k pi rp l s d b c most) r := by
  have sa := spec_asked pi rp l s h1 h2 h3
  have im := impl_can pi rp l s h1 h2 h3
  have mF : Ev (fun k => impl_ShiftToPass.j0 k l s most true pi rp d b c) (0, false) := by
    refine Ev.step (f := fun _ => some (0, false)) (fun k => ?_) (Ev.now _)
    simp only [impl_ShiftToPass.j0]
    rw [if_pos trivial]
  unfold spec_ShiftToPass.f impl_ShiftToPass.f spec_vfAll.f
  by_cases hg : isIn pi rp ∧ isSc l ∧ isSh s
  · by_cases ha : actOk d b c
    · by_cases hm : 0 ≤ most ∧ most ≤ 50
      · obtain ⟨P, hP⟩ := Classical.axiomOfChoice (try_ex pi rp l s d b c most h1 hg.1 hg.2.1 hg.2.2)
        have e : res P (seg 0 101) = res P (0 :: seg 1 100) := by
          rw [seg_head]
          show res P (-((0 : Nat) : Int) :: ((0 : Nat) : Int) :: seg 1 100) = _
          rw [res_cons, res_cons, res_cons]
          by_cases q : P 0 = true
          · rw [if_pos (show P (-((0 : Nat) : Int)) = true from q), if_pos q]
            rfl
          · rw [if_neg (show ¬ P (-((0 : Nat) : Int)) = true from q), if_neg (show ¬ P ((0 : Nat) : Int) = true from q), if_neg q]
        refine ⟨res P (0 :: seg 1 100), Ev.bind (a := true) (Ev.bind sa (ev_pos (decide_eq_true hg) (ev_call (spec_act d b c) (ev_pos (decide_eq_true ha) (ev_call (spec_most most) (ev_now (decide_eq_true hm))))))) (ev_pos rfl (Ev.bind tr_order (spec_search pi rp l s d b c most P hP))), Ev.bind im (ev_pos (decide_eq_true hg) (ev_call (impl_act d b c) (ev_pos (decide_eq_true ha) (ev_call (impl_most most) ?_))))⟩
        rw [decide_eq_true hm, ← e]
        refine Ev.step (fun k => ?_) (impl_search pi rp l s d b c most P hP)
        simp only [impl_ShiftToPass.j0]
        rw [if_neg (by simp)]
      · refine ⟨(0, false), Ev.bind (a := false) (Ev.bind sa (ev_pos (decide_eq_true hg) (ev_call (spec_act d b c) (ev_pos (decide_eq_true ha) (ev_call (spec_most most) (ev_now (decide_eq_false hm))))))) (ev_neg (by simp) (Ev.now _)), Ev.bind im (ev_pos (decide_eq_true hg) (ev_call (impl_act d b c) (ev_pos (decide_eq_true ha) (ev_call (impl_most most) ?_))))⟩
        rw [decide_eq_false hm]
        exact mF
    · exact ⟨(0, false), Ev.bind (a := false) (Ev.bind sa (ev_pos (decide_eq_true hg) (ev_call (spec_act d b c) (ev_neg (by simpa using ha) (Ev.now _))))) (ev_neg (by simp) (Ev.now _)), Ev.bind im (ev_pos (decide_eq_true hg) (ev_call (impl_act d b c) (ev_neg (by simpa using ha) mF)))⟩
  · exact ⟨(0, false), Ev.bind (a := false) (Ev.bind sa (ev_neg (by simpa using hg) (Ev.now _))) (ev_neg (by simp) (Ev.now _)), Ev.bind im (ev_neg (by simpa using hg) mF)⟩
theorem FnExactShiftToPass (l0_0 : List (Int)) (a0_1 : Int) (l1 : List (S57)) (l2 : List (S61)) (a3_0 a3_1 a3_2 a4 : Int) (w0_0 : (l0_0.length ≤ maxLen ∧ ∀ y1 ∈ l0_0, (Lit.int .i64 y1).wf = true)) (w0_1 : (Lit.int .i64 a0_1).wf = true) (w1 : (l1.length ≤ maxLen ∧ ∀ y1 ∈ l1, ((Lit.int .i64 y1.f0).wf = true ∧ (Lit.int .i64 y1.f1).wf = true ∧ (Lit.int .i64 y1.f2).wf = true))) (w2 : (l2.length ≤ maxLen ∧ ∀ y1 ∈ l2, ((Lit.int .i64 y1.f0).wf = true ∧ (Lit.int .i64 y1.f1).wf = true ∧ (Lit.int .i64 y1.f2).wf = true))) (w3_0 : (Lit.int .i64 a3_0).wf = true) (w3_1 : (Lit.int .i64 a3_1).wf = true) (w3_2 : (Lit.int .i64 a3_2).wf = true) (w4 : (Lit.int .i64 a4).wf = true) :
    ∃ k, laws_FnExactShiftToPass.f k l0_0 a0_1 l1 l2 a3_0 a3_1 a3_2 a4 = some true := by
  have hm0 := w0_0.1
  have hm1 := w1.1
  have hm2 := w2.1
  unfold maxLen at hm0 hm1 hm2
  refine Ev.rounds (g := fun k => laws_FnExactShiftToPass.f k l0_0 a0_1 l1 l2 a3_0 a3_1 a3_2 a4) ?_
  unfold laws_FnExactShiftToPass.f
  refine ev_call (szInst _ _ (by omega)) (ev_ite (fun _ => Ev.now _) (fun c0 => ?_))
  have hl0 : l0_0.length ≤ 1048576 := by
    split at c0 <;> omega
  rw [if_pos hl0] at c0 ⊢
  refine ev_call (szNoteS _ _ (by omega) (by omega)) (ev_ite (fun _ => Ev.now _) (fun c1 => ?_))
  have hl1 : (l1.length : Int) ≤ 1048576 - (l0_0.length : Int) := by
    split at c1 <;> omega
  rw [if_pos hl1] at c1 ⊢
  refine ev_call (szHoleS _ _ (by omega) (by omega)) (ev_ite (fun _ => Ev.now _) (fun c2 => ?_))
  have hl2 : (l2.length : Int) ≤ 1048576 - (l0_0.length : Int) - l1.length := by
    split at c2 <;> omega
  have i0 := toInst l0_0 a0_1 hl0
  have i1 := toNoteS l1 (by omega)
  have i2 := toHoleS l2 (by omega)
  have i3 : laws_toAction.f a3_0 a3_1 a3_2 = some (a3_0, a3_1, a3_2) := rfl
  have k1 : (l1.map cvN).length ≤ 1048576 := by simp; omega
  have k2 : (l2.map cvH).length ≤ 1048576 := by simp; omega
  obtain ⟨r, g1, g2⟩ := st l0_0 a0_1 (l1.map cvN) (l2.map cvH) a3_0 a3_1 a3_2 a4 hl0 k1 k2
  refine Ev.bind i0 (Ev.bind i1 (Ev.bind i2 (ev_call i3 (Ev.bind g1 (Ev.bind i0 (Ev.bind i1 (Ev.bind i2 (ev_call i3 (Ev.bind g2 (ev_pos rfl ?_))))))))))
  refine Ev.step (fun k => rfl) (ev_neg (by simp) (Ev.bind i0 (Ev.bind (eqInst _ _ hl0) (ev_pos rfl (Ev.bind i1 (Ev.bind (eqNoteS _ k1) (ev_pos rfl (Ev.bind i2 (Ev.bind (eqHoleS _ k2) (ev_pos rfl (Ev.now _)))))))))))
end Go.Proofs.YtipklbjbgbbgpaaGreat.PureFnExactShiftToPass
