/- The plain statement of FnExactStepsFrom: the law's function, over numbers and lists, answers true. No conditions beyond the arguments' own kinds. -/
import Derived.Test.YtlhjjpdlfddflaaRStepsFrom3
import Derived.Test.YtlhjjpdlfddflaaLib
namespace Go.Proofs.Ytlhjjpdlfddflaa.PureFnExactStepsFrom
open Go Go.RowKit Go.Proofs.Ytlhjjpdlfddflaa.PFnExactStepsFrom Go.Proofs.YtlhjjpdlfddflaaW.PrintWords Go.Proofs.YtlhjjpdlfddflaaW.PrintLast Go.Proofs.YtlhjjpdlfddflaaW.PrintMore Go.Proofs.Ytlhjjpdlfddflaa.Lib
set_option linter.unusedVariables false
set_option linter.unusedSimpArgs false
theorem l1In_eq (a b c : Int) : spec_l1In.f a b c = some (decide (b ≤ a ∧ a ≤ c)) := by
  unfold spec_l1In.f
  split <;> simp <;> omega

/-! editions -/
def cvE (x : S35) : S33 := ⟨x.f0, x.f1, x.f2⟩
theorem toPartS (l : List S35) (hl : l.length ≤ 1048576) : Ev (fun k => laws_toPartS.f k l) (l.map cvE) := by
  unfold laws_toPartS.f
  refine ev_pos (by omega) (ev_pos (by omega) ?_)
  exact map_loop (fun k ys i => laws_toPartS.l0 k l ys i) l z35 z33 (fun k x => laws_toPart.f x.f0 x.f1 x.f2) (fun bt => ⟨bt.1, bt.2.1, bt.2.2⟩) (fun x => (x.f0, x.f1, x.f2)) (fun k ys i => rfl) (fun x _ => ev_const rfl) (by omega)
theorem eqPartS (l : List S33) (hl : l.length ≤ 1048576) : Ev (fun k => laws_eqPartS.f k l l) true := by
  unfold laws_eqPartS.f
  refine ev_pos rfl ?_
  exact same_loop (fun k i => laws_eqPartS.l0 k l l i) l z33 (fun k x => laws_eqPart.f x.f0 x.f1 x.f2 x.f0 x.f1 x.f2) (fun k i => rfl) (fun x _ => ev_const (by simp [laws_eqPart.f])) (by omega)
theorem szPartS (l : List S35) (hl : l.length ≤ 9223372036854775807) : laws_szPartS.f l 1048576 = some (if l.length ≤ 1048576 then 1048576 - (l.length : Int) else -1) := by
  have e : wrap64 (1048576 - (l.length : Int)) = 1048576 - l.length := by unfold wrap64; omega
  simp only [laws_szPartS.f, e]
  repeat' split
  all_goals first | rfl | (exfalso; omega)
/-- The sum of the parts' lengths, as the machine adds it. -/
def edLen (l : List S33) : Int := l.foldl (fun s x => wrap64 (s + wrap64 (x.f2 - x.f1))) 0
def okE (src : Int) (x : S33) : Prop := 0 ≤ x.f0 ∧ x.f0 < src ∧ 0 ≤ x.f1 ∧ x.f1 < x.f2 ∧ x.f2 ≤ 2000
instance (src : Int) (x : S33) : Decidable (okE src x) := by unfold okE; infer_instance
def isE (src : Int) (l : List S33) : Prop := 1 ≤ src ∧ src ≤ 4 ∧ l.length ≤ 12 ∧ (∀ i, i < l.length → okE src (rd_T33 l i)) ∧ edLen l ≤ 2000
instance (src : Int) (l : List S33) : Decidable (isE src l) := by unfold isE; infer_instance
theorem impl_len (l : List S33) (hl : l.length ≤ 1048576) : Ev (fun k => impl_editionLength.f k l) (edLen l) := by
  unfold impl_editionLength.f
  refine fold_loop (fun k s i => impl_editionLength.l0 k s l (l.length : Int) i) l (fun s x => wrap64 (s + wrap64 (x.f2 - x.f1))) id (fun k s => ?_) (fun k s i h => ?_) 0
  · simp only [impl_editionLength.l0]
    rw [if_neg (by omega)]; rfl
  · have e1 : wrap64 ((i : Int) + 1) = i + 1 := by unfold wrap64; omega
    simp only [impl_editionLength.l0, e1]
    rw [if_pos (by omega), if_pos (by omega), if_pos (by omega)]
    unfold rd_T33
    rw [rd_get h]
theorem impl_isE (l : List S33) (src : Int) (hl : l.length ≤ 1048576) : Ev (fun k => impl_AreParts.f k l src) (decide (isE src l)) := by
  unfold impl_AreParts.f
  by_cases h : 1 ≤ src ∧ src ≤ 4 ∧ l.length ≤ 12
  · refine ev_neg (by omega) (ev_neg (by omega) (Ev.step (f := fun k => impl_AreParts.l0 k l src l (l.length : Int) 0) (fun k => ?_) ?_))
    · simp only [impl_AreParts.j0]
      rw [if_neg (by simp; omega)]
    · refine all_loop_ev (fun k i => impl_AreParts.l0 k l src l (l.length : Int) i) l.length (fun i => okE src (rd_T33 l i)) (decide (edLen l ≤ 2000)) _ (by simp [isE, h]) (fun _ => ?_) (fun k i hi => ?_)
      · refine Ev.step (f := fun k => (impl_editionLength.f k l).bind fun t131 => (some (decide (t131 ≤ 2000)))) (fun k => ?_) (Ev.bind (impl_len l hl) (Ev.now _))
        simp only [impl_AreParts.l0]
        rw [if_neg (by omega)]
      · have e1 : wrap64 ((i : Int) + 1) = i + 1 := by unfold wrap64; omega
        simp only [impl_AreParts.l0, e1]
        unfold okE
        constructor <;> intro h <;> (repeat' split) <;> first | rfl | (exfalso; omega)
  · have e : decide (isE src l) = false := decide_eq_false (fun hp => h ⟨hp.1, hp.2.1, hp.2.2.1⟩)
    rw [e]
    refine ev_ite (fun hc => Ev.step (f := fun _ => some false) (fun k => rfl) (Ev.now _)) (fun hc => ev_ite (fun hc => Ev.step (f := fun _ => some false) (fun k => rfl) (Ev.now _)) (fun hc => Ev.step (f := fun _ => some false) (fun k => ?_) (Ev.now _)))
    simp only [impl_AreParts.j0]
    rw [if_pos (by simp; omega)]

theorem spec_len (l : List S33) (hl : l.length ≤ 1048576) : Ev (fun k => spec_edLength.f k l) (edLen l) := by
  unfold spec_edLength.f
  refine fold_loop (fun k s i => spec_edLength.l0 k s l (l.length : Int) i) l (fun s x => wrap64 (s + wrap64 (x.f2 - x.f1))) id (fun k s => ?_) (fun k s i h => ?_) 0
  · simp only [spec_edLength.l0]
    rw [if_neg (by omega)]; rfl
  · have e1 : wrap64 ((i : Int) + 1) = i + 1 := by unfold wrap64; omega
    simp only [spec_edLength.l0, e1]
    rw [if_pos (by omega), if_pos (by omega), if_pos (by omega)]
    unfold rd_T33
    rw [rd_get h]
theorem edPart_eq (a b c : Int) : spec_edPart.f a b c = some (decide (0 ≤ a ∧ a ≤ 3 ∧ 0 ≤ b ∧ b < c ∧ c ≤ 2000)) := by
  unfold spec_edPart.f spec_shStep.f
  simp only [l1In_eq, Option.bind_some, decide_eq_true_eq]
  by_cases h : 0 ≤ b ∧ b ≤ 1999
  · have e : wrap64 (b + 1) = b + 1 := by unfold wrap64; omega
    rw [e]
    repeat' split
    all_goals first | exact some_dec (by omega) (by omega) | exact some_dec_f (by omega)
  · rw [if_neg h]
    split
    all_goals exact some_dec_f (by omega)
/-- Good parts, whatever the number of sources. -/
theorem spec_good (l : List S33) (hl : l.length ≤ 1048576) : Ev (fun k => spec_edGood.f k l) (decide (isE 4 l)) := by
  unfold spec_edGood.f
  refine all_loop_ev (fun k i => spec_edGood.l0 k l l (l.length : Int) i) l.length (fun i => okE 4 (rd_T33 l i)) (decide (l.length ≤ 12 ∧ edLen l ≤ 2000)) _ ?_ (fun _ => ?_) (fun k i hi => ?_)
  · simp [isE]
    exact ⟨fun ⟨a, b, c⟩ => ⟨b, a, c⟩, fun ⟨a, b, c⟩ => ⟨b, a, c⟩⟩
  · refine Ev.step (f := fun k => if (l.length : Int) ≤ 12 then ((spec_edLength.f k l).bind fun t111 => (some (decide (t111 ≤ 2000)))) else (some false)) (fun k => ?_) (ev_ite (fun h => Ev.bind (spec_len l hl) (ev_now ?_)) (fun h => ev_now ?_))
    · simp only [spec_edGood.l0]
      rw [if_neg (by omega)]
    · simp; omega
    · simp; omega
  · have e1 : wrap64 ((i : Int) + 1) = i + 1 := by unfold wrap64; omega
    simp only [spec_edGood.l0, edPart_eq, Option.bind_some, decide_eq_true_eq, e1]
    unfold okE
    constructor <;> intro h <;> (repeat' split) <;> first | rfl | (exfalso; omega)

/-- The steps of the parts of one source. -/
def stepsOf (l : List S33) (s : Int) : Int := l.foldl (fun a x => if x.f0 = s then wrap64 (a + wrap64 (x.f2 - x.f1)) else a) 0
def sfR (l : List S33) (s : Int) : Int × Bool := if isE 4 l ∧ 0 ≤ s ∧ s ≤ 3 then (stepsOf l s, true) else (0, false)
theorem spec_sf (l : List S33) (s : Int) (hl : l.length ≤ 1048576) : Ev (fun k => spec_StepsFrom.f k l s) (sfR l s) := by
  unfold spec_StepsFrom.f sfR
  refine Ev.bind (spec_good l hl) ?_
  by_cases hg : isE 4 l
  · refine ev_pos (decide_eq_true hg) (ev_call (a := decide (0 ≤ s ∧ s ≤ 3)) (by rw [l1In_eq]) ?_)
    by_cases c : 0 ≤ s ∧ s ≤ 3
    · rw [if_pos ⟨hg, c⟩]
      refine Ev.step (f := fun k => spec_StepsFrom.l0 k s 0 l (l.length : Int) 0) (fun k => ?_) ?_
      · simp only [spec_StepsFrom.j0]
        rw [if_neg (by simp; omega)]
      · refine fold_loop (fun k a i => spec_StepsFrom.l0 k s a l (l.length : Int) i) l (fun a x => if x.f0 = s then wrap64 (a + wrap64 (x.f2 - x.f1)) else a) (fun a => (a, true)) (fun k a => ?_) (fun k a i hi => ?_) _
        · simp only [spec_StepsFrom.l0]
          rw [if_neg (by omega)]
        · have e1 : wrap64 ((i : Int) + 1) = i + 1 := by unfold wrap64; omega
          have er : rd_T33 l (i : Int) = l[i] := by unfold rd_T33; rw [rd_get hi]
          simp only [spec_StepsFrom.l0, e1, er]
          rw [if_pos (by omega), if_pos (by omega), if_pos (by omega)]
          split <;> rfl
    · rw [if_neg (fun hh => c hh.2)]
      refine Ev.step (f := fun _ => some (0, false)) (fun k => ?_) (Ev.now _)
      simp only [spec_StepsFrom.j0]
      rw [if_pos (by simp; omega)]
  · rw [if_neg (fun hh => hg hh.1)]
    exact ev_neg (by simpa using hg) (Ev.step (f := fun _ => some (0, false)) (fun k => rfl) (Ev.now _))
theorem impl_sf (l : List S33) (s : Int) (hl : l.length ≤ 1048576) : Ev (fun k => impl_StepsFrom.f k l s) (sfR l s) := by
  unfold impl_StepsFrom.f impl_isEdition.f sfR
  refine Ev.bind (Ev.bind (f := fun _ t => some t) (impl_isE l 4 hl) (Ev.now _)) ?_
  by_cases hg : isE 4 l
  · refine ev_pos (decide_eq_true hg) (ev_ite (fun h1 => ?_) (fun h1 => ev_ite (fun h2 => ?_) (fun h2 => ?_)))
    · rw [if_neg (fun hh => by omega)]; exact Ev.now _
    · rw [if_neg (fun hh => by omega)]; exact Ev.now _
    · rw [if_pos ⟨hg, by omega, by omega⟩]
      refine ev_call (a := l) (by unfold impl_Part_14.f; rw [if_pos (by omega)]) ?_
      have hf : (l.filter (stepsfrom.keeps s)).length ≤ 1048576 := Nat.le_trans (List.length_filter_le _ _) hl
      have e : edLen (l.filter (stepsfrom.keeps s)) = stepsOf l s := by
        unfold edLen stepsOf
        rw [List.foldl_filter]
        congr 1
        funext a x
        by_cases h : x.f0 = s
        · simp [stepsfrom.keeps, h]
        · simp [stepsfrom.keeps, h]
      rw [← e]
      exact Ev.bind (impl_len _ hf) (Ev.now _)
  · rw [if_neg (fun hh => hg hh.1)]
    exact ev_neg (by simpa using hg) (Ev.now _)
theorem FnExactStepsFrom (l0 : List (S35)) (a1 : Int) (w0 : (l0.length ≤ maxLen ∧ ∀ y1 ∈ l0, ((Lit.int .i64 y1.f0).wf = true ∧ (Lit.int .i64 y1.f1).wf = true ∧ (Lit.int .i64 y1.f2).wf = true))) (w1 : (Lit.int .i64 a1).wf = true) :
    ∃ k, laws_FnExactStepsFrom.f k l0 a1 = some true := by
  obtain ⟨hm, _⟩ := w0
  unfold maxLen at hm
  refine Ev.rounds (g := fun k => laws_FnExactStepsFrom.f k l0 a1) ?_
  unfold laws_FnExactStepsFrom.f
  refine ev_call (szPartS _ (by omega)) ?_
  by_cases hl : l0.length ≤ 1048576
  · rw [if_pos hl]
    refine ev_neg (by omega) ?_
    have h1 := toPartS l0 hl
    have hl2 : (l0.map cvE).length ≤ 1048576 := by simpa using hl
    exact Ev.bind h1 (Ev.bind (spec_sf _ a1 hl2) (Ev.bind h1 (Ev.bind (impl_sf _ a1 hl2) (ev_pos rfl (Ev.step (fun k => rfl) (ev_neg (by simp) (Ev.bind h1 (Ev.bind (eqPartS _ hl2) (ev_pos rfl (Ev.now _))))))))))
  · rw [if_neg hl]
    exact ev_pos (by omega) (Ev.now _)
end Go.Proofs.Ytlhjjpdlfddflaa.PureFnExactStepsFrom
