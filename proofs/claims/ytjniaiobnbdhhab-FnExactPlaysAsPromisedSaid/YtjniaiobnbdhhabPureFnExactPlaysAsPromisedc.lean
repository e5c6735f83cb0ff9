/- The plain statement of FnExactPlaysAsPromised (lemmas): the law's function, over numbers and lists, answers true. No conditions beyond the arguments' own kinds. -/
import Derived.Test.YtjniaiobnbdhhabSPlaysAsPromised14
import Derived.Test.YtjniaiobnbdhhabPureFnExactPlaysAsPromisedb
namespace Go.Proofs.Ytjniaiobnbdhhab.PureFnExactPlaysAsPromised
open Go Go.RowKit Go.Proofs.Ytjniaiobnbdhhab.PFnExactPlaysAsPromised Go.Proofs.YtjniaiobnbdhhabW.PrintWords Go.Proofs.YtjniaiobnbdhhabW.PrintLast Go.Proofs.YtjniaiobnbdhhabW.PrintMore Go.Proofs.Ytjniaiobnbdhhab.Lib
set_option linter.unusedVariables false
set_option linter.unusedSimpArgs false
theorem isHole_eq (a b c : Int) : impl_IsHole.f a b c = some (decide (0 ≤ a ∧ a < 20 ∧ 0 ≤ b ∧ b < c ∧ c ≤ 2000)) := by
  unfold impl_IsHole.f impl_isTrack.f
  repeat' split
  all_goals simp only [Option.bind_some, decide_eq_true_eq, Bool.false_eq_true, ↓reduceIte]
  all_goals (repeat' split)
  all_goals first | exact some_dec (by omega) (by omega) | exact some_dec_f (by omega)
theorem holeLess_eq (a b c a' b' c' : Int) : impl_holeLess.f a b c a' b' c' = some (decide (b < b' ∨ b = b' ∧ a < a')) := by
  unfold impl_holeLess.f
  split
  all_goals exact some_dec (by omega) (by omega)
theorem impl_isSh (l : List S80) (hl : l.length ≤ 1048576) : Ev (fun k => impl_IsSheet.f k l) (decide (isSh l)) := by
  unfold impl_IsSheet.f
  by_cases h60 : l.length ≤ 60
  · refine ev_neg (by omega) (all_loop_g (fun k i => impl_IsSheet.l0 k l l (l.length : Int) i) l.length (shAt l) true _ (by simp [isSh, h60]) (fun _ => ?_) (fun i hi _ => ?_))
    · refine Ev.step (f := fun _ => some true) (fun k => ?_) (Ev.now _)
      simp only [impl_IsSheet.l0]
      rw [if_neg (by omega)]
    · have e1 := wn hi (by omega)
      have hin : ∀ q, ((∀ j, j < i → (rd_T80 l j).f0 = (rd_T80 l i).f0 → (rd_T80 l j).f2 < (rd_T80 l i).f1) → Ev (fun k => impl_IsSheet.l0 k l l (l.length : Int) ((i + 1 : Nat) : Int)) q) → (¬ (∀ j, j < i → (rd_T80 l j).f0 = (rd_T80 l i).f0 → (rd_T80 l j).f2 < (rd_T80 l i).f1) → q = false) →
          Ev (fun k => impl_IsSheet.j1 k l (i : Int) l (l.length : Int) (i : Int) false ((rd_T80 l i).f0) ((rd_T80 l i).f1) ((rd_T80 l i).f2)) q := by
        intro q h1 h2
        have hlen : (l.take i).length = i := by rw [List.length_take]; omega
        refine Ev.step (f := fun k => impl_IsSheet.l1 k l l (l.length : Int) (i : Int) (l.take i) (((l.take i).length : Nat) : Int) 0 ((rd_T80 l i).f0) ((rd_T80 l i).f1) ((rd_T80 l i).f2)) (fun k => ?_) ?_
        · simp only [impl_IsSheet.j1, Option.bind_some, Int.toNat_natCast]
          rw [if_neg (by simp), if_pos (by omega), if_pos (by omega)]
        · refine scan_loop (fun k j => impl_IsSheet.l1 k l l (l.length : Int) (i : Int) (l.take i) (((l.take i).length : Nat) : Int) j ((rd_T80 l i).f0) ((rd_T80 l i).f1) ((rd_T80 l i).f2)) i _ q false (fun hc => Ev.step (fun k => ?_) (h1 hc)) h2 (fun k j hj => ?_)
          · simp only [impl_IsSheet.l1, e1]
            rw [if_neg (by omega)]
          · have e2 := wn hj (by omega)
            simp only [impl_IsSheet.l1, e2, rdH_take l i j hj]
            constructor <;> intro h <;> (repeat' split) <;> first | rfl | (exfalso; omega)
      constructor
      · intro hP q hq
        have hok := hP.1
        unfold okH at hok
        by_cases hz : (i : Int) > 0
        · have e2 : wrap64 ((i : Int) - 1) = i - 1 := by unfold wrap64; omega
          have hb := hP.2.1 (by omega)
          unfold befH at hb
          refine Ev.step (fun k => ?_) (hin q (fun _ => hq) (fun hc => absurd hP.2.2 hc))
          simp only [impl_IsSheet.l0, isHole_eq, holeLess_eq, Option.bind_some, e2]
          rw [if_pos (by omega), if_pos (by omega), if_pos (by omega), if_pos (decide_eq_true hok), if_pos hz, if_pos (by omega), if_pos (by omega), decide_eq_true hb]
          rfl
        · refine Ev.step (fun k => ?_) (hin q (fun _ => hq) (fun hc => absurd hP.2.2 hc))
          simp only [impl_IsSheet.l0, isHole_eq, Option.bind_some]
          rw [if_pos (by omega), if_pos (by omega), if_pos (by omega), if_pos (decide_eq_true hok), if_neg hz]
      · intro hP
        by_cases hok : okH (rd_T80 l i)
        · have hok' := hok
          unfold okH at hok'
          by_cases hz : (i : Int) > 0
          · have e2 : wrap64 ((i : Int) - 1) = i - 1 := by unfold wrap64; omega
            by_cases hb : befH (rd_T80 l ((i : Int) - 1)) (rd_T80 l i)
            · have hb' := hb
              unfold befH at hb'
              refine Ev.step (fun k => ?_) (hin false (fun hc => absurd ⟨hok, fun _ => hb, hc⟩ hP) (fun _ => rfl))
              simp only [impl_IsSheet.l0, isHole_eq, holeLess_eq, Option.bind_some, e2]
              rw [if_pos (by omega), if_pos (by omega), if_pos (by omega), if_pos (decide_eq_true hok'), if_pos hz, if_pos (by omega), if_pos (by omega), decide_eq_true hb']
              rfl
            · have hb' := hb
              unfold befH at hb'
              refine Ev.step (f := fun k => impl_IsSheet.j1 k l (i : Int) l (l.length : Int) (i : Int) true ((rd_T80 l i).f0) ((rd_T80 l i).f1) ((rd_T80 l i).f2)) (fun k => ?_) (Ev.step (f := fun _ => some false) (fun k => rfl) (Ev.now _))
              simp only [impl_IsSheet.l0, isHole_eq, holeLess_eq, Option.bind_some, e2]
              rw [if_pos (by omega), if_pos (by omega), if_pos (by omega), if_pos (decide_eq_true hok'), if_pos hz, if_pos (by omega), if_pos (by omega), decide_eq_false hb']
              rfl
          · refine Ev.step (fun k => ?_) (hin false (fun hc => absurd ⟨hok, fun h => absurd h (by omega), hc⟩ hP) (fun _ => rfl))
            simp only [impl_IsSheet.l0, isHole_eq, Option.bind_some]
            rw [if_pos (by omega), if_pos (by omega), if_pos (by omega), if_pos (decide_eq_true hok'), if_neg hz]
        · have hok' := hok
          unfold okH at hok'
          refine Ev.step (f := fun k => impl_IsSheet.j1 k l (i : Int) l (l.length : Int) (i : Int) true ((rd_T80 l i).f0) ((rd_T80 l i).f1) ((rd_T80 l i).f2)) (fun k => ?_) (Ev.step (f := fun _ => some false) (fun k => rfl) (Ev.now _))
          simp only [impl_IsSheet.l0, isHole_eq, Option.bind_some]
          rw [if_pos (by omega), if_pos (by omega), if_pos (by omega), if_neg (by simpa using hok')]
  · rw [decide_eq_false (fun h => h60 h.1)]
    exact ev_pos (by omega) (Ev.now _)

theorem isNote_eq (a b c : Int) : impl_IsNote.f a b c = some (decide (24 ≤ a ∧ a ≤ 96 ∧ 0 ≤ b ∧ b ≤ 999 ∧ 1 ≤ c ∧ c ≤ 99)) := by
  unfold impl_IsNote.f
  repeat' split
  all_goals first | exact some_dec (by omega) (by omega) | exact some_dec_f (by omega)
theorem noteLess_eq (a b c a' b' c' : Int) : impl_noteLess.f a b c a' b' c' = some (decide (b < b' ∨ b = b' ∧ a < a')) := by
  unfold impl_noteLess.f
  split
  all_goals exact some_dec (by omega) (by omega)
theorem impl_isSc (l : List S95) (hl : l.length ≤ 1048576) : Ev (fun k => impl_IsScore.f k l) (decide (isSc l)) := by
  unfold impl_IsScore.f
  by_cases h30 : l.length ≤ 30
  · refine ev_neg (by omega) (all_loop_g (fun k i => impl_IsScore.l0 k l l (l.length : Int) i) l.length (scAt l) true _ (by simp [isSc, h30]) (fun _ => ?_) (fun i hi hp => ?_))
    · refine Ev.step (f := fun _ => some true) (fun k => ?_) (Ev.now _)
      simp only [impl_IsScore.l0]
      rw [if_neg (by omega)]
    · have e1 := wn hi (by omega)
      have hin : ∀ q, ((∀ j, j < i → (rd_T95 l j).f0 = (rd_T95 l i).f0 → (rd_T95 l j).f1 + (rd_T95 l j).f2 ≤ (rd_T95 l i).f1) → Ev (fun k => impl_IsScore.l0 k l l (l.length : Int) ((i + 1 : Nat) : Int)) q) → (¬ (∀ j, j < i → (rd_T95 l j).f0 = (rd_T95 l i).f0 → (rd_T95 l j).f1 + (rd_T95 l j).f2 ≤ (rd_T95 l i).f1) → q = false) →
          Ev (fun k => impl_IsScore.j1 k l (i : Int) l (l.length : Int) (i : Int) false ((rd_T95 l i).f0) ((rd_T95 l i).f1) ((rd_T95 l i).f2)) q := by
        intro q h1 h2
        have hlen : (l.take i).length = i := by rw [List.length_take]; omega
        refine Ev.step (f := fun k => impl_IsScore.l1 k l l (l.length : Int) (i : Int) (l.take i) (((l.take i).length : Nat) : Int) 0 ((rd_T95 l i).f0) ((rd_T95 l i).f1) ((rd_T95 l i).f2)) (fun k => ?_) ?_
        · simp only [impl_IsScore.j1, Option.bind_some, Int.toNat_natCast]
          rw [if_neg (by simp), if_pos (by omega), if_pos (by omega)]
        · refine scan_loop (fun k j => impl_IsScore.l1 k l l (l.length : Int) (i : Int) (l.take i) (((l.take i).length : Nat) : Int) j ((rd_T95 l i).f0) ((rd_T95 l i).f1) ((rd_T95 l i).f2)) i _ q false (fun hc => Ev.step (fun k => ?_) (h1 hc)) h2 (fun k j hj => ?_)
          · simp only [impl_IsScore.l1, e1]
            rw [if_neg (by omega)]
          · have e2 := wn hj (by omega)
            have hj2 := (hp j hj).1
            unfold okN at hj2
            have e3 : wrap64 ((rd_T95 l j).f1 + (rd_T95 l j).f2) = (rd_T95 l j).f1 + (rd_T95 l j).f2 := by unfold wrap64; omega
            simp only [impl_IsScore.l1, impl_noteEnd.f, Option.bind_some, e2, e3, rdN_take l i j hj]
            constructor <;> intro h <;> (repeat' split) <;> first | rfl | (exfalso; omega)
      constructor
      · intro hP q hq
        have hok := hP.1
        unfold okN at hok
        by_cases hz : (i : Int) > 0
        · have e2 : wrap64 ((i : Int) - 1) = i - 1 := by unfold wrap64; omega
          have hb := hP.2.1 (by omega)
          unfold befN at hb
          refine Ev.step (fun k => ?_) (hin q (fun _ => hq) (fun hc => absurd hP.2.2 hc))
          simp only [impl_IsScore.l0, isNote_eq, noteLess_eq, Option.bind_some, e2]
          rw [if_pos (by omega), if_pos (by omega), if_pos (by omega), if_pos (decide_eq_true hok), if_pos hz, if_pos (by omega), if_pos (by omega), decide_eq_true hb]
          rfl
        · refine Ev.step (fun k => ?_) (hin q (fun _ => hq) (fun hc => absurd hP.2.2 hc))
          simp only [impl_IsScore.l0, isNote_eq, Option.bind_some]
          rw [if_pos (by omega), if_pos (by omega), if_pos (by omega), if_pos (decide_eq_true hok), if_neg hz]
      · intro hP
        by_cases hok : okN (rd_T95 l i)
        · have hok' := hok
          unfold okN at hok'
          by_cases hz : (i : Int) > 0
          · have e2 : wrap64 ((i : Int) - 1) = i - 1 := by unfold wrap64; omega
            by_cases hb : befN (rd_T95 l ((i : Int) - 1)) (rd_T95 l i)
            · have hb' := hb
              unfold befN at hb'
              refine Ev.step (fun k => ?_) (hin false (fun hc => absurd ⟨hok, fun _ => hb, hc⟩ hP) (fun _ => rfl))
              simp only [impl_IsScore.l0, isNote_eq, noteLess_eq, Option.bind_some, e2]
              rw [if_pos (by omega), if_pos (by omega), if_pos (by omega), if_pos (decide_eq_true hok'), if_pos hz, if_pos (by omega), if_pos (by omega), decide_eq_true hb']
              rfl
            · have hb' := hb
              unfold befN at hb'
              refine Ev.step (f := fun k => impl_IsScore.j1 k l (i : Int) l (l.length : Int) (i : Int) true ((rd_T95 l i).f0) ((rd_T95 l i).f1) ((rd_T95 l i).f2)) (fun k => ?_) (Ev.step (f := fun _ => some false) (fun k => rfl) (Ev.now _))
              simp only [impl_IsScore.l0, isNote_eq, noteLess_eq, Option.bind_some, e2]
              rw [if_pos (by omega), if_pos (by omega), if_pos (by omega), if_pos (decide_eq_true hok'), if_pos hz, if_pos (by omega), if_pos (by omega), decide_eq_false hb']
              rfl
          · refine Ev.step (fun k => ?_) (hin false (fun hc => absurd ⟨hok, fun h => absurd h (by omega), hc⟩ hP) (fun _ => rfl))
            simp only [impl_IsScore.l0, isNote_eq, Option.bind_some]
            rw [if_pos (by omega), if_pos (by omega), if_pos (by omega), if_pos (decide_eq_true hok'), if_neg hz]
        · have hok' := hok
          unfold okN at hok'
          refine Ev.step (f := fun k => impl_IsScore.j1 k l (i : Int) l (l.length : Int) (i : Int) true ((rd_T95 l i).f0) ((rd_T95 l i).f1) ((rd_T95 l i).f2)) (fun k => ?_) (Ev.step (f := fun _ => some false) (fun k => rfl) (Ev.now _))
          simp only [impl_IsScore.l0, isNote_eq, Option.bind_some]
          rw [if_pos (by omega), if_pos (by omega), if_pos (by omega), if_neg (by simpa using hok')]
  · rw [decide_eq_false (fun h => h30 h.1)]
    exact ev_pos (by omega) (Ev.now _)

theorem impl_can (pi : List Int) (rp : Int) (l : List S95) (s : List S80) (h1 : pi.length ≤ 1048576) (h2 : l.length ≤ 1048576) (h3 : s.length ≤ 1048576) : Ev (fun k => impl_canMatch.f k pi rp l s) (decide (isIn pi rp ∧ isSc l ∧ isSh s)) := by
  unfold impl_canMatch.f
  refine Ev.bind (impl_isIn pi rp h1) (ev_ite (fun c1 => Ev.bind (impl_isSc l h2) (ev_ite (fun c2 => Ev.bind (impl_isSh s h3) (ev_now ?_)) (fun c2 => ev_now ?_))) (fun c1 => ev_now ?_))
  · exact decide_eq_decide.2 ⟨fun c3 => ⟨of_decide_eq_true c1, of_decide_eq_true c2, c3⟩, fun c => c.2.2⟩
  · exact (decide_eq_false (fun c => c2 (decide_eq_true c.2.1))).symm
  · exact (decide_eq_false (fun c => c1 (decide_eq_true c.1))).symm
end Go.Proofs.Ytjniaiobnbdhhab.PureFnExactPlaysAsPromised
