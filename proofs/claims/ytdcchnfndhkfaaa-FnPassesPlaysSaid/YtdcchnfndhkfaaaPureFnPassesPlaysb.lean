/- The plain statement of FnPassesPlays (lemmas): the law's function, over numbers and lists, answers true. No conditions beyond the arguments' own kinds. -/
import Derived.Test.YtdcchnfndhkfaaaSFnPassesPlays20
import Derived.Test.YtdcchnfndhkfaaaPureFnPassesPlaysa
namespace Go.Proofs.Ytdcchnfndhkfaaa.PureFnPassesPlays
open Go Go.RowKit Go.Proofs.Ytdcchnfndhkfaaa.PFnPassesPlays Go.Proofs.YtdcchnfndhkfaaaW.PrintWords Go.Proofs.YtdcchnfndhkfaaaW.PrintLast Go.Proofs.YtdcchnfndhkfaaaW.PrintMore Go.Proofs.Ytdcchnfndhkfaaa.Lib
set_option linter.unusedVariables false
set_option linter.unusedSimpArgs false
theorem l1In_eq (a b c : Int) : spec_l1In.f a b c = some (decide (b ≤ a ∧ a ≤ c)) := by
  unfold spec_l1In.f
  split <;> simp <;> omega

theorem shHole_eq (a b c : Int) : spec_shHole.f a b c = some (decide (0 ≤ a ∧ a < 20 ∧ 0 ≤ b ∧ b < c ∧ c ≤ 2000)) := by
  unfold spec_shHole.f
  simp only [l1In_eq, Option.bind_some, decide_eq_true_eq]
  by_cases h : 0 ≤ b ∧ b ≤ 1999
  · have e : wrap64 (b + 1) = b + 1 := by unfold wrap64; omega
    rw [e]
    repeat' split
    all_goals first | exact some_dec (by omega) (by omega) | exact some_dec_f (by omega)
  · rw [if_neg h]
    split
    all_goals exact some_dec_f (by omega)
theorem shBefore_eq (a b c a' b' c' : Int) : spec_shBefore.f a b c a' b' c' = some (decide (b < b' ∨ b = b' ∧ a < a')) := by
  unfold spec_shBefore.f
  repeat' split
  all_goals first | exact some_dec (by omega) (by omega) | exact some_dec_f (by omega) | exact some_dec_t (by omega)
theorem spec_isSh (l : List S60) (hl : l.length ≤ 1048576) : Ev (fun k => spec_shGood.f k l) (decide (isSh l)) := by
  unfold spec_shGood.f
  refine all_loop_g (fun k i => spec_shGood.l0 k l l (l.length : Int) i) l.length (shAt l) (decide ((l.length : Int) ≤ 60)) _ (by simp only [decide_eq_true_eq]; unfold isSh; exact ⟨fun h => ⟨h.2, by omega⟩, fun h => ⟨by omega, h.1⟩⟩) (fun _ => ?_) (fun i hi _ => ?_)
  · refine Ev.step (f := fun _ => some (decide ((l.length : Int) ≤ 60))) (fun k => ?_) (Ev.now _)
    simp only [spec_shGood.l0]
    rw [if_neg (by omega)]
  · have e1 := wn hi (by omega)
    have hin : ∀ q, ((∀ j, j < i → (rd_T60 l j).f0 = (rd_T60 l i).f0 → (rd_T60 l j).f2 < (rd_T60 l i).f1) → Ev (fun k => spec_shGood.l0 k l l (l.length : Int) ((i + 1 : Nat) : Int)) q) → (¬ (∀ j, j < i → (rd_T60 l j).f0 = (rd_T60 l i).f0 → (rd_T60 l j).f2 < (rd_T60 l i).f1) → q = false) →
        Ev (fun k => spec_shGood.j1 k l (i : Int) l (l.length : Int) (i : Int) false ((rd_T60 l i).f0) ((rd_T60 l i).f1) ((rd_T60 l i).f2)) q := by
      intro q h1 h2
      have hlen : (l.take i).length = i := by rw [List.length_take]; omega
      refine Ev.step (f := fun k => spec_shGood.l1 k l l (l.length : Int) (i : Int) (l.take i) (((l.take i).length : Nat) : Int) 0 ((rd_T60 l i).f0) ((rd_T60 l i).f1) ((rd_T60 l i).f2)) (fun k => ?_) ?_
      · simp only [spec_shGood.j1, Option.bind_some, Int.toNat_natCast]
        rw [if_neg (by simp), if_pos (by omega), if_pos (by omega)]
      · refine scan_loop (fun k j => spec_shGood.l1 k l l (l.length : Int) (i : Int) (l.take i) (((l.take i).length : Nat) : Int) j ((rd_T60 l i).f0) ((rd_T60 l i).f1) ((rd_T60 l i).f2)) i _ q false (fun hc => Ev.step (fun k => ?_) (h1 hc)) h2 (fun k j hj => ?_)
        · simp only [spec_shGood.l1, e1]
          rw [if_neg (by omega)]
        · have e2 := wn hj (by omega)
          simp only [spec_shGood.l1, e2, rdH_take l i j hj]
          constructor <;> intro h <;> (repeat' split) <;> first | rfl | (exfalso; omega)
    constructor
    · intro hP q hq
      have hok := hP.1
      unfold okH at hok
      by_cases hz : (i : Int) > 0
      · have e2 : wrap64 ((i : Int) - 1) = i - 1 := by unfold wrap64; omega
        have hb := hP.2.1 (by omega)
        unfold befH at hb
        refine Ev.step (fun k => ?_) (hin q (fun _ => hq) (fun hc => absurd hP.2.2 hc))
        simp only [spec_shGood.l0, shHole_eq, shBefore_eq, Option.bind_some, e2]
        rw [if_pos (by omega), if_pos (by omega), if_pos (by omega), if_pos (decide_eq_true hok), if_pos hz, if_pos (by omega), if_pos (by omega), decide_eq_true hb]
        rfl
      · refine Ev.step (fun k => ?_) (hin q (fun _ => hq) (fun hc => absurd hP.2.2 hc))
        simp only [spec_shGood.l0, shHole_eq, Option.bind_some]
        rw [if_pos (by omega), if_pos (by omega), if_pos (by omega), if_pos (decide_eq_true hok), if_neg hz]
    · intro hP
      by_cases hok : okH (rd_T60 l i)
      · have hok' := hok
        unfold okH at hok'
        by_cases hz : (i : Int) > 0
        · have e2 : wrap64 ((i : Int) - 1) = i - 1 := by unfold wrap64; omega
          by_cases hb : befH (rd_T60 l ((i : Int) - 1)) (rd_T60 l i)
          · have hb' := hb
            unfold befH at hb'
            refine Ev.step (fun k => ?_) (hin false (fun hc => absurd ⟨hok, fun _ => hb, hc⟩ hP) (fun _ => rfl))
            simp only [spec_shGood.l0, shHole_eq, shBefore_eq, Option.bind_some, e2]
            rw [if_pos (by omega), if_pos (by omega), if_pos (by omega), if_pos (decide_eq_true hok'), if_pos hz, if_pos (by omega), if_pos (by omega), decide_eq_true hb']
            rfl
          · have hb' := hb
            unfold befH at hb'
            refine Ev.step (f := fun k => spec_shGood.j1 k l (i : Int) l (l.length : Int) (i : Int) true ((rd_T60 l i).f0) ((rd_T60 l i).f1) ((rd_T60 l i).f2)) (fun k => ?_) (Ev.step (f := fun _ => some false) (fun k => rfl) (Ev.now _))
            simp only [spec_shGood.l0, shHole_eq, shBefore_eq, Option.bind_some, e2]
            rw [if_pos (by omega), if_pos (by omega), if_pos (by omega), if_pos (decide_eq_true hok'), if_pos hz, if_pos (by omega), if_pos (by omega), decide_eq_false hb']
            rfl
        · refine Ev.step (fun k => ?_) (hin false (fun hc => absurd ⟨hok, fun h => absurd h (by omega), hc⟩ hP) (fun _ => rfl))
          simp only [spec_shGood.l0, shHole_eq, Option.bind_some]
          rw [if_pos (by omega), if_pos (by omega), if_pos (by omega), if_pos (decide_eq_true hok'), if_neg hz]
      · have hok' := hok
        unfold okH at hok'
        refine Ev.step (f := fun k => spec_shGood.j1 k l (i : Int) l (l.length : Int) (i : Int) true ((rd_T60 l i).f0) ((rd_T60 l i).f1) ((rd_T60 l i).f2)) (fun k => ?_) (Ev.step (f := fun _ => some false) (fun k => rfl) (Ev.now _))
        simp only [spec_shGood.l0, shHole_eq, Option.bind_some]
        rw [if_pos (by omega), if_pos (by omega), if_pos (by omega), if_neg (by simpa using hok')]

theorem ntPitch_eq (a : Int) : spec_ntPitch.f a = some (decide (24 ≤ a ∧ a ≤ 96)) := by
  unfold spec_ntPitch.f
  rw [l1In_eq]; rfl

theorem ntNote_eq (a b c : Int) : spec_ntNote.f a b c = some (decide (24 ≤ a ∧ a ≤ 96 ∧ 0 ≤ b ∧ b ≤ 999 ∧ 1 ≤ c ∧ c ≤ 99)) := by
  unfold spec_ntNote.f
  simp only [l1In_eq, ntPitch_eq, Option.bind_some, decide_eq_true_eq]
  repeat' split
  all_goals first | exact some_dec (by omega) (by omega) | exact some_dec_f (by omega)
theorem ntBefore_eq (a b c a' b' c' : Int) : spec_ntBefore.f a b c a' b' c' = some (decide (b < b' ∨ b = b' ∧ a < a')) := by
  unfold spec_ntBefore.f
  repeat' split
  all_goals first | exact some_dec (by omega) (by omega) | exact some_dec_f (by omega) | exact some_dec_t (by omega)
theorem ntMeet_eq (a b c a' b' c' : Int) : spec_ntMeet.f a b c a' b' c' = some (decide (a = a' ∧ b < wrap64 (b' + c') ∧ b' < wrap64 (b + c))) := by
  unfold spec_ntMeet.f
  repeat' split
  all_goals first | exact some_dec (by omega) (by omega) | exact some_dec_f (by omega)
theorem scAt_le (l : List S35) (i : Nat) (hp : ∀ j, j < i → scAt l j) (hb : i > 0 → befN (rd_T35 l ((i : Int) - 1)) (rd_T35 l i)) : ∀ j, j < i → (rd_T35 l j).f1 ≤ (rd_T35 l i).f1 := by
  have key : ∀ d j : Nat, i - j = d → j < i → (rd_T35 l j).f1 ≤ (rd_T35 l i).f1 := by
    intro d
    induction d with
    | zero => intro j h1 h2; omega
    | succ d ih =>
      intro j h1 h2
      by_cases e : j + 1 = i
      · have := hb (by omega)
        rw [show ((i : Int) - 1) = (j : Int) by omega] at this
        unfold befN at this
        omega
      · have h3 := ih (j + 1) (by omega) (by omega)
        have h4 := (hp (j + 1) (by omega)).2.1 (by omega)
        rw [show (((j + 1 : Nat) : Int) - 1) = (j : Int) by omega] at h4
        unfold befN at h4
        omega
  intro j hj
  exact key (i - j) j rfl hj
theorem spec_isSc (l : List S35) (hl : l.length ≤ 1048576) : Ev (fun k => spec_ntGood.f k l) (decide (isSc l)) := by
  unfold spec_ntGood.f
  refine all_loop_g (fun k i => spec_ntGood.l0 k l l (l.length : Int) i) l.length (scAt l) (decide ((l.length : Int) ≤ 30)) _ (by simp only [decide_eq_true_eq]; unfold isSc; exact ⟨fun h => ⟨h.2, by omega⟩, fun h => ⟨by omega, h.1⟩⟩) (fun _ => ?_) (fun i hi hp => ?_)
  · refine Ev.step (f := fun _ => some (decide ((l.length : Int) ≤ 30))) (fun k => ?_) (Ev.now _)
    simp only [spec_ntGood.l0]
    rw [if_neg (by omega)]
  · have e1 := wn hi (by omega)
    have hin : okN (rd_T35 l i) → (i > 0 → befN (rd_T35 l ((i : Int) - 1)) (rd_T35 l i)) → ∀ q, ((∀ j, j < i → (rd_T35 l j).f0 = (rd_T35 l i).f0 → (rd_T35 l j).f1 + (rd_T35 l j).f2 ≤ (rd_T35 l i).f1) → Ev (fun k => spec_ntGood.l0 k l l (l.length : Int) ((i + 1 : Nat) : Int)) q) → (¬ (∀ j, j < i → (rd_T35 l j).f0 = (rd_T35 l i).f0 → (rd_T35 l j).f1 + (rd_T35 l j).f2 ≤ (rd_T35 l i).f1) → q = false) →
        Ev (fun k => spec_ntGood.j1 k l (i : Int) l (l.length : Int) (i : Int) false ((rd_T35 l i).f0) ((rd_T35 l i).f1) ((rd_T35 l i).f2)) q := by
      intro hoki hbef q h1 h2
      unfold okN at hoki
      have hlen : (l.take i).length = i := by rw [List.length_take]; omega
      refine Ev.step (f := fun k => spec_ntGood.l1 k l l (l.length : Int) (i : Int) (l.take i) (((l.take i).length : Nat) : Int) 0 ((rd_T35 l i).f0) ((rd_T35 l i).f1) ((rd_T35 l i).f2)) (fun k => ?_) ?_
      · simp only [spec_ntGood.j1, Option.bind_some, Int.toNat_natCast]
        rw [if_neg (by simp), if_pos (by omega), if_pos (by omega)]
      · refine scan_loop (fun k j => spec_ntGood.l1 k l l (l.length : Int) (i : Int) (l.take i) (((l.take i).length : Nat) : Int) j ((rd_T35 l i).f0) ((rd_T35 l i).f1) ((rd_T35 l i).f2)) i _ q false (fun hc => Ev.step (fun k => ?_) (h1 hc)) h2 (fun k j hj => ?_)
        · simp only [spec_ntGood.l1, e1]
          rw [if_neg (by omega)]
        · have e2 := wn hj (by omega)
          have hj2 := (hp j hj).1
          unfold okN at hj2
          have e3 : wrap64 ((rd_T35 l j).f1 + (rd_T35 l j).f2) = (rd_T35 l j).f1 + (rd_T35 l j).f2 := by unfold wrap64; omega
          have e4 : wrap64 ((rd_T35 l i).f1 + (rd_T35 l i).f2) = (rd_T35 l i).f1 + (rd_T35 l i).f2 := by unfold wrap64; omega
          have hord := scAt_le l i hp hbef j hj
          simp only [spec_ntGood.l1, ntMeet_eq, Option.bind_some, decide_eq_true_eq, e2, e3, e4, rdN_take l i j hj]
          constructor <;> intro h <;> (repeat' split) <;> first | rfl | (exfalso; omega)
    constructor
    · intro hP q hq
      have hok := hP.1
      unfold okN at hok
      by_cases hz : (i : Int) > 0
      · have e2 : wrap64 ((i : Int) - 1) = i - 1 := by unfold wrap64; omega
        have hb := hP.2.1 (by omega)
        unfold befN at hb
        refine Ev.step (fun k => ?_) (hin hP.1 hP.2.1 q (fun _ => hq) (fun hc => absurd hP.2.2 hc))
        simp only [spec_ntGood.l0, ntNote_eq, ntBefore_eq, Option.bind_some, e2]
        rw [if_pos (by omega), if_pos (by omega), if_pos (by omega), if_pos (decide_eq_true hok), if_pos hz, if_pos (by omega), if_pos (by omega), decide_eq_true hb]
        rfl
      · refine Ev.step (fun k => ?_) (hin hP.1 hP.2.1 q (fun _ => hq) (fun hc => absurd hP.2.2 hc))
        simp only [spec_ntGood.l0, ntNote_eq, Option.bind_some]
        rw [if_pos (by omega), if_pos (by omega), if_pos (by omega), if_pos (decide_eq_true hok), if_neg hz]
    · intro hP
      by_cases hok : okN (rd_T35 l i)
      · have hok' := hok
        unfold okN at hok'
        by_cases hz : (i : Int) > 0
        · have e2 : wrap64 ((i : Int) - 1) = i - 1 := by unfold wrap64; omega
          by_cases hb : befN (rd_T35 l ((i : Int) - 1)) (rd_T35 l i)
          · have hb' := hb
            unfold befN at hb'
            refine Ev.step (fun k => ?_) (hin hok (fun _ => hb) false (fun hc => absurd ⟨hok, fun _ => hb, hc⟩ hP) (fun _ => rfl))
            simp only [spec_ntGood.l0, ntNote_eq, ntBefore_eq, Option.bind_some, e2]
            rw [if_pos (by omega), if_pos (by omega), if_pos (by omega), if_pos (decide_eq_true hok'), if_pos hz, if_pos (by omega), if_pos (by omega), decide_eq_true hb']
            rfl
          · have hb' := hb
            unfold befN at hb'
            refine Ev.step (f := fun k => spec_ntGood.j1 k l (i : Int) l (l.length : Int) (i : Int) true ((rd_T35 l i).f0) ((rd_T35 l i).f1) ((rd_T35 l i).f2)) (fun k => ?_) (Ev.step (f := fun _ => some false) (fun k => rfl) (Ev.now _))
            simp only [spec_ntGood.l0, ntNote_eq, ntBefore_eq, Option.bind_some, e2]
            rw [if_pos (by omega), if_pos (by omega), if_pos (by omega), if_pos (decide_eq_true hok'), if_pos hz, if_pos (by omega), if_pos (by omega), decide_eq_false hb']
            rfl
        · refine Ev.step (fun k => ?_) (hin hok (fun h => absurd h (by omega)) false (fun hc => absurd ⟨hok, fun h => absurd h (by omega), hc⟩ hP) (fun _ => rfl))
          simp only [spec_ntGood.l0, ntNote_eq, Option.bind_some]
          rw [if_pos (by omega), if_pos (by omega), if_pos (by omega), if_pos (decide_eq_true hok'), if_neg hz]
      · have hok' := hok
        unfold okN at hok'
        refine Ev.step (f := fun k => spec_ntGood.j1 k l (i : Int) l (l.length : Int) (i : Int) true ((rd_T35 l i).f0) ((rd_T35 l i).f1) ((rd_T35 l i).f2)) (fun k => ?_) (Ev.step (f := fun _ => some false) (fun k => rfl) (Ev.now _))
        simp only [spec_ntGood.l0, ntNote_eq, Option.bind_some]
        rw [if_pos (by omega), if_pos (by omega), if_pos (by omega), if_neg (by simpa using hok')]

theorem spec_rising (l : List Int) (hl : l.length ≤ 1048576) : Ev (fun k => spec_l1Rising.f k l 24 96) (decide (∀ i, i < l.length → inAt l i)) := by
  unfold spec_l1Rising.f
  refine all_loop (fun k i => spec_l1Rising.l0 k l 24 96 l (l.length : Int) i) l.length (inAt l) true _ (by simp) (fun k => ?_) (fun k i hi => ?_)
  · simp only [spec_l1Rising.l0]
    rw [if_neg (by omega)]
  · have e1 : wrap64 ((i : Int) + 1) = i + 1 := by unfold wrap64; omega
    simp only [spec_l1Rising.l0, l1In_eq, Option.bind_some, decide_eq_true_eq, e1]
    unfold inAt
    by_cases hz : (i : Int) > 0
    · have e2 : wrap64 ((i : Int) - 1) = i - 1 := by unfold wrap64; omega
      simp only [e2]
      constructor <;> intro h <;> (repeat' split) <;> first | rfl | (exfalso; omega)
    · constructor <;> intro h <;> (repeat' split) <;> first | rfl | (exfalso; omega)
theorem spec_isIn (l : List Int) (p : Int) (hl : l.length ≤ 1048576) : Ev (fun k => spec_inGood.f k l p) (decide (isIn l p)) := by
  unfold spec_inGood.f
  refine ev_call (l1In_eq _ _ _) (ev_ite (fun h1 => Ev.bind (spec_rising l hl) (ev_ite (fun h2 => ev_call (l1In_eq _ _ _) (ev_now ?_)) (fun h2 => ev_now ?_))) (fun h1 => ev_now ?_))
  · have h1' := of_decide_eq_true h1
    have h2' := of_decide_eq_true h2
    refine decide_eq_decide.2 ⟨fun h => ⟨by omega, by omega, h.1, h.2, h2'⟩, fun h => ⟨h.2.2.1, h.2.2.2.1⟩⟩
  · exact (decide_eq_false (fun h => h2 (decide_eq_true h.2.2.2.2))).symm
  · exact (decide_eq_false (fun h => h1 (decide_eq_true (by have := h.1; have := h.2.1; omega)))).symm

theorem spec_asked (pi : List Int) (rp : Int) (l : List S35) (s : List S60) (h1 : pi.length ≤ 1048576) (h2 : l.length ≤ 1048576) (h3 : s.length ≤ 1048576) : Ev (fun k => spec_vfAsked.f k pi rp l s) (decide (isIn pi rp ∧ isSc l ∧ isSh s)) := by
  unfold spec_vfAsked.f spec_inAsked.f
  refine Ev.bind (a := decide (isIn pi rp ∧ isSc l)) (Ev.bind (spec_isIn pi rp h1) (ev_ite (fun c1 => Ev.bind (spec_isSc l h2) (ev_now ?_)) (fun c1 => ev_now ?_))) (ev_ite (fun c2 => Ev.bind (spec_isSh s h3) (ev_now ?_)) (fun c2 => ev_now ?_))
  · exact decide_eq_decide.2 ⟨fun c3 => ⟨of_decide_eq_true c1, c3⟩, fun c => c.2⟩
  · exact (decide_eq_false (fun c => c1 (decide_eq_true c.1))).symm
  · have c := of_decide_eq_true c2
    exact decide_eq_decide.2 ⟨fun c3 => ⟨c.1, c.2, c3⟩, fun c => c.2.2⟩
  · exact (decide_eq_false (fun c => c2 (decide_eq_true ⟨c.1, c.2.1⟩))).symm
end Go.Proofs.Ytdcchnfndhkfaaa.PureFnPassesPlays
