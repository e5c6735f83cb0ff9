/- The plain statement of FnPassesPlays: the law's function, over numbers and lists, answers true. No conditions beyond the arguments' own kinds. -/
import Derived.Test.YtdcchnfndhkfaaaSFnPassesPlays20
import Derived.Test.YtdcchnfndhkfaaaPureFnPassesPlaysg
namespace Go.Proofs.Ytdcchnfndhkfaaa.PureFnPassesPlays
open Go Go.RowKit Go.Proofs.Ytdcchnfndhkfaaa.PFnPassesPlays Go.Proofs.YtdcchnfndhkfaaaW.PrintWords Go.Proofs.YtdcchnfndhkfaaaW.PrintLast Go.Proofs.YtdcchnfndhkfaaaW.PrintMore Go.Proofs.Ytdcchnfndhkfaaa.Lib
set_option linter.unusedVariables false
set_option linter.unusedSimpArgs false
theorem impl_isInF (l : List Int) (p : Int) : Ev (fun k => impl_IsInstrument.f k l p) (decide (isIn l p)) := by
  by_cases h : l.length ≤ 1048576
  · exact impl_isIn l p h
  · have e : decide (isIn l p) = false := decide_eq_false (fun hp => h (by have := hp.2.1; omega))
    rw [e]
    unfold impl_IsInstrument.f
    refine ev_neg (by omega) (ev_pos (by omega) (Ev.step (f := fun _ => some false) (fun k => ?_) (Ev.now _)))
    simp only [impl_IsInstrument.j0]
    rw [if_pos trivial]
theorem spec_isInF (l : List Int) (p : Int) : Ev (fun k => spec_inGood.f k l p) (decide (isIn l p)) := by
  by_cases h : l.length ≤ 1048576
  · exact spec_isIn l p h
  · unfold spec_inGood.f
    refine ev_call (l1In_eq _ _ _) (ev_ite (fun h1 => absurd (of_decide_eq_true h1) (by omega)) (fun h1 => ev_now ?_))
    exact (decide_eq_false (fun hp => h (by have := hp.2.1; omega))).symm
theorem impl_canF (pi : List Int) (rp : Int) (l : List S35) (s : List S60) (h2 : l.length ≤ 1048576) (h3 : s.length ≤ 1048576) : Ev (fun k => impl_canMatch.f k pi rp l s) (decide (isIn pi rp ∧ isSc l ∧ isSh s)) := by
  by_cases h : pi.length ≤ 1048576
  · exact impl_can pi rp l s h h2 h3
  · have e : decide (isIn pi rp ∧ isSc l ∧ isSh s) = false := decide_eq_false (fun hp => h (by have := hp.1.2.1; omega))
    rw [e]
    unfold impl_canMatch.f
    exact Ev.bind (impl_isInF pi rp) (ev_ite (fun c1 => absurd (of_decide_eq_true c1) (fun hp => h (by have := hp.2.1; omega))) (fun c1 => Ev.now _))
theorem spec_askedF (pi : List Int) (rp : Int) (l : List S35) (s : List S60) (h2 : l.length ≤ 1048576) (h3 : s.length ≤ 1048576) : Ev (fun k => spec_vfAsked.f k pi rp l s) (decide (isIn pi rp ∧ isSc l ∧ isSh s)) := by
  by_cases h : pi.length ≤ 1048576
  · exact spec_asked pi rp l s h h2 h3
  · have e : decide (isIn pi rp ∧ isSc l ∧ isSh s) = false := decide_eq_false (fun hp => h (by have := hp.1.2.1; omega))
    rw [e]
    unfold spec_vfAsked.f spec_inAsked.f
    refine Ev.bind (a := false) (Ev.bind (spec_isInF pi rp) (ev_ite (fun c1 => absurd (of_decide_eq_true c1) (fun hp => h (by have := hp.2.1; omega))) (fun c1 => Ev.now _))) (ev_neg Bool.noConfusion (Ev.now _))
theorem pv_both (pi : List Int) (rp : Int) (l : List S35) (s : List S60) (d b c most : Int) (h2 : l.length ≤ 1048576) (h3 : s.length ≤ 1048576) :
    (∃ p : List S37, ∃ V v : Bool, Ev (fun k => spec_PassesVerifier.f k pi rp l s d b c most) (v, true) ∧ Ev (fun k => impl_PassesVerifier.f k pi rp l s d b c most) (v, true) ∧ Ev (fun k => impl_PlaysAsPromised.f k pi rp l s d b c most) (V, true) ∧ Ev (fun k => impl_PlayedBy.f k pi rp s d b c) (p, true) ∧
      (V = true ↔ kept d most l p) ∧ (v = true → kept d most l p) ∧ isSc l ∧ p.length ≤ 60 ∧ actOk d b c ∧ (0 ≤ most ∧ most ≤ 50)) ∨
    (Ev (fun k => spec_PassesVerifier.f k pi rp l s d b c most) (false, false) ∧ Ev (fun k => impl_PassesVerifier.f k pi rp l s d b c most) (false, false) ∧ Ev (fun k => impl_PlaysAsPromised.f k pi rp l s d b c most) (false, false)) := by
  have sa := spec_askedF pi rp l s h2 h3
  have im := impl_canF pi rp l s h2 h3
  have mF : Ev (fun k => impl_PlaysAsPromised.j0 k l s most true pi rp d b c) (false, false) := by
    refine Ev.step (f := fun _ => some (false, false)) (fun k => ?_) (Ev.now _)
    simp only [impl_PlaysAsPromised.j0]
    rw [if_pos trivial]
  have no : ∀ g : Nat → Option (List (List Int) × Bool), Ev g ([], false) → Ev (fun k => (g k).bind fun q => if q.2 = true then some (((q.1.length : Int) == 0), q.2) else some (false, q.2)) (false, false) := fun g h => Ev.bind h (ev_neg (by simp) (Ev.now _))
  unfold spec_PassesVerifier.f impl_PassesVerifier.f impl_FaultsOf.f spec_vfAll.f impl_PlaysAsPromised.f
  by_cases hg : isIn pi rp ∧ isSc l ∧ isSh s
  · have h1 : pi.length ≤ 1048576 := by have := hg.1.2.1; omega
    by_cases ha : actOk d b c
    · by_cases hm : 0 ≤ most ∧ most ≤ 50
      · obtain ⟨r, p, r1, r2, r3, r4, r5, r6⟩ := faults_kept pi rp l s d b c most h1 hg.1 hg.2.1 hg.2.2 ha hm
        obtain ⟨V, hV⟩ : ∃ V : Bool, V = true ↔ kept d most l p.1 := by
          by_cases hc : kept d most l p.1
          · exact ⟨true, fun _ => hc, fun _ => rfl⟩
          · exact ⟨false, fun h => absurd h (by simp), fun h => absurd h hc⟩
        refine .inl ⟨p.1, V, ((r.length : Int) == 0), Ev.bind (a := true) (Ev.bind sa (ev_pos (decide_eq_true hg) (ev_call (spec_act d b c) (ev_pos (decide_eq_true ha) (ev_call (spec_most most) (ev_now (decide_eq_true hm))))))) (ev_pos rfl (Ev.bind r1 (Ev.now _))), Ev.bind (Ev.bind im (ev_pos (decide_eq_true hg) (ev_call (impl_act d b c) (ev_pos (decide_eq_true ha) (ev_call (impl_most most) (ev_pos (decide_eq_true hm) (Ev.bind r2 (Ev.now _)))))))) (ev_pos rfl (Ev.now _)), Ev.bind im (ev_pos (decide_eq_true hg) (ev_call (impl_act d b c) (ev_pos (decide_eq_true ha) (ev_call (impl_most most) ?_)))), ?_, hV, fun h => r6 (by have := beq_iff_eq.1 h; omega), hg.2.1, r5, ha, hm⟩
        · rw [decide_eq_true hm]
          refine Ev.step (fun k => by simp only [impl_PlaysAsPromised.j0]; rw [if_neg (by simp)]) (Ev.bind r4 ?_)
          by_cases he : p.1.length = l.length
          · refine ev_pos (by omega) (Ev.bind (impl_times l d b c most h2) (ev_pos (by omega) (ev_pos (by omega) ?_)))
            rw [Int.toNat_natCast]
            exact pa_l0 l p.1 d most h2 r5 he V hV 0 _ (Nat.zero_le _) ⟨givenTo.none _ _ _, fun j' h => absurd h (Nat.not_lt_zero _)⟩
          · refine ev_neg (by omega) (ev_now ?_)
            congr 1
            cases hc : V with
            | false => rfl
            | true => exact absurd (hV.1 hc).1 he
        · unfold impl_PlayedBy.f impl_canBePlayed.f
          exact Ev.bind (a := true) (Ev.bind (impl_isInF pi rp) (ev_pos (decide_eq_true hg.1) (Ev.bind (impl_isSh s h3) (ev_pos (decide_eq_true hg.2.2) (ev_call (impl_act d b c) (ev_now (decide_eq_true ha))))))) (ev_pos rfl (Ev.bind r4 (Ev.now _)))
      · exact .inr ⟨Ev.bind (a := false) (Ev.bind sa (ev_pos (decide_eq_true hg) (ev_call (spec_act d b c) (ev_pos (decide_eq_true ha) (ev_call (spec_most most) (ev_now (decide_eq_false hm))))))) (ev_neg (by simp) (Ev.now _)), no _ (Ev.bind im (ev_pos (decide_eq_true hg) (ev_call (impl_act d b c) (ev_pos (decide_eq_true ha) (ev_call (impl_most most) (ev_neg (by simpa using hm) (Ev.now _))))))), Ev.bind im (ev_pos (decide_eq_true hg) (ev_call (impl_act d b c) (ev_pos (decide_eq_true ha) (ev_call (impl_most most) (by rw [decide_eq_false hm]; exact mF)))))⟩
    · exact .inr ⟨Ev.bind (a := false) (Ev.bind sa (ev_pos (decide_eq_true hg) (ev_call (spec_act d b c) (ev_neg (by simpa using ha) (Ev.now _))))) (ev_neg (by simp) (Ev.now _)), no _ (Ev.bind im (ev_pos (decide_eq_true hg) (ev_call (impl_act d b c) (ev_neg (by simpa using ha) (Ev.now _))))), Ev.bind im (ev_pos (decide_eq_true hg) (ev_call (impl_act d b c) (ev_neg (by simpa using ha) mF)))⟩
  · exact .inr ⟨Ev.bind (a := false) (Ev.bind sa (ev_neg (by simpa using hg) (Ev.now _))) (ev_neg (by simp) (Ev.now _)), no _ (Ev.bind im (ev_neg (by simpa using hg) (Ev.now _))), Ev.bind im (ev_neg (by simpa using hg) mF)⟩
theorem rdN_t (l : List S35) (i j : Nat) (h : j < i) : rd_T35 (l.take i) (j : Int) = rd_T35 l (j : Int) := by
  unfold rd_T35
  rw [Int.toNat_natCast, List.getD_eq_getElem?_getD, List.getD_eq_getElem?_getD, List.getElem?_take_of_lt h]
theorem cnt_lei (f : Nat → Int) (v : Int) : ∀ n, cnt f n v ≤ n := by
  intro n
  induction n with
  | zero => exact Nat.le_refl _
  | succ n ihn => show cnt f n v + (if f n = v then 1 else 0) ≤ n + 1; split <;> omega
theorem law_l2a (l : List S35) (p : List S37) (d b c most s e v F : Int) (i q : Nat) (hq : q < p.length) (hp : p.length ≤ 60) (hs0 : 0 ≤ s) (hs1 : s ≤ 16777216) (hd0 : 0 ≤ d) (hd1 : d ≤ 1000) (hm : 0 ≤ most ∧ most ≤ 50)
    (hF : F = (rd_T37 p (q : Int)).f1) (hv : (rd_T37 p (q : Int)).f0 = v) (hlo : 2 * s + d - most ≤ F) (hhi : F ≤ 2 * s + d + most) (hi : i < 30)
    (ih : Ev (fun k => laws_FnPassesPlays.l0 k l most p l (l.length : Int) ((i + 1 : Nat) : Int) d b c) true) :
    Ev (fun k => laws_FnPassesPlays.l2 k l most p 0 false l (l.length : Int) (i : Int) p (p.length : Int) (q : Int) d b c v s e) true := by
  have e1 : wrap64 ((i : Int) + 1) = ((i + 1 : Nat) : Int) := by unfold wrap64; omega
  have w1 : wrap64 (2 * s) = 2 * s := by unfold wrap64; omega
  have w7 : wrap64 (F - 2 * s) = F - 2 * s := by unfold wrap64; omega
  have w8 : wrap64 (F - 2 * s - d) = F - 2 * s - d := by unfold wrap64; omega
  have w9 : wrap64 (-most) = -most := by unfold wrap64; omega
  refine Ev.step (fun k => ?_) ih
  simp only [laws_FnPassesPlays.l2]
  rw [← hF, w1, w7, w8, w9, e1, if_pos (by omega), if_pos (by omega), if_pos (by omega), if_pos hv, if_pos trivial, if_pos (by omega), if_pos (by omega)]
theorem law_l2b (l : List S35) (p : List S37) (d b c most s e v : Int) (i n q : Nat) (hq : q < p.length) (hp : p.length ≤ 60) (hn : cnt (pitchP p) (q + 1) v ≤ n) (hn2 : n ≤ 60)
    (g : Ev (fun k => laws_FnPassesPlays.l2 k l most p ((n : Int) - ((cnt (pitchP p) (q + 1) v : Nat) : Int)) false l (l.length : Int) (i : Int) p (p.length : Int) ((q + 1 : Nat) : Int) d b c v s e) true) :
    Ev (fun k => laws_FnPassesPlays.l2 k l most p ((n : Int) - ((cnt (pitchP p) q v : Nat) : Int)) false l (l.length : Int) (i : Int) p (p.length : Int) (q : Int) d b c v s e) true := by
  have eq1 : wrap64 ((q : Int) + 1) = ((q + 1 : Nat) : Int) := by unfold wrap64; omega
  by_cases cq : pitchP p q = v
  · have c1 : cnt (pitchP p) (q + 1) v = cnt (pitchP p) q v + 1 := by show cnt (pitchP p) q v + (if pitchP p q = v then 1 else 0) = _; rw [if_pos cq]
    rw [c1] at g hn
    have w : wrap64 ((n : Int) - ((cnt (pitchP p) q v : Nat) : Int) - 1) = (n : Int) - ((cnt (pitchP p) q v + 1 : Nat) : Int) := by unfold wrap64; omega
    refine Ev.step (fun k => ?_) g
    simp only [laws_FnPassesPlays.l2]
    rw [eq1, w, if_pos (by omega), if_pos (by omega), if_pos (by omega), if_pos (show (rd_T37 p (q : Int)).f0 = v from cq), if_neg (by omega)]
  · have c1 : cnt (pitchP p) (q + 1) v = cnt (pitchP p) q v := by show cnt (pitchP p) q v + (if pitchP p q = v then 1 else 0) = _; rw [if_neg cq]; rfl
    rw [c1] at g
    refine Ev.step (fun k => ?_) g
    simp only [laws_FnPassesPlays.l2]
    rw [eq1, if_pos (by omega), if_pos (by omega), if_pos (by omega), if_neg (show ¬ (rd_T37 p (q : Int)).f0 = v from cq)]
theorem law_l2 (l : List S35) (p : List S37) (d b c most s e v : Int) (i n q0 : Nat) (hq0 : q0 < p.length) (hp : p.length ≤ 60) (hn : n = cnt (pitchP p) q0 v)
    (g : Ev (fun k => laws_FnPassesPlays.l2 k l most p 0 false l (l.length : Int) (i : Int) p (p.length : Int) (q0 : Int) d b c v s e) true) :
    Ev (fun k => laws_FnPassesPlays.l2 k l most p (n : Int) false l (l.length : Int) (i : Int) p (p.length : Int) 0 d b c v s e) true := by
  have hB := cnt_lei (pitchP p) v q0
  have key := count_up q0 (fun _ (_ : Unit) => True) (fun q _ => Ev (fun k => laws_FnPassesPlays.l2 k l most p ((n : Int) - ((cnt (pitchP p) q v : Nat) : Int)) false l (l.length : Int) (i : Int) p (p.length : Int) (q : Int) d b c v s e) true) (fun _ _ => ?_) (fun q _ hq _ ihq => ?_) 0 () (Nat.zero_le _) trivial
  · have e0 : ((cnt (pitchP p) 0 v : Nat) : Int) = 0 := rfl
    rw [e0, Int.sub_zero] at key
    exact key
  · rw [hn, Int.sub_self]
    exact g
  · exact law_l2b l p d b c most s e v i n q (by omega) hp (by rw [hn]; exact cnt_le _ _ (by omega)) (by omega) (ihq () trivial)
theorem law_l1 (l : List S35) (p : List S37) (d b c most s e v : Int) (i : Nat) (hi : i < l.length) (hl : l.length ≤ 30)
    (g : Ev (fun k => laws_FnPassesPlays.l2 k l most p ((cnt (pitchN l) i v : Nat) : Int) false l (l.length : Int) (i : Int) p (p.length : Int) 0 d b c v s e) true) :
    Ev (fun k => laws_FnPassesPlays.l1 k l most p 0 false l (l.length : Int) (i : Int) (l.take i) (i : Int) 0 d b c v s e) true := by
  have hT : (l.take i).length = i := by rw [List.length_take]; omega
  have key := count_up i (fun _ (_ : Unit) => True) (fun q _ => Ev (fun k => laws_FnPassesPlays.l1 k l most p ((cnt (pitchN l) q v : Nat) : Int) false l (l.length : Int) (i : Int) (l.take i) (i : Int) (q : Int) d b c v s e) true) (fun _ _ => ?_) (fun q _ hq _ ihq => ?_) 0 () (Nat.zero_le _) trivial
  · exact key
  · refine Ev.step (fun k => ?_) g
    simp only [laws_FnPassesPlays.l1]
    rw [if_neg (by omega)]
  · have eq1 : wrap64 ((q : Int) + 1) = ((q + 1 : Nat) : Int) := by unfold wrap64; omega
    have hcq := cnt_lei (pitchN l) v q
    have g := ihq () trivial
    by_cases cq : pitchN l q = v
    · have c1 : cnt (pitchN l) (q + 1) v = cnt (pitchN l) q v + 1 := by show cnt (pitchN l) q v + (if pitchN l q = v then 1 else 0) = _; rw [if_pos cq]
      rw [c1] at g
      have w : wrap64 (((cnt (pitchN l) q v : Nat) : Int) + 1) = ((cnt (pitchN l) q v + 1 : Nat) : Int) := by unfold wrap64; omega
      refine Ev.step (fun k => ?_) g
      simp only [laws_FnPassesPlays.l1]
      rw [eq1, w, hT, rdN_t l i q hq, if_pos (by omega), if_pos (by omega), if_pos (by omega), if_pos (show (rd_T35 l (q : Int)).f0 = v from cq)]
    · have c1 : cnt (pitchN l) (q + 1) v = cnt (pitchN l) q v := by show cnt (pitchN l) q v + (if pitchN l q = v then 1 else 0) = _; rw [if_neg cq]; rfl
      rw [c1] at g
      refine Ev.step (fun k => ?_) g
      simp only [laws_FnPassesPlays.l1]
      rw [eq1, hT, rdN_t l i q hq, if_pos (by omega), if_pos (by omega), if_pos (by omega), if_neg (show ¬ (rd_T35 l (q : Int)).f0 = v from cq)]
theorem law_l0 (l : List S35) (p : List S37) (d b c most : Int) (hk : kept d most l p) (hl : isSc l) (hp : p.length ≤ 60) (ha : actOk d b c) (hm : 0 ≤ most ∧ most ≤ 50) :
    Ev (fun k => laws_FnPassesPlays.l0 k l most p l (l.length : Int) 0 d b c) true := by
  have h30 : l.length ≤ 30 := hl.1
  refine count_up l.length (fun _ (_ : Unit) => True) (fun i _ => Ev (fun k => laws_FnPassesPlays.l0 k l most p l (l.length : Int) (i : Int) d b c) true) (fun _ _ => ?_) (fun i _ hi _ ih => ?_) 0 () (Nat.zero_le _) trivial
  · refine Ev.step (f := fun _ => some true) (fun k => ?_) (Ev.now _)
    simp only [laws_FnPassesPlays.l0]
    rw [if_neg (by omega)]
  · obtain ⟨q0, hq0, hM, hW⟩ := hk.2 i hi
    have hx := (hl.2 i hi).1
    unfold okN at hx
    unfold actOk at ha
    have hT : (l.take i).length = i := by rw [List.length_take]; omega
    have g := law_l1 l p d b c most (rd_T35 l (i : Int)).f1 (rd_T35 l (i : Int)).f2 (rd_T35 l (i : Int)).f0 i hi h30 (law_l2 l p d b c most _ _ _ i _ q0 hq0 hp (hM.2.trans (by rw [← hM.1]; rfl)) (law_l2a l p d b c most _ _ _ (rd_T37 p (q0 : Int)).f1 i q0 hq0 hp (by omega) (by omega) (by omega) (by omega) hm rfl hM.1.symm ?_ ?_ (by omega) (ih () trivial)))
    · refine Ev.step (fun k => ?_) g
      simp only [laws_FnPassesPlays.l0]
      rw [if_pos (by omega), if_pos (by omega), if_pos (by omega), if_pos (by omega), Option.bind_some, Int.toNat_natCast, hT]
    · have h := hW.1
      unfold loOf at h
      have w1 : wrap64 (2 * (rd_T35 l (i : Int)).f1) = 2 * (rd_T35 l (i : Int)).f1 := by unfold wrap64; omega
      rw [w1] at h
      have w4 : wrap64 (2 * (rd_T35 l (i : Int)).f1 + d) = 2 * (rd_T35 l (i : Int)).f1 + d := by unfold wrap64; omega
      rw [w4] at h
      have w5 : wrap64 (2 * (rd_T35 l (i : Int)).f1 + d - most) = 2 * (rd_T35 l (i : Int)).f1 + d - most := by unfold wrap64; omega
      rw [w5] at h
      exact h
    · have h := hW.2
      unfold hiOf at h
      have w1 : wrap64 (2 * (rd_T35 l (i : Int)).f1) = 2 * (rd_T35 l (i : Int)).f1 := by unfold wrap64; omega
      rw [w1] at h
      have w4 : wrap64 (2 * (rd_T35 l (i : Int)).f1 + d) = 2 * (rd_T35 l (i : Int)).f1 + d := by unfold wrap64; omega
      rw [w4] at h
      have w5 : wrap64 (2 * (rd_T35 l (i : Int)).f1 + d + most) = 2 * (rd_T35 l (i : Int)).f1 + d + most := by unfold wrap64; omega
      rw [w5] at h
      exact h
theorem nee (b : Bool) : ¬ (b != b) = true := by cases b <;> decide
theorem FnPassesPlays (l0_0 : List (Int)) (a0_1 : Int) (l1 : List (S35)) (l2 : List (S60)) (a3_0 a3_1 a3_2 a4 : Int) (w0_0 : (l0_0.length ≤ maxLen ∧ ∀ y1 ∈ l0_0, (Lit.int .i64 y1).wf = true)) (w0_1 : (Lit.int .i64 a0_1).wf = true) (w1 : (l1.length ≤ maxLen ∧ ∀ y1 ∈ l1, ((Lit.int .i64 y1.f0).wf = true ∧ (Lit.int .i64 y1.f1).wf = true ∧ (Lit.int .i64 y1.f2).wf = true))) (w2 : (l2.length ≤ maxLen ∧ ∀ y1 ∈ l2, ((Lit.int .i64 y1.f0).wf = true ∧ (Lit.int .i64 y1.f1).wf = true ∧ (Lit.int .i64 y1.f2).wf = true))) (w3_0 : (Lit.int .i64 a3_0).wf = true) (w3_1 : (Lit.int .i64 a3_1).wf = true) (w3_2 : (Lit.int .i64 a3_2).wf = true) (w4 : (Lit.int .i64 a4).wf = true) :
    ∃ k, laws_FnPassesPlays.f k l0_0 a0_1 l1 l2 a3_0 a3_1 a3_2 a4 = some true := by
  suffices h : Ev (fun k => laws_FnPassesPlays.f k l0_0 a0_1 l1 l2 a3_0 a3_1 a3_2 a4) true by
    obtain ⟨k, hk⟩ := h
    exact ⟨k, hk k (Nat.le_refl _)⟩
  have big : Ev (fun k => laws_FnPassesPlays.j0 k l1 l2 a4 true l0_0 a0_1 a3_0 a3_1 a3_2) true := by
    refine Ev.step (f := fun _ => some true) (fun k => ?_) (Ev.now _)
    simp only [laws_FnPassesPlays.j0]
    rw [if_pos trivial]
  unfold laws_FnPassesPlays.f
  by_cases c1 : (l1.length : Int) > 65536
  · simp only [if_pos c1]
    exact big
  simp only [if_neg c1]
  by_cases c2 : (l2.length : Int) > 65536
  · rw [decide_eq_true c2]
    exact big
  rw [decide_eq_false c2]
  rcases pv_both l0_0 a0_1 l1 l2 a3_0 a3_1 a3_2 a4 (by omega) (by omega) with ⟨p, V, v, s1, i1, p1, y1, hV, hk, hs, hp, ha, hm⟩ | ⟨s1, i1, p1⟩
  · refine Ev.step (fun k => by simp only [laws_FnPassesPlays.j0]; rw [if_neg (by simp)]) (Ev.bind i1 (Ev.bind s1 (Ev.bind p1 (ev_neg (nee true) (ev_neg (nee v) (ev_neg (nee true) ?_))))))
    cases v with
    | false =>
      refine ev_neg (by simp) (Ev.step (f := fun _ => some true) (fun k => ?_) (Ev.now _))
      simp only [laws_FnPassesPlays.j1]
      rw [if_neg (by simp), if_neg (by simp)]
    | true =>
      have kp := hk rfl
      have eV : V = true := hV.2 kp
      subst eV
      refine ev_pos rfl (Ev.step (fun k => by simp only [laws_FnPassesPlays.j1]; rw [if_neg (by simp), if_pos trivial]) (Ev.bind y1 (ev_pos rfl ?_)))
      have e0 : ((p.length : Int) != (l1.length : Int)) = false := by rw [kp.1]; simp
      rw [e0]
      refine Ev.step (fun k => ?_) (law_l0 l1 p a3_0 a3_1 a3_2 a4 kp hs hp ha hm)
      simp only [laws_FnPassesPlays.j2]
      rw [if_neg (by simp)]
  · refine Ev.step (fun k => by simp only [laws_FnPassesPlays.j0]; rw [if_neg (by simp)]) (Ev.bind i1 (Ev.bind s1 (Ev.bind p1 (ev_neg (nee false) (ev_neg (nee false) (ev_neg (nee false) ?_))))))
    refine ev_neg Bool.noConfusion ?_
    refine Ev.step (f := fun _ => some true) (fun k => ?_) (Ev.now _)
    simp only [laws_FnPassesPlays.j1]
    rw [if_neg (by simp), if_neg (by simp)]
end Go.Proofs.Ytdcchnfndhkfaaa.PureFnPassesPlays
