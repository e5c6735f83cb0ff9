/- The plain statement of FnPassesPlays (lemmas): the law's function, over numbers and lists, answers true. No conditions beyond the arguments' own kinds. -/
import Derived.Test.YtdcchnfndhkfaaaSFnPassesPlays20
import Derived.Test.YtdcchnfndhkfaaaPureFnPassesPlaysf
namespace Go.Proofs.Ytdcchnfndhkfaaa.PureFnPassesPlays
open Go Go.RowKit Go.Proofs.Ytdcchnfndhkfaaa.PFnPassesPlays Go.Proofs.YtdcchnfndhkfaaaW.PrintWords Go.Proofs.YtdcchnfndhkfaaaW.PrintLast Go.Proofs.YtdcchnfndhkfaaaW.PrintMore Go.Proofs.Ytdcchnfndhkfaaa.Lib
set_option linter.unusedVariables false
set_option linter.unusedSimpArgs false
theorem in_inj {pi : List Int} {rp : Int} (h : isIn pi rp) {a b : Int} (a0 : 0 ≤ a) (a1 : a < pi.length) (b0 : 0 ≤ b) (b1 : b < pi.length) (e : rd pi a = rd pi b) : a = b := by
  have up : ∀ d i : Nat, i + d + 1 < pi.length → rd pi (i : Int) < rd pi ((i + d + 1 : Nat) : Int) := by
    intro d
    induction d with
    | zero =>
      intro i hi
      have h1 := (h.2.2.2.2 (i + 0 + 1) hi).2.2 (by omega)
      rw [show (((i + 0 + 1 : Nat) : Int) - 1) = (i : Int) by omega] at h1
      exact h1
    | succ d ih =>
      intro i hi
      have h0 := ih i (by omega)
      have h1 := (h.2.2.2.2 (i + (d + 1) + 1) hi).2.2 (by omega)
      rw [show (((i + (d + 1) + 1 : Nat) : Int) - 1) = ((i + d + 1 : Nat) : Int) by omega] at h1
      omega
  obtain ⟨i, rfl⟩ : ∃ i : Nat, a = (i : Int) := ⟨a.toNat, by omega⟩
  obtain ⟨j, rfl⟩ : ∃ j : Nat, b = (j : Int) := ⟨b.toNat, by omega⟩
  rcases Nat.lt_trichotomy i j with c | c | c
  · have := up (j - i - 1) i (by omega)
    rw [show i + (j - i - 1) + 1 = j by omega] at this
    omega
  · rw [c]
  · have := up (i - j - 1) j (by omega)
    rw [show j + (i - j - 1) + 1 = i by omega] at this
    omega
theorem cnt_congr {F f : Nat → Int} {V t : Int} : ∀ n : Nat, (∀ q, q < n → (F q = V ↔ f q = t)) → cnt F n V = cnt f n t
  | 0, _ => rfl
  | n + 1, h => by
    show cnt F n V + _ = cnt f n t + _
    rw [cnt_congr n (fun q hq => h q (by omega))]
    by_cases c : f n = t
    · rw [if_pos c, if_pos ((h n (Nat.lt_succ_self n)).2 c)]
    · rw [if_neg c, if_neg (fun e => c ((h n (Nat.lt_succ_self n)).1 e))]
theorem inj_le {n m : Nat} (R : Nat → Nat → Prop) (hl : ∀ j j' i, R j i → R j' i → j = j') (ht : ∀ j, j < n → ∃ i, i < m ∧ R j i) : n ≤ m := by
  have key : ∀ k, k ≤ n → ∃ l : List Nat, l.length = k ∧ l.Nodup ∧ ∀ x ∈ l, x < m ∧ ∃ j, j < k ∧ R j x := by
    intro k
    induction k with
    | zero => intro _; exact ⟨[], rfl, List.nodup_nil, fun x h => by cases h⟩
    | succ k ih =>
      intro hk
      obtain ⟨l, h1, h2, h3⟩ := ih (by omega)
      obtain ⟨x, hx, hR⟩ := ht k (by omega)
      refine ⟨x :: l, by simp [h1], List.nodup_cons.2 ⟨fun hmem => ?_, h2⟩, fun y hy => ?_⟩
      · obtain ⟨_, j, hj, hRj⟩ := h3 x hmem
        have := hl _ _ _ hR hRj
        omega
      · rcases List.mem_cons.1 hy with rfl | hy
        · exact ⟨hx, k, by omega, hR⟩
        · obtain ⟨k1, j, k2, k3⟩ := h3 y hy
          exact ⟨k1, j, by omega, k3⟩
  obtain ⟨l, h1, h2, h3⟩ := key n (Nat.le_refl _)
  have := nodup_le m l h2 (fun x hx => (h3 x hx).1)
  omega
theorem parts_nil (e : List (List Int)) (most : Int) : ∀ n, (parts e most n).length = 0 → ∀ j, j < n → partAt e most j = []
  | 0, _, j, h => absurd h (Nat.not_lt_zero _)
  | n + 1, h, j, hj => by
    unfold parts at h
    rw [List.length_append] at h
    by_cases c : j = n
    · subst c
      exact List.eq_nil_of_length_eq_zero (by omega)
    · exact parts_nil e most n (by omega) j (by omega)
/-- The faults, what is played; without faults the score is kept. -/
theorem faults_kept (pi : List Int) (rp : Int) (l : List S35) (s : List S60) (d b c most : Int) (h1 : pi.length ≤ 1048576) (hi : isIn pi rp) (hl : isSc l) (hs : isSh s) (ha : actOk d b c) (hm : 0 ≤ most ∧ most ≤ 50) :
    ∃ (r : List (List Int)) (p : List S37 × List Int), Ev (fun k => spec_vfFaults.f k pi rp l s d b c most) r ∧ Ev (fun k => impl_faultsOf.f k pi rp l s d b c most) r ∧ Ev (fun k => spec_pyAll.f k pi rp s d b c) p ∧ Ev (fun k => impl_spoken.f k pi rp s d b c) p ∧ p.1.length ≤ 60 ∧ (r.length = 0 → kept d most l p.1) := by
  have h2 : l.length ≤ 30 := hl.1
  have h3 : s.length ≤ 60 := hs.1
  obtain ⟨f, m, g1, g2, g3, g4, g5, g6, g7⟩ := matched_mt pi rp l s h1 (by omega) hs
  obtain ⟨p, q1, q2, q3, q4, q5⟩ := py_both pi rp s d b c hi hs
  have he := spec_errs l s m.1 (by omega) g3 g4.1
  have hpl := parts_len (errs l s m.1 m.1.length) most m.1.length
  have hel := errs_len l s m.1 m.1.length
  have hx := g4.2.1
  have hp := q4.1
  have hsf := sort_faults (errs l s m.1 m.1.length) most g4.2.2.1 q4.2.1
  rw [hel] at hsf
  have hlen := (all_perm (errs l s m.1 m.1.length) most m.2 p.2).length_eq
  rw [hel] at hlen
  have hr1 : (vff.rows 1 m.2).length = m.2.length := List.length_map _
  have hr4 : (vff.rows 4 p.2).length = p.2.length := List.length_map _
  refine ⟨vff.faults (errs l s m.1 m.1.length) m.2 p.2 most, p, ?_, ?_, q1, q2, q3, fun h0 => ?_⟩
  · unfold spec_vfFaults.f spec_vfErrors.f
    refine Ev.bind g1 (Ev.bind q1 (Ev.bind (Ev.bind g1 he) (ev_pos ⟨?_, ?_, ?_, errs_two _ _ _ _⟩ (Ev.now _))))
    · rw [hel]; omega
    · omega
    · omega
  · unfold impl_faultsOf.f
    refine Ev.bind g2 (impl_l0 l s m.1 m.2 most rp d b c pi (by omega) g3 g4.1 _ (impl_l1 s _ m.2 rp d b c pi p.2 _ (by omega) (by omega) p q2 ?_))
    rw [← hsf]
    refine impl_l2 _ p.2 ?_ (by omega) (fun x hx' => ?_)
    · rw [List.length_append, hr1]; omega
    · rcases List.mem_append.1 hx' with h | h
      · exact parts_two _ _ _ x h
      · obtain ⟨i, _, rfl⟩ := List.mem_map.1 h
        exact Nat.le_refl _
  · rw [← hlen, List.length_append, List.length_append, hr1, hr4] at h0
    have hex : m.2 = [] := List.eq_nil_of_length_eq_zero (by omega)
    have hsi : p.2 = [] := List.eq_nil_of_length_eq_zero (by omega)
    have hpn := parts_nil _ most _ (show (parts (errs l s m.1 m.1.length) most m.1.length).length = 0 by omega)
    have hp1 := q5 hsi
    have hps : p.1.length = s.length := by rw [hp1, List.length_map]
    -- each note has its hole, near enough
    have note : ∀ j, j < l.length → ∃ i, i < s.length ∧ Mt f (trackH s) j i ∧ rd m.1 (j : Int) = (i : Int) ∧ ¬ vff.absV (rd (errAt l s m.1 j) 0) > most := by
      intro j hj
      have h := hpn j (by omega)
      rw [part_eq l s m.1 most (by omega)] at h
      rcases g6 j hj with ⟨a1, _⟩ | ⟨i, a1, a2, a3⟩
      · rw [if_pos (by omega)] at h
        cases h
      · rw [if_neg (by omega)] at h
        refine ⟨i, a1, a3, a2, fun hc => ?_⟩
        rw [if_pos hc] at h
        cases h
    have f0 : ∀ j, j < l.length → 0 ≤ f j ∧ f j < pi.length ∧ rd pi (f j) = pitchN l j := by
      intro j hj
      obtain ⟨i, a1, a2, _⟩ := note j hj
      have hok := isSh_get hs a1
      have er : trackH s i = s[i].f0 := by unfold trackH rd_T60; rw [rd_get a1]
      unfold okH at hok
      have e0 : 0 ≤ f j := by rw [a2.1, er]; omega
      obtain ⟨b1, b2⟩ := (g5 j).1 e0
      exact ⟨e0, b1, b2⟩
    have t0 : ∀ i, i < s.length → 0 ≤ trackH s i ∧ trackH s i < pi.length := by
      intro i hi'
      obtain ⟨j, hj, hM⟩ := g7 hex i hi'
      have := f0 j hj
      rw [hM.1] at this
      exact ⟨this.1, this.2.1⟩
    have hls : l.length = s.length := by
      refine Nat.le_antisymm (inj_le (fun j i => Mt f (trackH s) j i) (fun j j' i a b => Mt_left a b) (fun j hj => ?_)) (inj_le (fun i j => Mt f (trackH s) j i) (fun i i' j a b => Mt_right a b) (fun i hi' => g7 hex i hi'))
      obtain ⟨i, a1, a2, _⟩ := note j hj
      exact ⟨i, a1, a2⟩
    have er : ∀ i (h : i < s.length), rd_T60 s (i : Int) = s[i] := fun i h => by unfold rd_T60; rw [rd_get h]
    have pP : ∀ i, i < s.length → rd_T37 p.1 (i : Int) = sp pi d b (rd_T60 s (i : Int)) := by
      intro i hi'
      rw [er i hi']
      unfold rd_T37
      rw [Int.toNat_natCast, List.getD_eq_getElem?_getD, hp1, List.getElem?_map, List.getElem?_eq_getElem hi']
      rfl
    have pPt : ∀ i, i < s.length → pitchP p.1 i = rd pi (trackH s i) := by
      intro i hi'
      unfold pitchP trackH
      rw [pP i hi']
      rfl
    refine ⟨by omega, fun j hj => ?_⟩
    obtain ⟨i, a1, a2, a3, a4⟩ := note j hj
    refine ⟨i, by omega, ⟨?_, ?_⟩, ?_⟩
    · rw [pPt i a1, ← a2.1]
      exact (f0 j hj).2.2.symm
    · have e1 : cnt (pitchN l) j (pitchN l j) = cnt f j (f j) := cnt_congr j (fun q hq => ⟨fun e => in_inj hi (f0 q (by omega)).1 (f0 q (by omega)).2.1 (f0 j hj).1 (f0 j hj).2.1 (by rw [(f0 q (by omega)).2.2, (f0 j hj).2.2, e]), fun e => by rw [← (f0 q (by omega)).2.2, ← (f0 j hj).2.2, e]⟩)
      have e2 : cnt (pitchP p.1) i (pitchP p.1 i) = cnt (trackH s) i (trackH s i) := cnt_congr i (fun q hq => by
        rw [pPt q (by omega), pPt i a1]
        exact ⟨fun e => in_inj hi (t0 q (by omega)).1 (t0 q (by omega)).2 (t0 i a1).1 (t0 i a1).2 e, fun e => by rw [e]⟩)
      rw [e1, e2]
      exact a2.2
    · have hok := isSh_get hs a1
      have hno := (hl.2 j hj).1
      unfold okH at hok
      unfold okN at hno
      unfold actOk at ha
      have ee : rd (errAt l s m.1 j) 0 = wrap64 (s[i].f1 - wrap64 (2 * (rd_T35 l (j : Int)).f1)) := by
        unfold errAt
        rw [if_neg (by omega), a3]
        unfold rd_T60
        rw [rd_get a1]
        rfl
      rw [ee] at a4
      have w1 : wrap64 (2 * (rd_T35 l (j : Int)).f1) = 2 * (rd_T35 l (j : Int)).f1 := by unfold wrap64; omega
      have w2 : wrap64 (s[i].f1 - 2 * (rd_T35 l (j : Int)).f1) = s[i].f1 - 2 * (rd_T35 l (j : Int)).f1 := by unfold wrap64; omega
      rw [w1, w2] at a4
      unfold vff.absV at a4
      have w3 : wrap64 (-(s[i].f1 - 2 * (rd_T35 l (j : Int)).f1)) = -(s[i].f1 - 2 * (rd_T35 l (j : Int)).f1) := by unfold wrap64; omega
      rw [w3] at a4
      have pf : (rd_T37 p.1 (i : Int)).f1 = s[i].f1 + d := by
        rw [pP i a1, er i a1]
        show wrap64 (s[i].f1 + d) = _
        unfold wrap64
        omega
      unfold within loOf hiOf
      rw [pf, w1]
      have w4 : wrap64 (2 * (rd_T35 l (j : Int)).f1 + d) = 2 * (rd_T35 l (j : Int)).f1 + d := by unfold wrap64; omega
      rw [w4]
      have w5 : wrap64 (2 * (rd_T35 l (j : Int)).f1 + d - most) = 2 * (rd_T35 l (j : Int)).f1 + d - most := by unfold wrap64; omega
      have w6 : wrap64 (2 * (rd_T35 l (j : Int)).f1 + d + most) = 2 * (rd_T35 l (j : Int)).f1 + d + most := by unfold wrap64; omega
      rw [w5, w6]
      split at a4 <;> omega
end Go.Proofs.Ytdcchnfndhkfaaa.PureFnPassesPlays
