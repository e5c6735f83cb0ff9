/- The plain statement of FnPatterns (lemmas): the law's function, over numbers and lists, answers true. No conditions beyond the arguments' own kinds. -/
import Derived.Test.YtlhjjpdlfddflabSFnPatterns9
import Derived.Test.YtlhjjpdlfddflabPureFnPatternsa
namespace Go.Proofs.Ytlhjjpdlfddflab.PureFnPatterns
open Go Go.RowKit Go.Proofs.Ytlhjjpdlfddflab.PFnPatterns Go.Proofs.YtlhjjpdlfddflabW.PrintWords Go.Proofs.YtlhjjpdlfddflabW.PrintLast Go.Proofs.YtlhjjpdlfddflabW.PrintMore Go.Proofs.Ytlhjjpdlfddflab.Lib
set_option linter.unusedVariables false
set_option linter.unusedSimpArgs false
theorem size_one (x : Int) : (strOfNums [x]).size = 1 := by
  show (strOfNums [x]).data.size = 1
  simp [strOfNums]
theorem spoilt_ok {s : List Int} (hs : Bytes8 s) (w : ByteArray) (hw : w.size = 3) : ∀ (m : Nat) (t : ByteArray) (a sd : Int), m ≤ 2 → t.size ≤ 1002 - m → 0 ≤ a → a ≤ 1000000 - 10 * (m : Int) →
    ∃ t' a' sd', Ev (fun k => spec_l1Cur_spoilt.l0 k t w (m : Int) s a sd) (t', a', sd') ∧ t'.size ≤ 2000 := by
  intro m
  induction m with
  | zero =>
    intro t a sd hm ht h0 h1
    refine ⟨t, a, sd, Ev.step (f := fun k => spec_l1Cur_spoilt.j1 k t w 0 false s a sd) (fun k => ?_) (Ev.step (f := fun _ => some (t, a, sd)) (fun k => ?_) (Ev.now _)), by omega⟩
    · simp only [spec_l1Cur_spoilt.l0]
      rw [if_neg (by omega)]
      rfl
    · simp only [spec_l1Cur_spoilt.j1]
      rw [if_neg (by simp)]
  | succ m ih =>
    intro t a sd hm ht h0 h1
    by_cases hz : t.size = 0
    · refine ⟨t, a, sd, Ev.step (f := fun k => spec_l1Cur_spoilt.j1 k t w ((m + 1 : Nat) : Int) false s a sd) (fun k => ?_) (Ev.step (f := fun _ => some (t, a, sd)) (fun k => ?_) (Ev.now _)), by omega⟩
      · simp only [spec_l1Cur_spoilt.l0]
        rw [if_pos (by omega), show decide ((t.size : Int) > 0) = false from decide_eq_false (by omega)]
      · simp only [spec_l1Cur_spoilt.j1]
        rw [if_neg (by simp)]
    · obtain ⟨i, a1, sd1, e1, i0, i1, b1, c1⟩ := pick_ok hs a sd (t.size : Int) h0 (by omega)
      have i1 := i1 (by omega)
      obtain ⟨j, a2, sd2, e2, j0, j1, b2, c2⟩ := pick_ok hs a1 sd1 (w.size : Int) (by omega) (by omega)
      have j1 := j1 (by omega)
      obtain ⟨r, a3, sd3, e3, r0, r1, b3, c3⟩ := pick_ok hs a2 sd2 3 (by omega) (by omega)
      have ew : wrap64 (i + 1) = i + 1 := by unfold wrap64; omega
      have em : wrap64 (((m + 1 : Nat) : Int) - 1) = (m : Int) := by unfold wrap64; omega
      have s1 : (t.extract 0 i.toNat).size = i.toNat := by rw [ByteArray.size_extract]; omega
      have s2 : (t.extract i.toNat t.size).size = t.size - i.toNat := by rw [ByteArray.size_extract]; omega
      have s3 : (t.extract (i + 1).toNat t.size).size = t.size - (i + 1).toNat := by rw [ByteArray.size_extract]; omega
      have so := size_one (bt w j)
      have key : ∀ t' : ByteArray, t'.size ≤ t.size + 1 → (∀ k, spec_l1Cur_spoilt.j1 (k + 1) t w ((m + 1 : Nat) : Int) true s a sd = spec_l1Cur_spoilt.l0 k t' w (m : Int) s a3 sd3) → ∃ t' a' sd', Ev (fun k => spec_l1Cur_spoilt.l0 k t w ((m + 1 : Nat) : Int) s a sd) (t', a', sd') ∧ t'.size ≤ 2000 := by
        intro t' ht' hk
        obtain ⟨t2, a4, sd4, g1, g2⟩ := ih t' a3 sd3 (by omega) (by omega) (by omega) (by omega)
        refine ⟨t2, a4, sd4, Ev.step (f := fun k => spec_l1Cur_spoilt.j1 k t w ((m + 1 : Nat) : Int) true s a sd) (fun k => ?_) (Ev.step hk g1), g2⟩
        simp only [spec_l1Cur_spoilt.l0]
        rw [if_pos (by omega), show decide ((t.size : Int) > 0) = true from decide_eq_true (by omega)]
      by_cases k1 : r = 0
      · refine key ((t.extract 0 i.toNat ++ strOfNums [bt w j]) ++ t.extract i.toNat t.size) (by rw [ByteArray.size_append, ByteArray.size_append, s1, s2, so]; omega) (fun k => ?_)
        simp only [spec_l1Cur_spoilt.j1, e1, e2, e3, Option.bind_some, ew, em]
        rw [if_pos trivial, if_pos j0, if_pos j1, if_pos k1, if_pos i0, if_pos (by omega), if_pos (by rw [s1, so]; omega), if_pos (by rw [ByteArray.size_append, s1, s2, so]; omega)]
      · by_cases k2 : r = 1
        · refine key ((t.extract 0 i.toNat ++ strOfNums [bt w j]) ++ t.extract (i + 1).toNat t.size) (by rw [ByteArray.size_append, ByteArray.size_append, s1, s3, so]; omega) (fun k => ?_)
          simp only [spec_l1Cur_spoilt.j1, e1, e2, e3, Option.bind_some, ew, em]
          rw [if_pos trivial, if_pos j0, if_pos j1, if_neg k1, if_pos k2, if_pos i0, if_pos (by omega), if_pos (by rw [s1, so]; omega), if_pos (by omega), if_pos (by omega), if_pos (by rw [ByteArray.size_append, s1, s3, so]; omega)]
        · refine key (t.extract 0 i.toNat ++ t.extract (i + 1).toNat t.size) (by rw [ByteArray.size_append, s1, s3]; omega) (fun k => ?_)
          simp only [spec_l1Cur_spoilt.j1, e1, e2, e3, Option.bind_some, ew, em]
          rw [if_pos trivial, if_pos j0, if_pos j1, if_neg k1, if_neg k2, if_pos i0, if_pos (by omega), if_pos (by omega), if_pos (by omega), if_pos (by rw [s1, s3]; omega)]
theorem of_ok {s : List Int} (hs : Bytes8 s) (a sd : Int) (l : List ByteArray) (hl : 0 < l.length) (h0 : 0 ≤ a) (h1 : a ≤ 900000000) : ∃ r a' sd', spec_l1Cur_of.f s a sd l = some (r, a', sd') ∧ r ∈ l := by
  unfold spec_l1Cur_of.f
  obtain ⟨r, a', sd', e, r0, r1, b0, b1⟩ := pick_ok hs a sd (l.length : Int) h0 h1
  have r1 := r1 (by omega)
  rw [e, Option.bind_some, if_pos r0, if_pos r1]
  have hi : r.toNat < l.length := by omega
  have er : rdOf ByteArray.empty l r = l[r.toNat] := by
    unfold rdOf
    rw [List.getD_eq_getElem?_getD, List.getElem?_eq_getElem hi]
    rfl
  exact ⟨_, _, _, rfl, by rw [er]; exact List.getElem_mem hi⟩
theorem drawtext_ok {s : List Int} (hs : Bytes8 s) : ∃ t, Ev (fun k => spec_DrawParsePattern.f k s) t ∧ t.size ≤ 1048576 := by
  unfold spec_DrawParsePattern.f
  obtain ⟨p, l, a, sd, e1, hl, a0, a1⟩ := pattern_ok hs 0 0 (by omega) (by omega)
  by_cases hg : isP p l
  · have h1 := hg.1
    have h2 := hg.2.1
    obtain ⟨n, rfl⟩ : ∃ n : Nat, p = n := ⟨p.toNat, by omega⟩
    have hd : Ev (fun k => spec_drText.f k (n : Int) l) (textOf n l) := spec_pt n l ⟨by omega, by omega⟩ (by omega)
    obtain ⟨b, a2, sd2, e2, b1, c1⟩ := one_ok hs a sd 4 (by omega) (by omega)
    cases b with
    | true =>
      obtain ⟨r, a3, sd3, e3, r0, r1, b3, c3⟩ := pick_ok hs a2 sd2 2 (by omega) (by omega)
      have r1 := r1 (by omega)
      obtain ⟨m, hm⟩ : ∃ m : Nat, (m : Int) = wrap64 (1 + r) := ⟨(1 + r).toNat, by unfold wrap64; omega⟩
      have hm2 : m ≤ 2 := by unfold wrap64 at hm; omega
      obtain ⟨t', a4, sd4, g1, g2⟩ := spoilt_ok hs (⟨#[120, 46, 121]⟩ : ByteArray) rfl m (textOf n l) a3 sd3 hm2 (by rw [text_size]; omega) (by omega) (by omega)
      rw [hm] at g1
      have hsp : Ev (fun k => spec_l1Cur_spoilt.f k s a2 sd2 (textOf n l) (⟨#[120, 46, 121]⟩ : ByteArray)) (t', a4, sd4) := by
        unfold spec_l1Cur_spoilt.f
        exact ev_call e3 g1
      exact ⟨t', Ev.bind e1 (Ev.bind (spec_isP _ l (by omega)) (ev_pos (decide_eq_true hg) (Ev.bind hd (ev_call e2 (ev_pos rfl (Ev.bind hsp (Ev.now _))))))), by omega⟩
    | false =>
      exact ⟨textOf n l, Ev.bind e1 (Ev.bind (spec_isP _ l (by omega)) (ev_pos (decide_eq_true hg) (Ev.bind hd (ev_call e2 (ev_neg (by simp) (Ev.now _)))))), by rw [text_size]; omega⟩
  · obtain ⟨r, a2, sd2, e2, hm⟩ := of_ok hs a sd [(⟨#[]⟩ : ByteArray), (⟨#[120, 46, 88]⟩ : ByteArray), (⟨#[46, 46, 46, 46, 46, 46, 46, 46, 46, 46, 46, 46, 46, 46, 46, 46, 46, 46, 46, 46, 46, 46, 46, 46]⟩ : ByteArray), (⟨#[46, 46, 46, 46, 46, 46, 46, 46, 46, 46, 46, 46, 46, 46, 46, 46, 46, 46, 46, 46, 46, 46, 46, 46, 46]⟩ : ByteArray), (⟨#[32]⟩ : ByteArray)] (by decide) (by omega) (by omega)
    refine ⟨r, Ev.bind e1 (Ev.bind (spec_isP _ l (by omega)) (ev_neg (by simpa using hg) (ev_call e2 (Ev.now _)))), ?_⟩
    simp only [List.mem_cons, List.not_mem_nil, or_false] at hm
    rcases hm with rfl | rfl | rfl | rfl | rfl <;> decide

theorem drawpt_ok {s : List Int} (hs : Bytes8 s) : ∃ p l, Ev (fun k => spec_DrawPatternText.f k s) (p, l) ∧ l.length ≤ 1048576 := by
  unfold spec_DrawPatternText.f spec_DrawIsPattern.f
  obtain ⟨p, l, a, sd, e, hl, _⟩ := pattern_ok hs 0 0 (by omega) (by omega)
  exact ⟨p, l, Ev.bind (Ev.bind e (Ev.now _)) (Ev.now _), by omega⟩
theorem drawcb_ok {s : List Int} (hs : Bytes8 s) : ∃ p l n, Ev (fun k => spec_DrawCountBeats.f k s) (p, l, n) ∧ l.length ≤ 1048576 := by
  unfold spec_DrawCountBeats.f spec_DrawBeatsAt.f
  obtain ⟨p, l, a, sd, e, hl, a0, a1⟩ := pattern_ok hs 0 0 (by omega) (by omega)
  obtain ⟨r1, a2, sd2, e2, _, _, b2, c2⟩ := pick_ok hs a sd 200 (by omega) (by omega)
  obtain ⟨r2, a3, sd3, e3, _, b3, c3⟩ := among_ok hs a2 sd2 [1000000001, -1] (by decide) (by omega) (by omega)
  obtain ⟨r3, a4, sd4, e4, _, b4, c4⟩ := among_ok hs a3 sd3 [0, 1, 5, 24, r1, 1000000000, r2] (by simp) (by omega) (by omega)
  exact ⟨p, l, r3, Ev.bind (Ev.bind e (ev_call e2 (ev_call e3 (ev_call e4 (Ev.now _))))) (Ev.now _), by omega⟩
theorem draweven_ok {s : List Int} (hs : Bytes8 s) : ∃ r, spec_DrawEvenPattern.f s = some r := by
  unfold spec_DrawEvenPattern.f
  obtain ⟨r1, a1, sd1, e1, _, b1, c1⟩ := among_ok hs 0 0 [0, 25] (by decide) (by omega) (by omega)
  obtain ⟨r2, a2, sd2, e2, _, b2, c2⟩ := among_ok hs a1 sd1 [1, 8, 8, 12, 16, 24, r1] (by simp) (by omega) (by omega)
  obtain ⟨r3, a3, sd3, e3, _, b3, c3⟩ := among_ok hs a2 sd2 [0, 1, 3, 5, 7, r2, wrap64 (r2 + 1), -1] (by simp) (by omega) (by omega)
  rw [e1, Option.bind_some, e2, Option.bind_some, e3, Option.bind_some]
  exact ⟨_, rfl⟩
theorem sameInts (l : List Int) (hl : l.length ≤ 1048576) : Ev (fun k => laws_sameInts.f k l l) true := by
  unfold laws_sameInts.f
  refine ev_pos rfl ?_
  have go := ev_for (fun k (_ : Unit) i => laws_sameInts.l0 k l l (l.length : Int) i) l.length (fun _ _ => True) (fun _ _ => true) (fun s _ => ?_) (fun i s hi _ ih => ?_) 0 () (Nat.zero_le _) trivial
  · exact go
  · refine Ev.step (f := fun _ => some true) (fun k => ?_) (Ev.now _)
    simp only [laws_sameInts.l0]
    rw [if_neg (by omega)]
  · have e1 := wn hi (by omega)
    refine Ev.step (fun k => ?_) (ih () trivial)
    have hi' : (i : Int) < (l.length : Int) := by omega
    have h0 : 0 ≤ (i : Int) := by omega
    simp only [laws_sameInts.l0, e1, if_pos hi', if_pos h0, if_true]
theorem samePat (p : Int) (l : List Int) (hl : l.length ≤ 1048576) : Ev (fun k => laws_pSamePattern.f k p l p l) true := by
  unfold laws_pSamePattern.f
  exact ev_pos rfl (Ev.bind (sameInts l hl) (Ev.now _))
theorem pIn (l : List Int) (x : Int) (hl : l.length ≤ 1048576) : Ev (fun k => laws_pIn.f k l x) (decide (x ∈ l)) := by
  unfold laws_pIn.f
  have h := ev_for (fun k (_ : Unit) i => laws_pIn.l0 k x l (l.length : Int) i) l.length (fun _ _ => True) (fun i _ => decide (x ∈ l.drop i)) (fun s _ => ?_) (fun i s hi _ ih => ?_) 0 () (Nat.zero_le _) trivial
  · simpa using h
  · rw [List.drop_length]
    refine Ev.step (f := fun _ => some false) (fun k => ?_) (ev_now (by simp))
    simp only [laws_pIn.l0]
    rw [if_neg (by omega)]
  · have e1 := wn hi (by omega)
    have er : rd l (i : Int) = l[i] := by unfold rd; rw [rd_get hi]
    rw [List.drop_eq_getElem_cons hi]
    by_cases c : l[i] = x
    · refine Ev.step (f := fun _ => some true) (fun k => ?_) (ev_now (by simp [c]))
      simp only [laws_pIn.l0, er]
      rw [if_pos (by omega), if_pos (by omega), if_pos (by omega), if_pos c]
    · have e : decide (x ∈ l[i] :: l.drop (i + 1)) = decide (x ∈ l.drop (i + 1)) := decide_eq_decide.2 (by rw [List.mem_cons]; exact ⟨fun h => h.resolve_left (fun e => c e.symm), .inr⟩)
      rw [e]
      refine Ev.step (fun k => ?_) (ih () trivial)
      simp only [laws_pIn.l0, er, e1]
      rw [if_pos (by omega), if_pos (by omega), if_pos (by omega), if_neg c]
end Go.Proofs.Ytlhjjpdlfddflab.PureFnPatterns
