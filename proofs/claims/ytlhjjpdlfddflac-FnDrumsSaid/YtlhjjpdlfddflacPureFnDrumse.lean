/- The plain statement of FnDrums (lemmas): the law's function, over numbers and lists, answers true. No conditions beyond the arguments' own kinds. -/
import Derived.Test.YtlhjjpdlfddflacSFnDrums11
import Derived.Test.YtlhjjpdlfddflacPureFnDrumsd
namespace Go.Proofs.Ytlhjjpdlfddflac.PureFnDrums
open Go Go.RowKit Go.Proofs.Ytlhjjpdlfddflac.PFnDrums Go.Proofs.YtlhjjpdlfddflacW.PrintWords Go.Proofs.YtlhjjpdlfddflacW.PrintLast Go.Proofs.YtlhjjpdlfddflacW.PrintMore Go.Proofs.Ytlhjjpdlfddflac.Lib
set_option linter.unusedVariables false
set_option linter.unusedSimpArgs false
theorem gcd_ev : ∀ (b a : Nat), Ev (fun k => impl_gcd.l0 k (a : Int) (b : Int)) (Nat.gcd a b : Int) := by
  intro b
  induction b using Nat.strongRecOn with
  | ind b ih =>
    intro a
    by_cases h : b = 0
    · subst h
      refine Ev.step (f := fun _ => some (a : Int)) (fun k => ?_) (ev_now (by simp))
      simp only [impl_gcd.l0]
      rw [if_pos (by simp)]
    · have hlt : a % b < b := Nat.mod_lt _ (Nat.pos_of_ne_zero h)
      have := ih (a % b) hlt b
      refine ev_eq (Ev.step (fun k => ?_) this) ?_
      · simp only [impl_gcd.l0]
        rw [if_neg (by omega), ← Int.ofNat_tmod]
      · rw [Nat.gcd_comm b, ← Nat.gcd_rec, Nat.gcd_comm]

/-- The common steps of patterns, before the limit. -/
def lcmOf (c : Nat) (l : List S26) : Nat := l.foldl (fun c x => Nat.lcm c x.f0.toNat) c
/-- The common steps, or 0. -/
def comR (l : List S26) : Nat := if 1 ≤ l.length ∧ l.length ≤ 5 ∧ (∀ x ∈ l, isP x.f0 x.f1) ∧ lcmOf 1 l ≤ 5040 then lcmOf 1 l else 0
theorem lcm_bd (c : Nat) (s : Nat) (hc : 1 ≤ c) (hs : 1 ≤ s) : 1 ≤ Nat.lcm c s ∧ Nat.lcm c s ≤ c * s := by
  refine ⟨Nat.pos_of_ne_zero (Nat.lcm_ne_zero (by omega) (by omega)), Nat.le_of_dvd (Nat.mul_pos hc hs) (Nat.lcm_dvd (Nat.dvd_mul_right _ _) (Nat.dvd_mul_left _ _))⟩
theorem lcmOf_bd (l : List S26) : ∀ (c : Nat), 1 ≤ c → (∀ x ∈ l, isP x.f0 x.f1) → 1 ≤ lcmOf c l ∧ lcmOf c l ≤ c * 24 ^ l.length := by
  induction l with
  | nil => intro c hc _; simp [lcmOf]; exact hc
  | cons x l ih =>
    intro c hc h
    have hx := h x List.mem_cons_self
    have h1 := hx.1
    have h2 := hx.2.1
    have hb := lcm_bd c x.f0.toNat hc (by omega)
    have := ih (Nat.lcm c x.f0.toNat) hb.1 (fun y hy => h y (List.mem_cons_of_mem _ hy))
    refine ⟨this.1, Nat.le_trans this.2 ?_⟩
    rw [List.length_cons, Nat.pow_succ, Nat.mul_comm (24 ^ l.length) 24, ← Nat.mul_assoc]
    exact Nat.mul_le_mul_right _ (Nat.le_trans hb.2 (Nat.mul_le_mul_left _ (by omega)))
theorem pow24 {n : Nat} (h : n ≤ 5) : 24 ^ n ≤ 7962624 := by
  have : 24 ^ n ≤ 24 ^ 5 := Nat.pow_le_pow_right (by omega) h
  simpa using this
theorem step_lcm (c s : Nat) : c / Nat.gcd c s * s = Nat.lcm c s := by
  rw [Nat.lcm, Nat.div_mul_right_comm (Nat.gcd_dvd_left c s)]
theorem impl_com (l : List S26) (hl : l.length ≤ 1048576) (hx : ∀ x ∈ l, x.f1.length ≤ 1048576) :
    ∃ r : Int × Bool, Ev (fun k => impl_commonSteps.f k l) r ∧ (r.2 = true → r.1 = comR l ∧ 0 < comR l) ∧ (r.2 = false → comR l = 0) := by
  unfold impl_commonSteps.f
  by_cases h : 1 ≤ l.length ∧ l.length ≤ 5
  · have key := count_up l.length (fun i (c : Nat) => 1 ≤ c ∧ c ≤ 24 ^ i) (fun i c => ∃ r : Int × Bool, Ev (fun k => impl_commonSteps.l0 k (c : Int) l (l.length : Int) (i : Int)) r ∧ ((∀ x ∈ l.drop i, isP x.f0 x.f1) → r = ((lcmOf c (l.drop i) : Int), decide (lcmOf c (l.drop i) ≤ 5040))) ∧ (¬ (∀ x ∈ l.drop i, isP x.f0 x.f1) → r.2 = false))
      (fun c hc => ?_) (fun i c hi hc ih => ?_) 0 1 (Nat.zero_le _) ⟨by omega, by simp⟩
    · obtain ⟨r, h1, h2, h3⟩ := key
      rw [List.drop_zero] at h2 h3
      refine ⟨r, ev_neg (by omega) (Ev.step (f := fun k => impl_commonSteps.l0 k 1 l (l.length : Int) 0) (fun k => ?_) h1), ?_⟩
      · simp only [impl_commonSteps.j0]
        rw [if_neg (by simp; omega)]
      · by_cases hg : ∀ x ∈ l, isP x.f0 x.f1
        · have hb := (lcmOf_bd l 1 (by omega) hg).1
          rw [h2 hg]
          unfold comR
          by_cases hle : lcmOf 1 l ≤ 5040
          · rw [if_pos ⟨h.1, h.2, hg, hle⟩]
            exact ⟨fun _ => ⟨rfl, hb⟩, fun hf => by simp [hle] at hf⟩
          · rw [if_neg (fun hh => hle hh.2.2.2)]
            exact ⟨fun ht => absurd (of_decide_eq_true ht) hle, fun _ => rfl⟩
        · have hr := h3 hg
          unfold comR
          rw [if_neg (fun hh => hg hh.2.2.1)]
          exact ⟨fun ht => absurd (hr.symm.trans ht) (by simp), fun _ => rfl⟩
    · rw [List.drop_length]
      refine ⟨((c : Int), decide ((c : Int) ≤ 5040)), Ev.step (f := fun _ => some ((c : Int), decide ((c : Int) ≤ 5040))) (fun k => ?_) (Ev.now _), fun _ => ?_, fun hh => absurd (fun x hx => absurd hx (by simp)) hh⟩
      · simp only [impl_commonSteps.l0]
        rw [if_neg (by omega)]
      · simp only [lcmOf, List.foldl_nil]
        congr 1
        exact decide_eq_decide.2 (by omega)
    · have e1 := wn hi (by omega)
      have er : rd_T26 l (i : Int) = l[i] := by unfold rd_T26; rw [rd_get hi]
      have hxi := hx _ (List.getElem_mem hi)
      have hd1 : ∀ c, lcmOf c (l.drop i) = lcmOf (Nat.lcm c l[i].f0.toNat) (l.drop (i + 1)) := fun c => by rw [List.drop_eq_getElem_cons hi]; rfl
      have hd2 : (∀ x ∈ l.drop i, isP x.f0 x.f1) ↔ isP l[i].f0 l[i].f1 ∧ ∀ x ∈ l.drop (i + 1), isP x.f0 x.f1 := by
        rw [List.drop_eq_getElem_cons hi]
        simp only [List.mem_cons, forall_eq_or_imp]
      by_cases hg : isP l[i].f0 l[i].f1
      · have g1 := hg.1
        have g2 := hg.2.1
        obtain ⟨s, hs⟩ : ∃ s : Nat, l[i].f0 = s := ⟨l[i].f0.toNat, by omega⟩
        have hb := lcm_bd c s hc.1 (by omega)
        have h24 : c * s ≤ 24 ^ (i + 1) := by
          rw [Nat.pow_succ]; exact Nat.mul_le_mul hc.2 (by omega)
        have hp5 := pow24 (show i + 1 ≤ 5 by omega)
        obtain ⟨r, h1, h2, h3⟩ := ih (Nat.lcm c s) ⟨hb.1, by omega⟩
        have hgp : 0 < Nat.gcd c s := Nat.gcd_pos_of_pos_left _ hc.1
        have ec : (Nat.lcm c s : Int) = wrap64 (wrap64 (Int.tdiv (c : Int) (Nat.gcd c s : Int)) * (s : Int)) := by
          rw [← Int.ofNat_tdiv]
          have hd : c / Nat.gcd c s ≤ c := Nat.div_le_self _ _
          have hc5 : c ≤ 7962624 := by
            have := pow24 (show i ≤ 5 by omega)
            omega
          have e2 : wrap64 ((c / Nat.gcd c s : Nat) : Int) = ((c / Nat.gcd c s : Nat) : Int) := by
            generalize c / Nat.gcd c s = q at hd ⊢
            unfold wrap64; omega
          rw [e2, ← Int.natCast_mul, step_lcm]
          generalize Nat.lcm c s = q at hb ⊢
          unfold wrap64; omega
        refine ⟨r, Ev.step (f := fun k => (impl_IsPattern.f k l[i].f0 l[i].f1).bind fun t143 => (if t143 = true then ((impl_gcd.f k (c : Int) l[i].f0).bind fun t144 => (if t144 = 0 then (none) else (impl_commonSteps.l0 k (wrap64 ((wrap64 (Int.tdiv (c : Int) t144)) * l[i].f0)) l (l.length : Int) ((i + 1 : Nat) : Int)))) else (some (0, false)))) (fun k => ?_)
          (Ev.bind (impl_isP _ _ hxi) (ev_pos (decide_eq_true hg) (Ev.bind (g := fun k => impl_gcd.f k (c : Int) l[i].f0) (a := (Nat.gcd c s : Int)) ?_ (ev_neg (by omega) ?_)))), fun hh => ?_, fun hh => ?_⟩
        · simp only [impl_commonSteps.l0, er, e1]
          rw [if_pos (by omega), if_pos (by omega), if_pos (by omega)]
        · rw [hs]; exact gcd_ev s c
        · rw [hs, ← ec]; exact h1
        · rw [h2 (hd2.1 hh).2, hd1, hs, Int.toNat_natCast]
        · exact h3 (fun hall => hh (hd2.2 ⟨hg, hall⟩))
      · refine ⟨(0, false), Ev.step (f := fun k => (impl_IsPattern.f k l[i].f0 l[i].f1).bind fun t143 => (if t143 = true then ((impl_gcd.f k (c : Int) l[i].f0).bind fun t144 => (if t144 = 0 then (none) else (impl_commonSteps.l0 k (wrap64 ((wrap64 (Int.tdiv (c : Int) t144)) * l[i].f0)) l (l.length : Int) ((i + 1 : Nat) : Int)))) else (some (0, false)))) (fun k => ?_)
          (Ev.bind (impl_isP _ _ hxi) (ev_neg (by simpa using hg) (Ev.now _))), fun hh => absurd (hd2.1 hh).1 hg, fun _ => rfl⟩
        simp only [impl_commonSteps.l0, er, e1]
        rw [if_pos (by omega), if_pos (by omega), if_pos (by omega)]
  · refine ⟨(0, false), ?_, (fun hh => by cases hh), (fun _ => by unfold comR; rw [if_neg (fun hh => h ⟨hh.1, hh.2.1⟩)])⟩
    refine ev_ite (fun hc => Ev.step (f := fun _ => some (0, false)) (fun k => rfl) (Ev.now _)) (fun hc => Ev.step (f := fun _ => some (0, false)) (fun k => ?_) (Ev.now _))
    simp only [impl_commonSteps.j0]
    rw [if_pos (by simp; omega)]

theorem spec_l2 (l : List S26) (c s : Nat) (hc : 1 ≤ c) (hs : 1 ≤ s) (hb : c * s ≤ 1000000000) (i : Nat) (hi : i < l.length) (hl : l.length ≤ 1048576) (b : List Int) (r : Int)
    (h : Ev (fun k => spec_drCommon.l1 k (Nat.lcm c s : Int) l (l.length : Int) ((i + 1 : Nat) : Int)) r) :
    ∀ (d j : Nat), Nat.lcm c s / c - j = d → 1 ≤ j → j ≤ Nat.lcm c s / c → Ev (fun k => spec_drCommon.l2 k ((c * j : Nat) : Int) (c : Int) l (l.length : Int) (i : Int) (s : Int) b) r := by
  have hm : c * (Nat.lcm c s / c) = Nat.lcm c s := Nat.mul_div_cancel' (Nat.dvd_lcm_left c s)
  have hL := lcm_bd c s hc hs
  have e1 := wn hi (by omega)
  intro d
  induction d with
  | zero =>
    intro j hd h1 h2
    obtain rfl : j = Nat.lcm c s / c := by omega
    rw [hm]
    refine Ev.step (fun k => ?_) h
    simp only [spec_drCommon.l2, e1]
    rw [if_neg (by omega), if_pos]
    rw [← Int.ofNat_tmod, Nat.mod_eq_zero_of_dvd (Nat.dvd_lcm_right c s)]; rfl
  | succ d ih =>
    intro j hd h1 h2
    have hn : ¬ Int.tmod ((c * j : Nat) : Int) (s : Int) = 0 := by
      rw [← Int.ofNat_tmod]
      intro hz
      have hdv : s ∣ c * j := Nat.dvd_of_mod_eq_zero (by omega)
      have := Nat.le_of_dvd (Nat.mul_pos hc h1) (Nat.lcm_dvd (Nat.dvd_mul_right c j) hdv)
      rw [← hm] at this
      have := Nat.le_of_mul_le_mul_left this hc
      omega
    have hle : c * (j + 1) ≤ Nat.lcm c s := by
      rw [← hm]; exact Nat.mul_le_mul_left _ (by omega)
    have e2 : wrap64 (((c * j : Nat) : Int) + (c : Int)) = ((c * (j + 1) : Nat) : Int) := by
      rw [← Int.natCast_add, show c * j + c = c * (j + 1) by rw [Nat.mul_succ]]
      unfold wrap64; omega
    refine Ev.step (fun k => ?_) (ih (j + 1) (by omega) (by omega) (by omega))
    simp only [spec_drCommon.l2, e2]
    rw [if_neg (by omega), if_neg hn]
theorem spec_com (l : List S26) (hl : l.length ≤ 1048576) (hx : ∀ x ∈ l, x.f1.length ≤ 1048576) : Ev (fun k => spec_drCommon.f k l) (comR l : Int) := by
  unfold spec_drCommon.f
  refine ev_call (l1In_eq _ _ _) ?_
  by_cases h : 1 ≤ l.length ∧ l.length ≤ 5
  · refine ev_pos (by simp; omega) ?_
    have lp1 : (∀ x ∈ l, isP x.f0 x.f1) → Ev (fun k => spec_drCommon.l1 k 1 l (l.length : Int) 0) (comR l : Int) := by
      intro hg
      have key := ev_for (fun k (c : Nat) i => spec_drCommon.l1 k (c : Int) l (l.length : Int) i) l.length (fun i (c : Nat) => 1 ≤ c ∧ c ≤ 24 ^ i) (fun i c => if lcmOf c (l.drop i) ≤ 5040 then (lcmOf c (l.drop i) : Int) else 0)
        (fun c hc => ?_) (fun i c hi hc ih => ?_) 0 1 (Nat.zero_le _) ⟨by omega, by simp⟩
      · rw [List.drop_zero] at key
        refine ev_eq key ?_
        unfold comR
        by_cases hle : lcmOf 1 l ≤ 5040
        · rw [if_pos hle, if_pos ⟨h.1, h.2, hg, hle⟩]
        · rw [if_neg hle, if_neg (fun hh => hle hh.2.2.2)]; rfl
      · rw [List.drop_length]
        rw [show lcmOf c ([] : List S26) = c from rfl]
        refine Ev.step (f := fun _ => if (c : Int) > 5040 then some 0 else some (c : Int)) (fun k => ?_) (ev_ite (fun hh => ev_now (by rw [if_neg (by omega)])) (fun hh => ev_now (by rw [if_pos (by omega)])))
        simp only [spec_drCommon.l1]
        rw [if_neg (by omega)]
      · have er : rd_T26 l (i : Int) = l[i] := by unfold rd_T26; rw [rd_get hi]
        have hgi := hg _ (List.getElem_mem hi)
        have g1 := hgi.1
        have g2 := hgi.2.1
        obtain ⟨s, hs⟩ : ∃ s : Nat, l[i].f0 = s := ⟨l[i].f0.toNat, by omega⟩
        have hb := lcm_bd c s hc.1 (by omega)
        have h24 : c * s ≤ 24 ^ (i + 1) := by
          rw [Nat.pow_succ]; exact Nat.mul_le_mul hc.2 (by omega)
        have hp5 := pow24 (show i + 1 ≤ 5 by omega)
        have ih' := ih (Nat.lcm c s) ⟨hb.1, by omega⟩
        rw [List.drop_eq_getElem_cons hi]
        simp only [lcmOf, List.foldl_cons, hs, Int.toNat_natCast] at ih' ⊢
        have hL1 : 1 ≤ Nat.lcm c s / c := Nat.div_pos (Nat.le_of_dvd hb.1 (Nat.dvd_lcm_left c s)) hc.1
        have := spec_l2 l c s hc.1 (by omega) (by omega) i hi hl l[i].f1 _ ih' (Nat.lcm c s / c - 1) 1 rfl (by omega) hL1
        rw [Nat.mul_one] at this
        refine Ev.step (fun k => ?_) this
        simp only [spec_drCommon.l1, er, hs]
        rw [if_pos (by omega), if_pos (by omega), if_pos (by omega)]
    have key := ev_for (fun k (_ : Unit) i => spec_drCommon.l0 k l l (l.length : Int) i) l.length (fun i _ => ∀ x ∈ l.take i, isP x.f0 x.f1) (fun _ _ => (comR l : Int)) (fun s hs => ?_) (fun i s hi hs ih => ?_) 0 () (Nat.zero_le _) (by simp)
    · exact key
    · rw [List.take_length] at hs
      refine Ev.step (f := fun k => spec_drCommon.l1 k 1 l (l.length : Int) 0) (fun k => ?_) (lp1 hs)
      simp only [spec_drCommon.l0]
      rw [if_neg (by omega)]
    · have e1 := wn hi (by omega)
      have er : rd_T26 l (i : Int) = l[i] := by unfold rd_T26; rw [rd_get hi]
      have hxi := hx _ (List.getElem_mem hi)
      refine Ev.step (f := fun k => (spec_drGood.f k l[i].f0 l[i].f1).bind fun t114 => (if t114 = true then (spec_drCommon.l0 k l l (l.length : Int) ((i + 1 : Nat) : Int)) else (some 0))) (fun k => ?_) (Ev.bind (spec_isP _ _ hxi) (ev_ite (fun hg => ih () ?_) (fun hg => ev_now ?_)))
      · simp only [spec_drCommon.l0, er, e1]
        rw [if_pos (by omega), if_pos (by omega), if_pos (by omega)]
      · intro x hm
        rw [List.take_succ_eq_append_getElem hi, List.mem_append, List.mem_singleton] at hm
        rcases hm with hm | rfl
        · exact hs x hm
        · exact of_decide_eq_true hg
      · unfold comR
        rw [if_neg (fun hh => hg (decide_eq_true (hh.2.2.1 _ (List.getElem_mem hi))))]; rfl
  · refine ev_neg (by simp; omega) (ev_now ?_)
    unfold comR
    rw [if_neg (fun hh => h ⟨hh.1, hh.2.1⟩)]; rfl

theorem spec_has (l : List Int) (x : Int) (hl : l.length ≤ 1048576) : Ev (fun k => spec_l1Has.f k l x) (decide (x ∈ l)) := by
  unfold spec_l1Has.f
  have h := ev_for (fun k (_ : Unit) i => spec_l1Has.l0 k x l (l.length : Int) i) l.length (fun _ _ => True) (fun i _ => decide (x ∈ l.drop i)) (fun s _ => ?_) (fun i s hi _ ih => ?_) 0 () (Nat.zero_le _) trivial
  · simpa using h
  · rw [List.drop_length]
    refine Ev.step (f := fun _ => some false) (fun k => ?_) (ev_now (by simp))
    simp only [spec_l1Has.l0]
    rw [if_neg (by omega)]
  · have e1 := wn hi (by omega)
    have er : rd l (i : Int) = l[i] := by unfold rd; rw [rd_get hi]
    rw [List.drop_eq_getElem_cons hi]
    by_cases c : l[i] = x
    · refine Ev.step (f := fun _ => some true) (fun k => ?_) (ev_now (by simp [c]))
      simp only [spec_l1Has.l0, er]
      rw [if_pos (by omega), if_pos (by omega), if_pos (by omega), if_pos c]
    · have e : decide (x ∈ l[i] :: l.drop (i + 1)) = decide (x ∈ l.drop (i + 1)) := decide_eq_decide.2 (by rw [List.mem_cons]; exact ⟨fun h => h.resolve_left (fun e => c e.symm), .inr⟩)
      rw [e]
      refine Ev.step (fun k => ?_) (ih () trivial)
      simp only [spec_l1Has.l0, er, e1]
      rw [if_pos (by omega), if_pos (by omega), if_pos (by omega), if_neg c]

theorem contains (l : List Int) (x : Int) (hl : l.length ≤ 1048576) : Ev (fun k => slices_Contains_int_int.f k l x) (decide (x ∈ l)) := by
  have key : ∀ (d i : Nat), l.length - i = d → i ≤ l.length → ∃ r : Int, Ev (fun k => slices_Index_int_int.l0 k l x (l.length : Int) (i : Int)) r ∧ (r ≥ 0 ↔ x ∈ l.drop i) := by
    intro d
    induction d with
    | zero =>
      intro i hd hi
      obtain rfl : i = l.length := by omega
      refine ⟨-1, Ev.step (f := fun _ => some (-1)) (fun k => ?_) (Ev.now _), by simp⟩
      simp only [slices_Index_int_int.l0]
      rw [if_neg (by omega)]
    | succ d ih =>
      intro i hd hi
      have hlt : i < l.length := by omega
      have e1 := wn hlt (by omega)
      have er : rd l (i : Int) = l[i] := by unfold rd; rw [rd_get hlt]
      rw [List.drop_eq_getElem_cons hlt, List.mem_cons]
      by_cases c : x = l[i]
      · refine ⟨(i : Int), Ev.step (f := fun _ => some (i : Int)) (fun k => ?_) (Ev.now _), ⟨fun _ => .inl c, fun _ => by omega⟩⟩
        simp only [slices_Index_int_int.l0, er]
        rw [if_pos (by omega), if_pos (by omega), if_pos (by omega), if_pos c]
      · obtain ⟨r, h1, h2⟩ := ih (i + 1) (by omega) (by omega)
        refine ⟨r, Ev.step (fun k => ?_) h1, by rw [h2]; exact ⟨.inr, fun h => h.resolve_left c⟩⟩
        simp only [slices_Index_int_int.l0, er, e1]
        rw [if_pos (by omega), if_pos (by omega), if_pos (by omega), if_neg c]
  obtain ⟨r, h1, h2⟩ := key l.length 0 rfl (by omega)
  rw [List.drop_zero] at h2
  unfold slices_Contains_int_int.f
  exact Ev.bind (g := fun k => slices_Index_int_int.f k l x) h1 (ev_now (decide_eq_decide.2 h2))

/-- How many patterns beat in a step. -/
def beatsIn (s : Int) (c : Int) (x : S26) : Int := if Int.tmod s x.f0 ∈ x.f1 then wrap64 (c + 1) else c
theorem spec_count (l : List S26) (s : Int) (hl : l.length ≤ 1048576) (hx : ∀ x ∈ l, x.f1.length ≤ 1048576) (h0 : ∀ x ∈ l, x.f0 ≠ 0) : Ev (fun k => spec_drCount.f k l s) (l.foldl (beatsIn s) 0) := by
  unfold spec_drCount.f
  have := ev_for (fun k (c : Int) i => spec_drCount.l0 k s c l (l.length : Int) i) l.length (fun _ _ => True) (fun i c => (l.drop i).foldl (beatsIn s) c) (fun c _ => ?_) (fun i c hi _ ih => ?_) 0 0 (Nat.zero_le _) trivial
  · simpa using this
  · rw [List.drop_length]
    refine Ev.step (f := fun _ => some c) (fun k => ?_) (Ev.now _)
    simp only [spec_drCount.l0]
    rw [if_neg (by omega)]
  · have e1 := wn hi (by omega)
    have er : rd_T26 l (i : Int) = l[i] := by unfold rd_T26; rw [rd_get hi]
    have hm := List.getElem_mem hi
    have hb : Ev (fun k => spec_drBeats.f k l[i].f0 l[i].f1 s) (decide (Int.tmod s l[i].f0 ∈ l[i].f1)) := by
      unfold spec_drBeats.f
      exact ev_neg (h0 _ hm) (Ev.bind (spec_has _ _ (hx _ hm)) (Ev.now _))
    rw [List.drop_eq_getElem_cons hi, List.foldl_cons]
    refine Ev.step (f := fun k => (spec_drBeats.f k l[i].f0 l[i].f1 s).bind fun t => if t = true then spec_drCount.l0 k s (wrap64 (c + 1)) l (l.length : Int) ((i + 1 : Nat) : Int) else spec_drCount.l0 k s c l (l.length : Int) ((i + 1 : Nat) : Int)) (fun k => ?_) (Ev.bind hb ?_)
    · simp only [spec_drCount.l0, er, e1]
      rw [if_pos (by omega), if_pos (by omega), if_pos (by omega)]
    · refine ev_ite (fun ht => ?_) (fun hf => ?_)
      · have : beatsIn s c l[i] = wrap64 (c + 1) := by unfold beatsIn; rw [if_pos (of_decide_eq_true ht)]
        rw [this]; exact ih _ trivial
      · have : beatsIn s c l[i] = c := by unfold beatsIn; rw [if_neg (by simpa using hf)]
        rw [this]; exact ih _ trivial
theorem impl_inner (l : List S26) (hl : l.length ≤ 1048576) (hx : ∀ x ∈ l, x.f1.length ≤ 1048576) (h0 : ∀ x ∈ l, x.f0 ≠ 0) (b m s n : Int) (s2 : Int) (e2 : wrap64 (s + 1) = s2) (r : Int × Int × Bool)
    (h : Ev (fun k => if l.foldl (beatsIn s) 0 > m then impl_MostTogether.l0 k l s (l.foldl (beatsIn s) 0) n s2 else impl_MostTogether.l0 k l b m n s2) r) :
    Ev (fun k => impl_MostTogether.l1 k l b m s 0 n s l (l.length : Int) 0) r := by
  have := count_up l.length (fun _ (_ : Int) => True) (fun j c => ∀ r, Ev (fun k => if (l.drop j).foldl (beatsIn s) c > m then impl_MostTogether.l0 k l s ((l.drop j).foldl (beatsIn s) c) n s2 else impl_MostTogether.l0 k l b m n s2) r → Ev (fun k => impl_MostTogether.l1 k l b m s c n s l (l.length : Int) (j : Int)) r)
    (fun c _ r h => ?_) (fun j c hj _ ih r h => ?_) 0 0 (Nat.zero_le _) trivial r (by simpa using h)
  · exact this
  · rw [List.drop_length] at h
    refine Ev.step (fun k => ?_) h
    simp only [impl_MostTogether.l1, e2]
    rw [if_neg (by omega)]
    rfl
  · have e1 := wn hj (by omega)
    have er : rd_T26 l (j : Int) = l[j] := by unfold rd_T26; rw [rd_get hj]
    have hm := List.getElem_mem hj
    have hb : Ev (fun k => impl_beatsAt.f k l[j].f0 l[j].f1 s) (decide (Int.tmod s l[j].f0 ∈ l[j].f1)) := by
      unfold impl_beatsAt.f
      exact ev_neg (h0 _ hm) (Ev.bind (contains _ _ (hx _ hm)) (Ev.now _))
    rw [List.drop_eq_getElem_cons hj, List.foldl_cons] at h
    refine Ev.step (f := fun k => (impl_beatsAt.f k l[j].f0 l[j].f1 s).bind fun t => if t = true then impl_MostTogether.l1 k l b m s (wrap64 (c + 1)) n s l (l.length : Int) ((j + 1 : Nat) : Int) else impl_MostTogether.l1 k l b m s c n s l (l.length : Int) ((j + 1 : Nat) : Int)) (fun k => ?_) (Ev.bind hb ?_)
    · simp only [impl_MostTogether.l1, er, e1]
      rw [if_pos (by omega), if_pos (by omega), if_pos (by omega)]
    · refine ev_ite (fun ht => ?_) (fun hf => ?_)
      · have : beatsIn s c l[j] = wrap64 (c + 1) := by unfold beatsIn; rw [if_pos (of_decide_eq_true ht)]
        rw [this] at h; exact ih _ trivial r h
      · have : beatsIn s c l[j] = c := by unfold beatsIn; rw [if_neg (by simpa using hf)]
        rw [this] at h; exact ih _ trivial r h
/-- Both find the same step, and the same count. -/
theorem most_ev (l : List S26) (hl : l.length ≤ 1048576) (hx : ∀ x ∈ l, x.f1.length ≤ 1048576) (hc : 0 < comR l) :
    ∃ r : Int × Int, Ev (fun k => spec_drMost.f k l) r ∧ Ev (fun k => impl_MostTogether.f k l) (r.1, r.2, true) := by
  have hgood : 1 ≤ l.length ∧ l.length ≤ 5 ∧ (∀ x ∈ l, isP x.f0 x.f1) ∧ lcmOf 1 l ≤ 5040 := by
    unfold comR at hc
    by_cases hh : 1 ≤ l.length ∧ l.length ≤ 5 ∧ (∀ x ∈ l, isP x.f0 x.f1) ∧ lcmOf 1 l ≤ 5040
    · exact hh
    · rw [if_neg hh] at hc; omega
  have hle : comR l ≤ 5040 := by
    unfold comR
    rw [if_pos hgood]; exact hgood.2.2.2
  have h0 : ∀ x ∈ l, x.f0 ≠ 0 := fun x hm => by have := (hgood.2.2.1 x hm).1; omega
  have hcom := spec_com l hl hx
  have key := count_up (comR l) (fun _ (_ : Int × Int) => True) (fun i s => ∃ r : Int × Int, Ev (fun k => spec_drMost.l0 k l s.1 s.2 (i : Int)) r ∧ Ev (fun k => impl_MostTogether.l0 k l s.1 s.2 (comR l : Int) (i : Int)) (r.1, r.2, true))
    (fun s _ => ?_) (fun i s hi _ ih => ?_) 0 (0, -1) (Nat.zero_le _) trivial
  · obtain ⟨r, g1, g2⟩ := key
    refine ⟨r, g1, ?_⟩
    unfold impl_MostTogether.f
    obtain ⟨q, q1, q2, q3⟩ := impl_com l hl hx
    have hq : q.2 = true := by
      cases hq : q.2 with
      | true => rfl
      | false => have := q3 hq; omega
    refine Ev.bind q1 (ev_pos hq ?_)
    rw [(q2 hq).1]
    exact g2
  · refine ⟨s, ?_, ?_⟩
    · refine Ev.step (f := fun k => (spec_drCommon.f k l).bind fun t151 => (if ((comR l : Nat) : Int) < t151 then ((spec_drCount.f k l (comR l : Int)).bind fun t152 => (if t152 > s.2 then (spec_drMost.l0 k l (comR l : Int) t152 (wrap64 ((comR l : Int) + 1))) else (spec_drMost.l0 k l s.1 s.2 (wrap64 ((comR l : Int) + 1))))) else (some (s.1, s.2)))) (fun k => rfl) (Ev.bind hcom (ev_neg (by omega) (Ev.now _)))
    · refine Ev.step (f := fun _ => some (s.1, s.2, true)) (fun k => ?_) (Ev.now _)
      simp only [impl_MostTogether.l0]
      rw [if_neg (by omega)]
  · have e1 := wn hi (by omega)
    have hcnt := spec_count l (i : Int) hl hx h0
    by_cases c : l.foldl (beatsIn (i : Int)) 0 > s.2
    · obtain ⟨r, g1, g2⟩ := ih ((i : Int), l.foldl (beatsIn (i : Int)) 0) trivial
      refine ⟨r, ?_, ?_⟩
      · refine Ev.step (f := fun k => (spec_drCommon.f k l).bind fun t151 => (if ((i : Nat) : Int) < t151 then ((spec_drCount.f k l (i : Int)).bind fun t152 => (if t152 > s.2 then (spec_drMost.l0 k l (i : Int) t152 ((i + 1 : Nat) : Int)) else (spec_drMost.l0 k l s.1 s.2 ((i + 1 : Nat) : Int)))) else (some (s.1, s.2)))) (fun k => ?_) (Ev.bind hcom (ev_pos (by omega) (Ev.bind hcnt (ev_pos c g1))))
        simp only [spec_drMost.l0, e1]
      · refine Ev.step (fun k => ?_) (impl_inner l hl hx h0 s.1 s.2 (i : Int) (comR l : Int) _ e1 _ (ev_pos c g2))
        simp only [impl_MostTogether.l0]
        rw [if_pos (by omega)]
    · obtain ⟨r, g1, g2⟩ := ih s trivial
      refine ⟨r, ?_, ?_⟩
      · refine Ev.step (f := fun k => (spec_drCommon.f k l).bind fun t151 => (if ((i : Nat) : Int) < t151 then ((spec_drCount.f k l (i : Int)).bind fun t152 => (if t152 > s.2 then (spec_drMost.l0 k l (i : Int) t152 ((i + 1 : Nat) : Int)) else (spec_drMost.l0 k l s.1 s.2 ((i + 1 : Nat) : Int)))) else (some (s.1, s.2)))) (fun k => ?_) (Ev.bind hcom (ev_pos (by omega) (Ev.bind hcnt (ev_neg c g1))))
        simp only [spec_drMost.l0, e1]
      · refine Ev.step (fun k => ?_) (impl_inner l hl hx h0 s.1 s.2 (i : Int) (comR l : Int) _ e1 _ (ev_neg c g2))
        simp only [impl_MostTogether.l0]
        rw [if_pos (by omega)]
theorem impl_none (l : List S26) (hl : l.length ≤ 1048576) (hx : ∀ x ∈ l, x.f1.length ≤ 1048576) (hc : comR l = 0) : Ev (fun k => impl_MostTogether.f k l) (0, 0, false) := by
  unfold impl_MostTogether.f
  obtain ⟨q, q1, q2, q3⟩ := impl_com l hl hx
  have hq : q.2 = false := by
    cases hq : q.2 with
    | false => rfl
    | true => have := (q2 hq).2; omega
  exact Ev.bind q1 (ev_neg (by simp [hq]) (Ev.now _))

theorem ev_one {α : Type} {g : Nat → Option α} {r r' : α} (h : Ev g r) (h' : Ev g r') : r = r' := by
  obtain ⟨a, ha⟩ := h
  obtain ⟨b, hb⟩ := h'
  have h1 := ha (max a b) (Nat.le_max_left _ _)
  have h2 := hb (max a b) (Nat.le_max_right _ _)
  rw [h1] at h2
  exact Option.some.inj h2

def cntAt (l : List S26) (s : Nat) : Int := l.foldl (beatsIn (s : Int)) 0
theorem cnt_bd (s : Int) : ∀ (l : List S26) (c : Int), 0 ≤ c → c + l.length ≤ 1000000000 → c ≤ l.foldl (beatsIn s) c ∧ l.foldl (beatsIn s) c ≤ c + l.length := by
  intro l
  induction l with
  | nil => intro c h0 h1; exact ⟨Int.le_refl _, by simp⟩
  | cons x l ih =>
    intro c h0 h1
    rw [List.length_cons] at h1 ⊢
    rw [List.foldl_cons]
    by_cases hx : Int.tmod s x.f0 ∈ x.f1
    · have e : beatsIn s c x = c + 1 := by unfold beatsIn; rw [if_pos hx]; unfold wrap64; omega
      rw [e]
      have := ih (c + 1) (by omega) (by omega)
      omega
    · have e : beatsIn s c x = c := by unfold beatsIn; rw [if_neg hx]
      rw [e]
      have := ih c h0 (by omega)
      omega
theorem cntAt_bd (l : List S26) (s : Nat) (hl : l.length ≤ 1048576) : 0 ≤ cntAt l s ∧ cntAt l s ≤ l.length := by
  have := cnt_bd (s : Int) l 0 (by omega) (by omega)
  unfold cntAt
  omega
/-- The first step with the most beats, of the first n. -/
def MoP (l : List S26) (n : Nat) (r : Int × Int) : Prop := ∃ f : Nat, r.1 = f ∧ f < n ∧ r.2 = cntAt l f ∧ (∀ s : Nat, s < n → cntAt l s ≤ r.2) ∧ (∀ s : Nat, s < f → cntAt l s < r.2)
theorem good_com {l : List S26} (hc : 0 < comR l) : 1 ≤ l.length ∧ l.length ≤ 5 ∧ (∀ x ∈ l, isP x.f0 x.f1) ∧ lcmOf 1 l ≤ 5040 ∧ comR l = lcmOf 1 l := by
  unfold comR at hc ⊢
  by_cases hh : 1 ≤ l.length ∧ l.length ≤ 5 ∧ (∀ x ∈ l, isP x.f0 x.f1) ∧ lcmOf 1 l ≤ 5040
  · rw [if_pos hh]; exact ⟨hh.1, hh.2.1, hh.2.2.1, hh.2.2.2, rfl⟩
  · rw [if_neg hh] at hc; omega
theorem lcm_dvd (l : List S26) : ∀ c : Nat, c ∣ lcmOf c l ∧ ∀ x ∈ l, x.f0.toNat ∣ lcmOf c l := by
  induction l with
  | nil => intro c; exact ⟨Nat.dvd_refl _, fun x hx => absurd hx List.not_mem_nil⟩
  | cons y l ih =>
    intro c
    have e : lcmOf c (y :: l) = lcmOf (Nat.lcm c y.f0.toNat) l := rfl
    rw [e]
    have := ih (Nat.lcm c y.f0.toNat)
    refine ⟨Nat.dvd_trans (Nat.dvd_lcm_left _ _) this.1, fun x hx => ?_⟩
    rcases List.mem_cons.1 hx with rfl | hx
    · exact Nat.dvd_trans (Nat.dvd_lcm_right _ _) this.1
    · exact this.2 x hx
theorem most_told (l : List S26) (hl : l.length ≤ 1048576) (hx : ∀ x ∈ l, x.f1.length ≤ 1048576) (hc : 0 < comR l) : ∃ r : Int × Int, Ev (fun k => spec_drMost.f k l) r ∧ Ev (fun k => impl_MostTogether.f k l) (r.1, r.2, true) ∧ MoP l (comR l) r := by
  obtain ⟨r0, a1, a2⟩ := most_ev l hl hx hc
  have hgood := good_com hc
  have hle : comR l ≤ 5040 := by rw [hgood.2.2.2.2]; exact hgood.2.2.2.1
  have h0 : ∀ x ∈ l, x.f0 ≠ 0 := fun x hm => by have := (hgood.2.2.1 x hm).1; omega
  have hcom := spec_com l hl hx
  have key : ∃ r : Int × Int, Ev (fun k => spec_drMost.l0 k l 0 (-1) 0) r ∧ MoP l (comR l) r := by
    refine count_up (comR l) (fun i (s : Int × Int) => (i = 0 ∧ s = (0, -1)) ∨ MoP l i s) (fun i s => ∃ r : Int × Int, Ev (fun k => spec_drMost.l0 k l s.1 s.2 (i : Int)) r ∧ MoP l (comR l) r)
      (fun s hs => ?_) (fun i s hi hs ih => ?_) 0 (0, -1) (Nat.zero_le _) (.inl ⟨rfl, rfl⟩)
    · refine ⟨s, ?_, hs.resolve_left (fun h => by omega)⟩
      exact Ev.step (f := fun k => (spec_drCommon.f k l).bind fun t151 => (if ((comR l : Nat) : Int) < t151 then ((spec_drCount.f k l (comR l : Int)).bind fun t152 => (if t152 > s.2 then (spec_drMost.l0 k l (comR l : Int) t152 (wrap64 ((comR l : Int) + 1))) else (spec_drMost.l0 k l s.1 s.2 (wrap64 ((comR l : Int) + 1))))) else (some (s.1, s.2)))) (fun k => rfl) (Ev.bind hcom (ev_neg (by omega) (Ev.now _)))
    · have e1 := wn hi (by omega)
      have hcnt := spec_count l (i : Int) hl hx h0
      have hb := cntAt_bd l i hl
      by_cases c : l.foldl (beatsIn (i : Int)) 0 > s.2
      · obtain ⟨r, g1, g2⟩ := ih ((i : Int), l.foldl (beatsIn (i : Int)) 0) (.inr (by
          refine ⟨i, rfl, by omega, rfl, fun t ht => ?_, fun t ht => ?_⟩
          · by_cases e : t = i
            · subst e; exact Int.le_refl _
            · rcases hs with ⟨h, _⟩ | ⟨f, _, _, _, h4, _⟩
              · omega
              · have := h4 t (by omega)
                show cntAt l t ≤ l.foldl (beatsIn (i : Int)) 0
                omega
          · rcases hs with ⟨h, _⟩ | ⟨f, _, _, _, h4, _⟩
            · omega
            · have := h4 t (by omega)
              show cntAt l t < l.foldl (beatsIn (i : Int)) 0
              omega))
        refine ⟨r, ?_, g2⟩
        refine Ev.step (f := fun k => (spec_drCommon.f k l).bind fun t151 => (if ((i : Nat) : Int) < t151 then ((spec_drCount.f k l (i : Int)).bind fun t152 => (if t152 > s.2 then (spec_drMost.l0 k l (i : Int) t152 ((i + 1 : Nat) : Int)) else (spec_drMost.l0 k l s.1 s.2 ((i + 1 : Nat) : Int)))) else (some (s.1, s.2)))) (fun k => ?_) (Ev.bind hcom (ev_pos (by omega) (Ev.bind hcnt (ev_pos c g1))))
        simp only [spec_drMost.l0, e1]
      · have hm : MoP l i s := hs.resolve_left (fun h => by
          obtain ⟨_, rfl⟩ := h
          have : cntAt l i = l.foldl (beatsIn (i : Int)) 0 := rfl
          have c' : ¬ l.foldl (beatsIn (i : Int)) 0 > -1 := c
          omega)
        obtain ⟨r, g1, g2⟩ := ih s (.inr (by
          obtain ⟨f, h1, h2, h3, h4, h5⟩ := hm
          refine ⟨f, h1, by omega, h3, fun t ht => ?_, h5⟩
          by_cases e : t = i
          · subst e
            show l.foldl (beatsIn (t : Int)) 0 ≤ s.2
            omega
          · exact h4 t (by omega)))
        refine ⟨r, ?_, g2⟩
        refine Ev.step (f := fun k => (spec_drCommon.f k l).bind fun t151 => (if ((i : Nat) : Int) < t151 then ((spec_drCount.f k l (i : Int)).bind fun t152 => (if t152 > s.2 then (spec_drMost.l0 k l (i : Int) t152 ((i + 1 : Nat) : Int)) else (spec_drMost.l0 k l s.1 s.2 ((i + 1 : Nat) : Int)))) else (some (s.1, s.2)))) (fun k => ?_) (Ev.bind hcom (ev_pos (by omega) (Ev.bind hcnt (ev_neg c g1))))
        simp only [spec_drMost.l0, e1]
  obtain ⟨r, k1, k2⟩ := key
  have e : r0 = r := ev_one a1 k1
  subst e
  exact ⟨r0, a1, a2, k2⟩
theorem mt_told (l : List S26) (hl : l.length ≤ 1048576) (hx : ∀ x ∈ l, x.f1.length ≤ 1048576) (hc : 0 < comR l) : ∃ r : Int × Int, (Ev (fun k => spec_MostTogether.f k l) (r.1, r.2, true) ∧ Ev (fun k => impl_MostTogether.f k l) (r.1, r.2, true)) ∧ MoP l (comR l) r ∧ (r.2 = l.length → Ev (fun k => spec_TogetherAt.f k l) (r.1, true) ∧ Ev (fun k => impl_TogetherAt.f k l) (r.1, true)) ∧ (r.2 ≠ l.length → Ev (fun k => spec_TogetherAt.f k l) (0, false) ∧ Ev (fun k => impl_TogetherAt.f k l) (0, false)) := by
  have hcom := spec_com l hl hx
  obtain ⟨r, g1, g2, g3⟩ := most_told l hl hx hc
  have g3' := g3
  obtain ⟨f, f1, f2, f3, _, _⟩ := g3'
  have hb := cntAt_bd l f hl
  refine ⟨r, ⟨?_, g2⟩, g3, fun e => ⟨?_, ?_⟩, fun e => ⟨?_, ?_⟩⟩
  · unfold spec_MostTogether.f
    exact Ev.bind hcom (ev_neg (by omega) (Ev.bind g1 (Ev.now _)))
  · unfold spec_TogetherAt.f
    exact Ev.bind hcom (ev_neg (by omega) (Ev.bind g1 (ev_neg (by omega) (Ev.now _))))
  · unfold impl_TogetherAt.f
    exact Ev.bind g2 (ev_pos rfl (ev_neg (by show ¬ r.2 < (l.length : Int); omega) (Ev.now _)))
  · unfold spec_TogetherAt.f
    exact Ev.bind hcom (ev_neg (by omega) (Ev.bind g1 (ev_pos (by omega) (Ev.now _))))
  · unfold impl_TogetherAt.f
    exact Ev.bind g2 (ev_pos rfl (ev_pos (by show r.2 < (l.length : Int); omega) (Ev.now _)))
theorem mt_none (l : List S26) (hl : l.length ≤ 1048576) (hx : ∀ x ∈ l, x.f1.length ≤ 1048576) (hc : comR l = 0) : (Ev (fun k => spec_MostTogether.f k l) (0, 0, false) ∧ Ev (fun k => impl_MostTogether.f k l) (0, 0, false)) ∧ (Ev (fun k => spec_TogetherAt.f k l) (0, false) ∧ Ev (fun k => impl_TogetherAt.f k l) (0, false)) := by
  have hcom := spec_com l hl hx
  have hn := impl_none l hl hx hc
  refine ⟨⟨?_, hn⟩, ?_, ?_⟩
  · unfold spec_MostTogether.f
    exact Ev.bind hcom (ev_pos (by omega) (Ev.now _))
  · unfold spec_TogetherAt.f
    exact Ev.bind hcom (ev_pos (by omega) (Ev.now _))
  · unfold impl_TogetherAt.f
    exact Ev.bind hn (ev_neg (by simp) (Ev.now _))
theorem cs_told (l : List S26) (hl : l.length ≤ 1048576) (hx : ∀ x ∈ l, x.f1.length ≤ 1048576) : Ev (fun k => spec_CommonSteps.f k l) ((comR l : Int), decide ((comR l : Int) > 0)) ∧ Ev (fun k => impl_CommonSteps.f k l) ((comR l : Int), decide ((comR l : Int) > 0)) := by
  constructor
  · unfold spec_CommonSteps.f
    exact Ev.bind (spec_com _ hl hx) (Ev.now _)
  · unfold impl_CommonSteps.f
    obtain ⟨q, q1, q2, q3⟩ := impl_com _ hl hx
    refine Ev.bind q1 (ev_ite (fun ht => ev_now ?_) (fun hf => ev_now ?_))
    · obtain ⟨e, hp⟩ := q2 ht
      rw [e, decide_eq_true (by omega)]
    · have e := q3 (by simpa using hf)
      rw [e]; rfl

theorem sameInts (l : List Int) (hl : l.length ≤ 1048576) : Ev (fun k => laws_sameInts.f k l l) true := by
  unfold laws_sameInts.f
  refine ev_pos rfl ?_
  have go := ev_for (fun k (_ : Unit) i => laws_sameInts.l0 k l l (l.length : Int) i) l.length (fun _ _ => True) (fun _ _ => true) (fun s _ => ?_) (fun i s hi _ ih => ?_) 0 () (Nat.zero_le _) trivial
  · exact go
  · refine Ev.step (f := fun _ => some true) (fun k => ?_) (Ev.now _)
    simp only [laws_sameInts.l0]
    rw [if_neg (by omega)]
  · have e1 := wn hi (by omega)
    refine Ev.step (fun k => ?_) (ih () trivial)
    have hi' : (i : Int) < (l.length : Int) := by omega
    have h0 : 0 ≤ (i : Int) := by omega
    simp only [laws_sameInts.l0, e1, if_pos hi', if_pos h0, if_true]
theorem samePat (p : Int) (l : List Int) (hl : l.length ≤ 1048576) : Ev (fun k => laws_pSamePattern.f k p l p l) true := by
  unfold laws_pSamePattern.f
  exact ev_pos rfl (Ev.bind (sameInts l hl) (Ev.now _))
theorem pIn (l : List Int) (x : Int) (hl : l.length ≤ 1048576) : Ev (fun k => laws_pIn.f k l x) (decide (x ∈ l)) := by
  unfold laws_pIn.f
  have h := ev_for (fun k (_ : Unit) i => laws_pIn.l0 k x l (l.length : Int) i) l.length (fun _ _ => True) (fun i _ => decide (x ∈ l.drop i)) (fun s _ => ?_) (fun i s hi _ ih => ?_) 0 () (Nat.zero_le _) trivial
  · simpa using h
  · rw [List.drop_length]
    refine Ev.step (f := fun _ => some false) (fun k => ?_) (ev_now (by simp))
    simp only [laws_pIn.l0]
    rw [if_neg (by omega)]
  · have e1 := wn hi (by omega)
    have er : rd l (i : Int) = l[i] := by unfold rd; rw [rd_get hi]
    rw [List.drop_eq_getElem_cons hi]
    by_cases c : l[i] = x
    · refine Ev.step (f := fun _ => some true) (fun k => ?_) (ev_now (by simp [c]))
      simp only [laws_pIn.l0, er]
      rw [if_pos (by omega), if_pos (by omega), if_pos (by omega), if_pos c]
    · have e : decide (x ∈ l[i] :: l.drop (i + 1)) = decide (x ∈ l.drop (i + 1)) := decide_eq_decide.2 (by rw [List.mem_cons]; exact ⟨fun h => h.resolve_left (fun e => c e.symm), .inr⟩)
      rw [e]
      refine Ev.step (fun k => ?_) (ih () trivial)
      simp only [laws_pIn.l0, er, e1]
      rw [if_pos (by omega), if_pos (by omega), if_pos (by omega), if_neg c]
end Go.Proofs.Ytlhjjpdlfddflac.PureFnDrums
