/- The plain statement of FnDrums: the law's function, over numbers and lists, answers true. No conditions beyond the arguments' own kinds. -/
import Derived.Test.YtlhjjpdlfddflacSFnDrums11
import Derived.Test.YtlhjjpdlfddflacPureFnDrumsf
namespace Go.Proofs.Ytlhjjpdlfddflac.PureFnDrums
open Go Go.RowKit Go.Proofs.Ytlhjjpdlfddflac.PFnDrums Go.Proofs.YtlhjjpdlfddflacW.PrintWords Go.Proofs.YtlhjjpdlfddflacW.PrintLast Go.Proofs.YtlhjjpdlfddflacW.PrintMore Go.Proofs.Ytlhjjpdlfddflac.Lib
set_option linter.unusedVariables false
set_option linter.unusedSimpArgs false
theorem part2 {s : List Int} (hs : Bytes8 s) : Ev (fun k => laws_FnDrums.j3 k s) true := by
  obtain ⟨l, e1, hl, hx⟩ := patterns_ok hs
  have hcs := cs_told l hl hx
  by_cases hc : comR l = 0
  · obtain ⟨⟨m1, m2⟩, t1, t2⟩ := mt_none l hl hx hc
    rw [hc] at hcs
    obtain ⟨c1, c2⟩ := hcs
    refine Ev.step (fun k => rfl) (Ev.bind e1 (Ev.bind m2 (Ev.bind m1 (Ev.bind c2 (Ev.bind c1 (Ev.bind t2 (Ev.bind t1 ?_)))))))
    refine ev_neg (by simp) (ev_pos rfl (ev_pos rfl (ev_neg (by simp) (ev_pos rfl (ev_neg (by simp) (ev_pos rfl (ev_neg (by simp) (ev_neg (by simp) (ev_neg (by simp) (ev_neg (by simp) ?_))))))))))
    exact Ev.step (f := fun k => laws_FnDrums.j9 k s) (fun k => rfl) (part3 hs)
  · have hc' : 0 < comR l := by omega
    obtain ⟨r, ⟨m1, m2⟩, g3, tt, tn⟩ := mt_told l hl hx hc'
    have hd : decide ((comR l : Int) > 0) = true := decide_eq_true (by omega)
    rw [hd] at hcs
    obtain ⟨c1, c2⟩ := hcs
    have fin : Ev (fun k => laws_FnDrums.j4 k s l true r.1 r.2 (comR l : Int) false) true := Ev.step (f := fun k => laws_FnDrums.l1 k s l r.1 r.2 (comR l : Int) l (l.length : Int) 0) (fun k => rfl) (divides hs l hl hx hc' r g3)
    by_cases e : r.2 = l.length
    · obtain ⟨t1, t2⟩ := tt e
      refine Ev.step (fun k => rfl) (Ev.bind e1 (Ev.bind m2 (Ev.bind m1 (Ev.bind c2 (Ev.bind c1 (Ev.bind t2 (Ev.bind t1 ?_)))))))
      refine ev_neg (by simp) (ev_pos rfl (ev_pos rfl (ev_neg (by simp) (ev_pos rfl (ev_neg (by simp) (ev_pos rfl (ev_neg (by simp) (ev_pos rfl (ev_neg (by simp [e]) (ev_pos rfl ?_))))))))))
      show Ev (fun k => laws_FnDrums.j4 k s l true r.1 r.2 (comR l : Int) (r.1 != r.1)) true
      rw [show (r.1 != r.1) = false by simp]
      exact fin
    · obtain ⟨t1, t2⟩ := tn e
      refine Ev.step (fun k => rfl) (Ev.bind e1 (Ev.bind m2 (Ev.bind m1 (Ev.bind c2 (Ev.bind c1 (Ev.bind t2 (Ev.bind t1 ?_)))))))
      exact ev_neg (by simp) (ev_pos rfl (ev_pos rfl (ev_neg (by simp) (ev_pos rfl (ev_neg (by simp) (ev_pos rfl (ev_neg (by simp) (ev_pos rfl (ev_neg (by simp [e]) (ev_neg (by simp) fin))))))))))
/-- Each beat, turned, is a beat of the turned pattern. -/
theorem beats_in {s : List Int} (hs : Bytes8 s) (p : Int) (l : List Int) (y : Int) (hl : l.length ≤ 1048576) (hg : isP p l) (hy : 0 ≤ y ∧ y ≤ 24) : Ev (fun k => laws_FnDrums.l0 k s y l (l.length : Int) 0 p l p (turnT p y l)) true := by
  have hp1 := hg.1
  have hp2 := hg.2.1
  have htl := turnT_len p y l hl hg hy
  refine count_up l.length (fun _ (_ : Unit) => True) (fun i _ => Ev (fun k => laws_FnDrums.l0 k s y l (l.length : Int) (i : Int) p l p (turnT p y l)) true) (fun _ _ => ?_) (fun i _ hi _ ih => ?_) 0 () (Nat.zero_le _) trivial
  · refine Ev.step (fun k => ?_) (part2 hs)
    simp only [laws_FnDrums.l0]
    rw [if_neg (by omega)]
  · have e1 := wn hi (by omega)
    have er : rd l (i : Int) = l[i] := by unfold rd; rw [rd_get hi]
    have hm := List.getElem_mem hi
    have hb := rise_mem hg hm
    have hin := pIn (turnT p y l) (tb p y l[i]) (by omega)
    rw [decide_eq_true (turnT_mem p y l hl hg hy hm)] at hin
    refine Ev.step (f := fun k => (laws_pIn.f k (turnT p y l) (tb p y l[i])).bind fun t => if t = true then laws_FnDrums.l0 k s y l (l.length : Int) ((i + 1 : Nat) : Int) p l p (turnT p y l) else some false) (fun k => ?_) (Ev.bind hin (ev_pos rfl (ih () trivial)))
    simp only [laws_FnDrums.l0, er, e1, tb_ok ⟨hp1, hp2⟩ hy hb]
    rw [if_pos (by omega), if_pos (by omega), if_pos (by omega), if_neg (by omega)]
theorem FnDrums (l0 : List (Int)) (l1 : List (Int)) (w0 : (l0.length ≤ maxLen ∧ ∀ y1 ∈ l0, (Lit.int .u8 y1).wf = true)) (w1 : (l1.length ≤ maxLen ∧ ∀ y1 ∈ l1, (Lit.int .u8 y1).wf = true)) :
    ∃ k, laws_FnDrums.f k l0 l1 = some true := by
  have b8 : ∀ x : Int, (Lit.int .u8 x).wf = true → 0 ≤ x ∧ x ≤ 255 := fun x h => by
    simp [Lit.wf, IntKind.min, IntKind.max, IntKind.signed, IntKind.bits] at h
    omega
  have hs0 : Bytes8 l0 := fun x hx => b8 x (w0.2 x hx)
  have hs1 : Bytes8 l1 := fun x hx => b8 x (w1.2 x hx)
  refine Ev.rounds (g := fun k => laws_FnDrums.f k l0 l1) ?_
  unfold laws_FnDrums.f
  obtain ⟨b, hb⟩ : ∃ b, laws_big.f l0 l1 = some b := by unfold laws_big.f; split <;> exact ⟨_, rfl⟩
  refine ev_call hb ?_
  cases b with
  | true => exact ev_pos rfl (Ev.now _)
  | false =>
    refine ev_neg (by simp) ?_
    obtain ⟨p, l, y, e1, hl⟩ := drawturn_ok hs0
    obtain ⟨t1, t2⟩ := turnp_told p y l hl
    by_cases hg : isP p l ∧ 0 ≤ y ∧ y ≤ 24
    · obtain ⟨hg, hy⟩ := hg
      have e : tpR p y l = (p, turnT p y l, true) := by unfold tpR; rw [if_pos ⟨hg, hy⟩]
      rw [e] at t1 t2
      have htl := turnT_len p y l hl hg hy
      have hti := turnT_isP p y l hl hg hy
      obtain ⟨r, g1, g2, _, g4⟩ := lt_told p p l (turnT p y l) hl (by omega)
      obtain ⟨h1, h2⟩ := g4 hg hti rfl
      have hp := hg.1
      have ep : ((p.toNat : Nat) : Int) = p := by omega
      rw [ep] at h1 h2
      have hm0 := Int.emod_nonneg y (show p ≠ 0 by omega)
      have hm1 := Int.emod_lt_of_pos y (show 0 < p by omega)
      have hmy : y % p ≤ y := by
        obtain ⟨n, hn⟩ : ∃ n : Nat, y = n := ⟨y.toNat, by omega⟩
        rw [hn, ← ep]
        exact Int.ofNat_le.2 (Nat.mod_le n p.toNat)
      have hmod := turnT_mod p y l hg hy.1
      have em : (((y % p).toNat : Nat) : Int) = y % p := by omega
      obtain ⟨r1, r2⟩ := r
      have hr2 : r2 = true := by
        cases r2 with
        | true => rfl
        | false => exact absurd (by rw [em]; exact hmod) (h2 rfl (y % p).toNat (Nat.zero_le _) (by omega))
      subst hr2
      obtain ⟨t, q1, _, _, _, q5⟩ := h1 rfl
      have q1 : r1 = t := q1
      subst q1
      have hle : (t : Int) ≤ y := by
        by_cases c : (y % p).toNat < t
        · exact absurd (by rw [em]; exact hmod) (q5 (y % p).toNat (Nat.zero_le _) c)
        · omega
      refine Ev.bind e1 (Ev.bind t2 (Ev.bind t1 (ev_neg (by simp) (Ev.bind (samePat p (turnT p y l) (by omega)) ?_))))
      refine Ev.step (fun k => rfl) (Ev.bind g2 (Ev.bind g1 (ev_pos rfl (ev_pos rfl (ev_pos rfl (ev_neg (show ¬ (t : Int) > y by omega) ?_))))))
      rw [show (((turnT p y l).length : Int) != (l.length : Int)) = false by rw [htl]; simp]
      exact Ev.step (f := fun k => laws_FnDrums.l0 k l1 y l (l.length : Int) 0 p l p (turnT p y l)) (fun k => rfl) (beats_in hs1 p l y hl hg hy)
    · have e : tpR p y l = (0, [], false) := by unfold tpR; rw [if_neg hg]
      rw [e] at t1 t2
      refine Ev.bind e1 (Ev.bind t2 (Ev.bind t1 (ev_neg (by simp) (Ev.bind (samePat 0 [] (Nat.zero_le _)) ?_))))
      exact Ev.step (f := fun k => laws_FnDrums.j3 k l1) (fun k => rfl) (part2 hs1)
end Go.Proofs.Ytlhjjpdlfddflac.PureFnDrums
