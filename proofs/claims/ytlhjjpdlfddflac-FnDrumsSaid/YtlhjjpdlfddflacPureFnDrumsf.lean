/- The plain statement of FnDrums (lemmas): the law's function, over numbers and lists, answers true. No conditions beyond the arguments' own kinds. -/
import Derived.Test.YtlhjjpdlfddflacSFnDrums11
import Derived.Test.YtlhjjpdlfddflacPureFnDrumse
namespace Go.Proofs.Ytlhjjpdlfddflac.PureFnDrums
open Go Go.RowKit Go.Proofs.Ytlhjjpdlfddflac.PFnDrums Go.Proofs.YtlhjjpdlfddflacW.PrintWords Go.Proofs.YtlhjjpdlfddflacW.PrintLast Go.Proofs.YtlhjjpdlfddflacW.PrintMore Go.Proofs.Ytlhjjpdlfddflac.Lib
set_option linter.unusedVariables false
set_option linter.unusedSimpArgs false
/-- The last part: what LeastTurn finds turns the one pattern into the other. -/
theorem part3 {s : List Int} (hs : Bytes8 s) : Ev (fun k => laws_FnDrums.j9 k s) true := by
  obtain ⟨p, l, q, b, e1, hl, hb⟩ := drawleast_ok hs
  obtain ⟨r, g1, g2, g3, g4⟩ := lt_told p q l b hl hb
  refine Ev.step (fun k => rfl) (Ev.bind e1 (Ev.bind g2 (Ev.bind g1 (ev_neg (by simp) ?_))))
  obtain ⟨r1, r2⟩ := r
  show Ev (fun k => laws_FnDrums.j10 k r2 r1 (r1 != r1) p l q b) true
  rw [show (r1 != r1) = false by simp]
  cases r2 with
  | false => exact Ev.step (f := fun _ => some true) (fun k => rfl) (Ev.now _)
  | true =>
    obtain ⟨hg, hh, e⟩ := g3 rfl
    subst e
    obtain ⟨t, t1, _, t3, t4, _⟩ := (g4 hg hh rfl).1 rfl
    have t1 : r1 = t := t1
    subst t1
    have h1 := hg.1
    have h2 := hg.2.1
    have ep : ((p.toNat : Nat) : Int) = p := by omega
    rw [ep] at t4
    have ht := (turnp_told p t l hl).2
    have e : tpR p t l = (p, b, true) := by unfold tpR; rw [if_pos ⟨hg, by omega, by omega⟩, t4]
    rw [e] at ht
    exact Ev.step (fun k => rfl) (Ev.bind ht (ev_pos rfl (Ev.bind (samePat p b hb) (Ev.now _))))
theorem inner {s : List Int} (l : List S26) (hl : l.length ≤ 1048576) (hx : ∀ x ∈ l, x.f1.length ≤ 1048576) (h0 : ∀ x ∈ l, x.f0 ≠ 0) (f m c : Int) (i : Nat) (hi : i < 1000000) (hm : cntAt l i ≤ m) (hf : cntAt l i = m → f ≤ i) (he : (i : Int) = f → cntAt l i = m)
    (h : Ev (fun k => laws_FnDrums.l2 k s l f m c ((i + 1 : Nat) : Int)) true) : Ev (fun k => laws_FnDrums.l3 k s l f m c (i : Int) 0 l (l.length : Int) 0) true := by
  have e2 : wrap64 ((i : Int) + 1) = ((i + 1 : Nat) : Int) := by unfold wrap64; omega
  have := count_up l.length (fun _ (_ : Int) => True) (fun j a => (l.drop j).foldl (beatsIn (i : Int)) a = cntAt l i → Ev (fun k => laws_FnDrums.l3 k s l f m c (i : Int) a l (l.length : Int) (j : Int)) true)
    (fun a _ ha => ?_) (fun j a hj _ ih ha => ?_) 0 0 (Nat.zero_le _) trivial rfl
  · exact this
  · rw [List.drop_length] at ha
    have ha : a = cntAt l i := ha
    refine Ev.step (fun k => ?_) h
    simp only [laws_FnDrums.l3, e2]
    rw [if_neg (by omega), if_neg (by omega)]
    by_cases c1 : a = m
    · have := hf (by omega)
      rw [if_pos c1, if_neg (by omega)]
      split <;> rfl
    · rw [if_neg c1, if_neg (fun e => c1 (by rw [ha]; exact he e))]
  · have e1 := wn hj (by omega)
    have er : rd_T26 l (j : Int) = l[j] := by unfold rd_T26; rw [rd_get hj]
    have hmm := List.getElem_mem hj
    have hb := pIn l[j].f1 (Int.tmod (i : Int) l[j].f0) (hx _ hmm)
    rw [List.drop_eq_getElem_cons hj, List.foldl_cons] at ha
    refine Ev.step (f := fun k => (laws_pIn.f k l[j].f1 (Int.tmod (i : Int) l[j].f0)).bind fun t => if t = true then laws_FnDrums.l3 k s l f m c (i : Int) (wrap64 (a + 1)) l (l.length : Int) ((j + 1 : Nat) : Int) else laws_FnDrums.l3 k s l f m c (i : Int) a l (l.length : Int) ((j + 1 : Nat) : Int)) (fun k => ?_) (Ev.bind hb ?_)
    · simp only [laws_FnDrums.l3, er, e1]
      rw [if_pos (by omega), if_pos (by omega), if_pos (by omega), if_neg (h0 _ hmm)]
    · refine ev_ite (fun ht => ?_) (fun hf => ?_)
      · have e : beatsIn (i : Int) a l[j] = wrap64 (a + 1) := by unfold beatsIn; rw [if_pos (of_decide_eq_true ht)]
        rw [e] at ha
        exact ih _ trivial ha
      · have e : beatsIn (i : Int) a l[j] = a := by unfold beatsIn; rw [if_neg (by simpa using hf)]
        rw [e] at ha
        exact ih _ trivial ha
theorem steps {s : List Int} (hs : Bytes8 s) (l : List S26) (hl : l.length ≤ 1048576) (hx : ∀ x ∈ l, x.f1.length ≤ 1048576) (hc : 0 < comR l) (r : Int × Int) (hr : MoP l (comR l) r) : Ev (fun k => laws_FnDrums.l2 k s l r.1 r.2 (comR l : Int) 0) true := by
  have hgood := good_com hc
  have hle : comR l ≤ 5040 := by rw [hgood.2.2.2.2]; exact hgood.2.2.2.1
  have h0 : ∀ x ∈ l, x.f0 ≠ 0 := fun x hm => by have := (hgood.2.2.1 x hm).1; omega
  obtain ⟨f, f1, f2, f3, f4, f5⟩ := hr
  refine count_up (min (comR l) 200) (fun _ (_ : Unit) => True) (fun i _ => Ev (fun k => laws_FnDrums.l2 k s l r.1 r.2 (comR l : Int) (i : Int)) true) (fun _ _ => ?_) (fun i _ hi _ ih => ?_) 0 () (Nat.zero_le _) trivial
  · refine Ev.step (f := fun k => laws_FnDrums.j7 k s l r.1 r.2 (comR l : Int) ((min (comR l) 200 : Nat) : Int) false) (fun k => ?_) (Ev.step (f := fun k => laws_FnDrums.j9 k s) (fun k => rfl) (part3 hs))
    simp only [laws_FnDrums.l2]
    by_cases c : ((min (comR l) 200 : Nat) : Int) < (comR l : Int)
    · rw [if_pos c, show decide (((min (comR l) 200 : Nat) : Int) < 200) = false from decide_eq_false (by omega)]
    · rw [if_neg c]
  · have hi1 : i < comR l := by omega
    have hi2 : i < 200 := by omega
    refine Ev.step (f := fun k => laws_FnDrums.j7 k s l r.1 r.2 (comR l : Int) (i : Int) true) (fun k => ?_) (Ev.step (f := fun k => laws_FnDrums.l3 k s l r.1 r.2 (comR l : Int) (i : Int) 0 l (l.length : Int) 0) (fun k => rfl) (inner l hl hx h0 r.1 r.2 (comR l : Int) i (by omega) (f4 i hi1) (fun e => ?_) (fun e => ?_) (ih () trivial)))
    · simp only [laws_FnDrums.l2]
      rw [if_pos (by omega), show decide ((i : Int) < 200) = true from decide_eq_true (by omega)]
    · by_cases c : f ≤ i
      · omega
      · have := f5 i (by omega); omega
    · have : i = f := by omega
      subst this
      omega
theorem divides {s : List Int} (hs : Bytes8 s) (l : List S26) (hl : l.length ≤ 1048576) (hx : ∀ x ∈ l, x.f1.length ≤ 1048576) (hc : 0 < comR l) (r : Int × Int) (hr : MoP l (comR l) r) : Ev (fun k => laws_FnDrums.l1 k s l r.1 r.2 (comR l : Int) l (l.length : Int) 0) true := by
  have hgood := good_com hc
  refine count_up l.length (fun _ (_ : Unit) => True) (fun i _ => Ev (fun k => laws_FnDrums.l1 k s l r.1 r.2 (comR l : Int) l (l.length : Int) (i : Int)) true) (fun _ _ => ?_) (fun i _ hi _ ih => ?_) 0 () (Nat.zero_le _) trivial
  · refine Ev.step (fun k => ?_) (steps hs l hl hx hc r hr)
    simp only [laws_FnDrums.l1]
    rw [if_neg (by omega)]
  · have e1 := wn hi (by omega)
    have er : rd_T26 l (i : Int) = l[i] := by unfold rd_T26; rw [rd_get hi]
    have hmm := List.getElem_mem hi
    have hp := (hgood.2.2.1 _ hmm).1
    have hd := (lcm_dvd l 1).2 _ hmm
    have hz : Int.tmod (comR l : Int) l[i].f0 = 0 := by
      obtain ⟨n, hn⟩ : ∃ n : Nat, l[i].f0 = n := ⟨l[i].f0.toNat, by omega⟩
      rw [hn] at hd ⊢
      rw [Int.toNat_natCast, ← hgood.2.2.2.2] at hd
      have : Int.tmod (comR l : Int) (n : Int) = ((comR l % n : Nat) : Int) := rfl
      rw [this, Nat.mod_eq_zero_of_dvd hd]
      rfl
    refine Ev.step (fun k => ?_) (ih () trivial)
    simp only [laws_FnDrums.l1, er, e1]
    rw [if_pos (by omega), if_pos (by omega), if_pos (by omega), if_neg (by omega), if_pos hz]
end Go.Proofs.Ytlhjjpdlfddflac.PureFnDrums
