/- The plain statement of FnExactShiftToPass (lemmas): the law's function, over numbers and lists, answers true. No conditions beyond the arguments' own kinds. -/
import Derived.Test.YtipklbjbgbbgpaaGreatSShiftToPass21
import Derived.Test.YtipklbjbgbbgpaaGreatPureFnExactShiftToPassb
namespace Go.Proofs.YtipklbjbgbbgpaaGreat.PureFnExactShiftToPass
open Go Go.RowKit Go.Proofs.YtipklbjbgbbgpaaGreat.PFnExactShiftToPass Go.Proofs.YtipklbjbgbbgpaaGreatW.PrintWords Go.Proofs.YtipklbjbgbbgpaaGreatW.PrintLast Go.Proofs.YtipklbjbgbbgpaaGreatW.PrintMore Go.Proofs.YtipklbjbgbbgpaaGreat.Lib
set_option linter.unusedVariables false
set_option linter.unusedSimpArgs false
/-- Ascending numbers below a bound. -/
def incr (i : Nat) (x : List Int) : Prop := x.length ≤ i ∧ x.Pairwise (· < ·) ∧ ∀ y ∈ x, 0 ≤ y ∧ y < (i : Int)
theorem incr.nil (i : Nat) : incr i [] := ⟨Nat.zero_le _, List.Pairwise.nil, fun y hy => by cases hy⟩
theorem incr.up {i j : Nat} {x : List Int} (h : incr i x) (hij : i ≤ j) : incr j x := ⟨Nat.le_trans h.1 hij, h.2.1, fun y hy => by have := h.2.2 y hy; omega⟩
theorem incr.snoc {i : Nat} {x : List Int} (h : incr i x) : incr (i + 1) (x ++ [(i : Int)]) :=
  ⟨by have := h.1; rw [List.length_append, List.length_singleton]; omega, List.pairwise_append.2 ⟨h.2.1, List.pairwise_singleton _ _, fun a ha b hb => by rw [List.mem_singleton.1 hb]; exact (h.2.2 a ha).2⟩, fun y hy => by
    rcases List.mem_append.1 hy with hy | hy
    · have := h.2.2 y hy; omega
    · rw [List.mem_singleton.1 hy]; omega⟩

/-- The first place of a number, as both find it. -/
theorem index_ev (l : List Int) (x : Int) (hl : l.length ≤ 1048576) : ∃ t : Int, Ev (fun k => slices_Index_int_int.f k l x) t ∧ (∀ rp, Ev (fun k => spec_inTrack.f k l rp x) t) ∧ -1 ≤ t ∧ t < 1048576 := by
  have key := count_up l.length (fun _ (_ : Unit) => True) (fun i _ => ∃ t : Int, Ev (fun k => slices_Index_int_int.l0 k l x (l.length : Int) (i : Int)) t ∧ Ev (fun k => spec_inTrack.l0 k x l (l.length : Int) (i : Int)) t ∧ -1 ≤ t ∧ t < 1048576) (fun _ _ => ?_) (fun i _ hi _ ih => ?_) 0 () (Nat.zero_le _) trivial
  · obtain ⟨t, h1, h2, h3⟩ := key
    exact ⟨t, h1, fun _ => h2, h3⟩
  · refine ⟨-1, Ev.step (f := fun _ => some (-1)) (fun k => ?_) (Ev.now _), Ev.step (f := fun _ => some (-1)) (fun k => ?_) (Ev.now _), by omega, by omega⟩
    · simp only [slices_Index_int_int.l0]
      rw [if_neg (by omega)]
    · simp only [spec_inTrack.l0]
      rw [if_neg (by omega)]
  · have e1 := wn hi (by omega)
    by_cases c : rd l (i : Int) = x
    · refine ⟨(i : Int), Ev.step (f := fun _ => some (i : Int)) (fun k => ?_) (Ev.now _), Ev.step (f := fun _ => some (i : Int)) (fun k => ?_) (Ev.now _), by omega, by omega⟩
      · simp only [slices_Index_int_int.l0]
        rw [if_pos (by omega), if_pos (by omega), if_pos (by omega), if_pos c.symm]
      · simp only [spec_inTrack.l0]
        rw [if_pos (by omega), if_pos (by omega), if_pos (by omega), if_pos c]
    · obtain ⟨t, h1, h2, h3⟩ := ih () trivial
      refine ⟨t, Ev.step (fun k => ?_) h1, Ev.step (fun k => ?_) h2, h3⟩
      · simp only [slices_Index_int_int.l0, e1]
        rw [if_pos (by omega), if_pos (by omega), if_pos (by omega), if_neg (fun h => c h.symm)]
      · simp only [spec_inTrack.l0, e1]
        rw [if_pos (by omega), if_pos (by omega), if_pos (by omega), if_neg c]
def okM (n : Nat) (r : List Int × List Int) : Prop := (∀ x ∈ r.1, -1 ≤ x ∧ x < n) ∧ incr n r.2
section
variable (pi : List Int) (rp : Int) (l : List S55) (s : List S59) (used : List Bool) (out : List Int) (a b c n i t : Int) (r : List Int × List Int)
/-- A hole that a note of the track t may take. -/
def fitsM (j : Nat) : Prop := (rd_T59 s j).f0 = t ∧ rdOf false used (j : Int) = false
theorem spec_pass (hu : used.length = s.length) (hs : s.length ≤ 60) (t2 : Ev (fun k => spec_inTrack.f k pi rp a) t) (j : Nat) (hj : j < s.length) (hc : ¬ fitsM s used t j)
    (h : Ev (fun k => spec_vfMatch.l1 k s used out (-1) l n i s (s.length : Int) ((j + 1 : Nat) : Int) pi rp a b c) r) : Ev (fun k => spec_vfMatch.l1 k s used out (-1) l n i s (s.length : Int) (j : Int) pi rp a b c) r := by
  have e2 := wn hj (by omega)
  by_cases cc : rdOf false used (j : Int) = true
  · refine Ev.step (fun k => ?_) h
    simp only [spec_vfMatch.l1, e2]
    rw [if_pos (by omega), if_pos (by omega), if_pos (by omega), if_pos (by omega), if_pos (by omega), if_pos cc]
  · refine Ev.step (f := fun k => (spec_inTrack.f k pi rp a).bind fun t224 => (if ((rd_T59 s j).f0) = t224 then (spec_vfMatch.l1 k s used out (j : Int) l n i s (s.length : Int) ((j + 1 : Nat) : Int) pi rp a b c) else (spec_vfMatch.l1 k s used out (-1) l n i s (s.length : Int) ((j + 1 : Nat) : Int) pi rp a b c))) (fun k => ?_) (Ev.bind t2 (ev_neg (fun h => hc ⟨h, by simpa using cc⟩) h))
    simp only [spec_vfMatch.l1, e2]
    rw [if_pos (by omega), if_pos (by omega), if_pos (by omega), if_pos (by omega), if_pos (by omega), if_neg cc]
theorem spec_hit (hu : used.length = s.length) (hs : s.length ≤ 60) (t2 : Ev (fun k => spec_inTrack.f k pi rp a) t) (j : Nat) (hj : j < s.length) (hc : fitsM s used t j)
    (h : Ev (fun k => spec_vfMatch.l1 k s used out (j : Int) l n i s (s.length : Int) ((j + 1 : Nat) : Int) pi rp a b c) r) : Ev (fun k => spec_vfMatch.l1 k s used out (-1) l n i s (s.length : Int) (j : Int) pi rp a b c) r := by
  have e2 := wn hj (by omega)
  have cc : ¬ rdOf false used (j : Int) = true := by rw [hc.2]; simp
  refine Ev.step (f := fun k => (spec_inTrack.f k pi rp a).bind fun t224 => (if ((rd_T59 s j).f0) = t224 then (spec_vfMatch.l1 k s used out (j : Int) l n i s (s.length : Int) ((j + 1 : Nat) : Int) pi rp a b c) else (spec_vfMatch.l1 k s used out (-1) l n i s (s.length : Int) ((j + 1 : Nat) : Int) pi rp a b c))) (fun k => ?_) (Ev.bind t2 (ev_pos hc.1 h))
  simp only [spec_vfMatch.l1, e2]
  rw [if_pos (by omega), if_pos (by omega), if_pos (by omega), if_pos (by omega), if_pos (by omega), if_neg cc]
theorem spec_rest (hs : s.length ≤ 60) (m : Int) (hm : 0 ≤ m) (j : Nat) (hj : j < s.length)
    (h : Ev (fun k => spec_vfMatch.l1 k s used out m l n i s (s.length : Int) ((j + 1 : Nat) : Int) pi rp a b c) r) : Ev (fun k => spec_vfMatch.l1 k s used out m l n i s (s.length : Int) (j : Int) pi rp a b c) r := by
  have e2 := wn hj (by omega)
  refine Ev.step (fun k => ?_) h
  simp only [spec_vfMatch.l1, e2]
  rw [if_pos (by omega), if_pos (by omega), if_pos (by omega), if_neg (by omega)]
theorem impl_pass (hu : used.length = s.length) (hs : s.length ≤ 60) (j : Nat) (hj : j < s.length) (hc : ¬ fitsM s used t j)
    (h : Ev (fun k => impl_matched.l1 k s used out t (-1) l n i s (s.length : Int) ((j + 1 : Nat) : Int) pi rp) r) : Ev (fun k => impl_matched.l1 k s used out t (-1) l n i s (s.length : Int) (j : Int) pi rp) r := by
  have e2 := wn hj (by omega)
  refine Ev.step (fun k => ?_) h
  simp only [impl_matched.l1, e2]
  rw [if_pos (by omega), if_pos (by omega), if_pos (by omega)]
  by_cases ct : t ≥ 0
  · rw [if_pos ct]
    by_cases cf : (rd_T59 s j).f0 = t
    · rw [if_pos cf, if_pos (by omega), if_pos (by simpa using fun h => hc ⟨cf, h⟩)]
    · rw [if_neg cf]
  · rw [if_neg ct]
theorem spec_none (hu : used.length = s.length) (hs : s.length ≤ 60) (hout : out.length ≤ 1048576) (i' : Int) (ei : wrap64 (i + 1) = i') (t2 : Ev (fun k => spec_inTrack.f k pi rp a) t) (hn : ∀ j, j < s.length → ¬ fitsM s used t j)
    (h : Ev (fun k => spec_vfMatch.l0 k s used (out ++ [-1]) l n i' pi rp) r) : Ev (fun k => spec_vfMatch.l1 k s used out (-1) l n i s (s.length : Int) 0 pi rp a b c) r := by
  refine skip_loop (fun k j => spec_vfMatch.l1 k s used out (-1) l n i s (s.length : Int) j pi rp a b c) r 0 s.length (Nat.zero_le _) (fun j _ hj h => spec_pass pi rp l s used out a b c n i t r hu hs t2 j hj (hn j hj) h) ?_
  refine Ev.step (fun k => ?_) h
  simp only [spec_vfMatch.l1, ei]
  rw [if_neg (by omega), if_neg (by omega), if_pos (by omega)]
theorem spec_some (hu : used.length = s.length) (hs : s.length ≤ 60) (hout : out.length ≤ 1048576) (i' : Int) (ei : wrap64 (i + 1) = i') (t2 : Ev (fun k => spec_inTrack.f k pi rp a) t) (m : Nat) (hm : m < s.length) (hc : fitsM s used t m) (hn : ∀ j, j < m → ¬ fitsM s used t j)
    (h : Ev (fun k => spec_vfMatch.l0 k s (used.set m true) (out ++ [(m : Int)]) l n i' pi rp) r) : Ev (fun k => spec_vfMatch.l1 k s used out (-1) l n i s (s.length : Int) 0 pi rp a b c) r := by
  refine skip_loop (fun k j => spec_vfMatch.l1 k s used out (-1) l n i s (s.length : Int) j pi rp a b c) r 0 m (Nat.zero_le _) (fun j _ hj h => spec_pass pi rp l s used out a b c n i t r hu hs t2 j (Nat.lt_trans hj hm) (hn j hj) h) ?_
  refine spec_hit pi rp l s used out a b c n i t r hu hs t2 m hm hc ?_
  refine skip_loop (fun k j => spec_vfMatch.l1 k s used out (m : Int) l n i s (s.length : Int) j pi rp a b c) r (m + 1) s.length hm (fun j _ hj h => spec_rest pi rp l s used out a b c n i r hs (m : Int) (by omega) j hj h) ?_
  refine Ev.step (fun k => ?_) h
  simp only [spec_vfMatch.l1, ei, Int.toNat_natCast]
  rw [if_neg (by omega), if_pos (by omega), if_pos (by omega), if_pos (by omega), if_pos (by omega)]
theorem impl_none (hu : used.length = s.length) (hs : s.length ≤ 60) (hout : out.length ≤ 1048576) (i' : Int) (ei : wrap64 (i + 1) = i') (hn : ∀ j, j < s.length → ¬ fitsM s used t j)
    (h : Ev (fun k => impl_matched.l0 k s used (out ++ [-1]) l n i' pi rp) r) : Ev (fun k => impl_matched.l1 k s used out t (-1) l n i s (s.length : Int) 0 pi rp) r := by
  refine skip_loop (fun k j => impl_matched.l1 k s used out t (-1) l n i s (s.length : Int) j pi rp) r 0 s.length (Nat.zero_le _) (fun j _ hj h => impl_pass pi rp l s used out n i t r hu hs j hj (hn j hj) h) ?_
  refine Ev.step (fun k => ?_) h
  simp only [impl_matched.l1, ei]
  rw [if_neg (by omega), if_pos (by omega)]
theorem impl_some (hu : used.length = s.length) (hs : s.length ≤ 60) (hout : out.length ≤ 1048576) (i' : Int) (ei : wrap64 (i + 1) = i') (m : Nat) (hm : m < s.length) (ht : t ≥ 0) (hc : fitsM s used t m) (hn : ∀ j, j < m → ¬ fitsM s used t j)
    (h : Ev (fun k => impl_matched.l0 k s (used.set m true) (out ++ [(m : Int)]) l n i' pi rp) r) : Ev (fun k => impl_matched.l1 k s used out t (-1) l n i s (s.length : Int) 0 pi rp) r := by
  refine skip_loop (fun k j => impl_matched.l1 k s used out t (-1) l n i s (s.length : Int) j pi rp) r 0 m (Nat.zero_le _) (fun j _ hj h => impl_pass pi rp l s used out n i t r hu hs j (Nat.lt_trans hj hm) (hn j hj) h) ?_
  have cc : ¬ rdOf false used (m : Int) = true := by rw [hc.2]; simp
  refine Ev.step (fun k => ?_) h
  simp only [impl_matched.l1, ei, Int.toNat_natCast]
  rw [if_pos (by omega), if_pos (by omega), if_pos (by omega), if_pos ht, if_pos hc.1, if_pos (by omega), if_neg cc, if_pos (by omega)]
/-- The holes that are left over. -/
theorem extra_ev (hu : used.length = s.length) (hs : s.length ≤ 60) : ∃ ex : List Int, Ev (fun k => spec_vfMatch.l2 k out [] used (used.length : Int) 0) (out, ex) ∧ Ev (fun k => impl_matched.l2 k used out [] (s.length : Int) 0) (out, ex) ∧ incr s.length ex := by
  refine count_up s.length (fun i (ex : List Int) => incr i ex)
    (fun i ex => ∃ ex2 : List Int, Ev (fun k => spec_vfMatch.l2 k out ex used (used.length : Int) (i : Int)) (out, ex2) ∧ Ev (fun k => impl_matched.l2 k used out ex (s.length : Int) (i : Int)) (out, ex2) ∧ incr s.length ex2)
    (fun ex hex => ?_) (fun i ex hi hex ih => ?_) 0 [] (Nat.zero_le _) (incr.nil _)
  · refine ⟨ex, Ev.step (f := fun _ => some (out, ex)) (fun k => ?_) (Ev.now _), Ev.step (f := fun _ => some (out, ex)) (fun k => ?_) (Ev.now _), hex⟩
    · simp only [spec_vfMatch.l2]
      rw [if_neg (by omega)]
    · simp only [impl_matched.l2]
      rw [if_neg (by omega)]
  · have e1 := wn hi (by omega)
    have hexl := hex.1
    by_cases cc : rdOf false used (i : Int) = true
    · obtain ⟨r, g1, g2, g3⟩ := ih ex (hex.up (Nat.le_succ i))
      refine ⟨r, Ev.step (fun k => ?_) g1, Ev.step (fun k => ?_) g2, g3⟩
      · simp only [spec_vfMatch.l2, e1]
        rw [if_pos (by omega), if_pos (by omega), if_pos (by omega), if_pos cc]
      · simp only [impl_matched.l2, e1]
        rw [if_pos (by omega), if_pos (by omega), if_pos (by omega), if_pos cc]
    · obtain ⟨r, g1, g2, g3⟩ := ih (ex ++ [(i : Int)]) hex.snoc
      refine ⟨r, Ev.step (fun k => ?_) g1, Ev.step (fun k => ?_) g2, g3⟩
      · simp only [spec_vfMatch.l2, e1]
        rw [if_pos (by omega), if_pos (by omega), if_pos (by omega), if_neg cc, if_pos (by omega)]
      · simp only [impl_matched.l2, e1]
        rw [if_pos (by omega), if_pos (by omega), if_pos (by omega), if_neg cc, if_pos (by omega)]
end
theorem matched_ev (pi : List Int) (rp : Int) (l : List S55) (s : List S59) (h1 : pi.length ≤ 1048576) (h2 : l.length ≤ 1048576) (hs : isSh s) :
    ∃ r : List Int × List Int, Ev (fun k => spec_vfMatch.f k pi rp l s) r ∧ Ev (fun k => impl_matched.f k pi rp l s) r ∧ r.1.length = l.length ∧ okM s.length r := by
  have h60 := hs.1
  unfold spec_vfMatch.f impl_matched.f
  have key := count_up l.length (fun i (st : List Bool × List Int) => st.1.length = s.length ∧ st.2.length = i ∧ ∀ x ∈ st.2, -1 ≤ x ∧ x < s.length)
    (fun i st => ∃ r : List Int × List Int, Ev (fun k => spec_vfMatch.l0 k s st.1 st.2 l (l.length : Int) (i : Int) pi rp) r ∧ Ev (fun k => impl_matched.l0 k s st.1 st.2 l (l.length : Int) (i : Int) pi rp) r ∧ r.1.length = l.length ∧ okM s.length r)
    (fun st hst => ?_) (fun i st hi hst ih => ?_) 0 (List.replicate s.length false, []) (Nat.zero_le _) ⟨by simp, rfl, fun x hx => by cases hx⟩
  · obtain ⟨r, g1, g2, g3⟩ := key
    refine ⟨r, ev_pos (by omega) (ev_pos (by omega) ?_), ev_pos (by omega) (ev_pos (by omega) ?_), g3⟩
    · simpa using g1
    · simpa using g2
  · obtain ⟨hu, ho, hx⟩ := hst
    obtain ⟨ex, g1, g2, g3⟩ := extra_ev s st.1 st.2 hu h60
    refine ⟨(st.2, ex), Ev.step (fun k => ?_) g1, Ev.step (fun k => ?_) g2, ho, hx, g3⟩
    · simp only [spec_vfMatch.l0]
      rw [if_neg (by omega)]
    · simp only [impl_matched.l0]
      rw [if_neg (by omega)]
  · obtain ⟨hu, ho, hx⟩ := hst
    have e1 := wn hi (by omega)
    obtain ⟨t, t1, t2, t3, t4⟩ := index_ev pi (rd_T55 l i).f0 h1
    have happ : ∀ z : Int, -1 ≤ z → z < s.length → (st.2 ++ [z]).length = i + 1 ∧ ∀ x ∈ st.2 ++ [z], -1 ≤ x ∧ x < s.length := by
      intro z hz1 hz2
      refine ⟨by simp; omega, fun x hx' => ?_⟩
      rcases List.mem_append.1 hx' with hx' | hx'
      · exact hx x hx'
      · rw [List.mem_singleton.1 hx']; omega
    have hsp : ∀ r, Ev (fun k => spec_vfMatch.l1 k s st.1 st.2 (-1) l (l.length : Int) (i : Int) s (s.length : Int) 0 pi rp (rd_T55 l i).f0 (rd_T55 l i).f1 (rd_T55 l i).f2) r → Ev (fun k => spec_vfMatch.l0 k s st.1 st.2 l (l.length : Int) (i : Int) pi rp) r := by
      intro r h
      refine Ev.step (fun k => ?_) h
      simp only [spec_vfMatch.l0]
      rw [if_pos (by omega), if_pos (by omega), if_pos (by omega)]
    have him : ∀ r, Ev (fun k => impl_matched.l1 k s st.1 st.2 t (-1) l (l.length : Int) (i : Int) s (s.length : Int) 0 pi rp) r → Ev (fun k => impl_matched.l0 k s st.1 st.2 l (l.length : Int) (i : Int) pi rp) r := by
      intro r h
      refine Ev.step (f := fun k => (slices_Index_int_int.f k pi (rd_T55 l i).f0).bind fun t293 => (impl_matched.l1 k s st.1 st.2 t293 (-1) l (l.length : Int) (i : Int) s (s.length : Int) 0 pi rp)) (fun k => ?_) (Ev.bind t1 h)
      simp only [impl_matched.l0]
      rw [if_pos (by omega), if_pos (by omega), if_pos (by omega)]
    have hol : st.2.length ≤ 1048576 := by omega
    rcases first_or_none (fitsM s st.1 t) s.length with hn | ⟨m, hm, hc, hb⟩
    · obtain ⟨r, g1, g2, g3⟩ := ih (st.1, st.2 ++ [-1]) ⟨hu, happ (-1) (by omega) (by omega)⟩
      exact ⟨r, hsp r (spec_none _ _ _ _ _ _ _ _ _ _ _ _ _ hu h60 hol _ e1 (t2 rp) hn g1), him r (impl_none _ _ _ _ _ _ _ _ _ _ hu h60 hol _ e1 hn g2), g3⟩
    · obtain ⟨r, g1, g2, g3⟩ := ih (st.1.set m true, st.2 ++ [(m : Int)]) ⟨by rw [List.length_set]; exact hu, happ (m : Int) (by omega) (by omega)⟩
      have ht0 : t ≥ 0 := by
        have hok := isSh_get hs hm
        have er : rd_T59 s (m : Int) = s[m] := by unfold rd_T59; rw [rd_get hm]
        unfold okH at hok
        have := hc.1
        rw [er] at this
        omega
      exact ⟨r, hsp r (spec_some _ _ _ _ _ _ _ _ _ _ _ _ _ hu h60 hol _ e1 (t2 rp) m hm hc hb g1), him r (impl_some _ _ _ _ _ _ _ _ _ _ hu h60 hol _ e1 m hm ht0 hc hb g2), g3⟩
end Go.Proofs.YtipklbjbgbbgpaaGreat.PureFnExactShiftToPass
