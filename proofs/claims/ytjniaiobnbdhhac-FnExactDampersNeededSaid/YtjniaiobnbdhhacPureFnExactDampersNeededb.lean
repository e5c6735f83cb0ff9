/- The plain statement of FnExactDampersNeeded (lemmas): the law's function, over numbers and lists, answers true. No conditions beyond the arguments' own kinds. -/
import Derived.Test.YtjniaiobnbdhhacSDampersNeeded10
import Derived.Test.YtjniaiobnbdhhacPureFnExactDampersNeededa
namespace Go.Proofs.Ytjniaiobnbdhhac.PureFnExactDampersNeeded
open Go Go.RowKit Go.Proofs.Ytjniaiobnbdhhac.PFnExactDampersNeeded Go.Proofs.YtjniaiobnbdhhacW.PrintWords Go.Proofs.YtjniaiobnbdhhacW.PrintLast Go.Proofs.YtjniaiobnbdhhacW.PrintMore Go.Proofs.Ytjniaiobnbdhhac.Lib
set_option linter.unusedVariables false
set_option linter.unusedSimpArgs false
theorem give_outer (l : List S99) (s : List S97) (rest : Int) (x9 : List Int) (hl : l.length ≤ 1048576) (hsl : s.length ≤ 40) (hs : areS s) (hr : 1 ≤ rest ∧ rest ≤ 200) (hrel : Rel l.length rest x9 (fun _ => none)) :
    ∃ r : List Int × Bool, Ev (fun k => spec_coGive.l1 k l rest [] x9 s (s.length : Int) 0) r ∧ Ev (fun k => impl_giveTeeth.l0 k l rest [] (fun _ => none) s (s.length : Int) 0) r ∧ Gd l.length s.length r := by
  refine count_up s.length (fun i (st : List Int × List Int × (Int → Option Int)) => st.1.length = i ∧ Rel l.length rest st.2.1 st.2.2 ∧ ∀ x ∈ st.1, 0 ≤ x ∧ x < (l.length : Int)) (fun i st => ∃ r : List Int × Bool, Ev (fun k => spec_coGive.l1 k l rest st.1 st.2.1 s (s.length : Int) (i : Int)) r ∧ Ev (fun k => impl_giveTeeth.l0 k l rest st.1 st.2.2 s (s.length : Int) (i : Int)) r ∧ Gd l.length s.length r) (fun st hst => ?_) (fun i st hi hst ih => ?_) 0 ([], x9, fun _ => none) (Nat.zero_le _) ⟨rfl, hrel, fun x h => by cases h⟩
  · refine ⟨(st.1, true), Ev.step (f := fun _ => some (st.1, true)) (fun k => ?_) (Ev.now _), Ev.step (f := fun _ => some (st.1, true)) (fun k => ?_) (Ev.now _), ⟨by show st.1.length ≤ 1048576; omega, fun _ => ⟨hst.1, hst.2.2⟩⟩⟩
    · simp only [spec_coGive.l1]
      rw [if_neg (by omega)]
    · simp only [impl_giveTeeth.l0]
      rw [if_neg (by omega)]
  · have r1 : rd_T97 s (i : Int) = s[i] := rd_get hi
    have hg := areS_get hs hi
    have e1 := wn hi (by omega)
    obtain ⟨ts, t1, t2, t3, t4⟩ := teeth_ev l s[i].f0 hl
    obtain ⟨r, q1, q2, q3⟩ := give_inner l s rest s[i].f1 s[i].f0 st.1 st.2.1 ts st.2.2 (i : Int) hl (by omega) t4 hr ⟨hg.2.2.1, hg.2.2.2⟩ hst.2.1 (by omega) (fun g hgl => by
      have := ih (st.1 ++ [(g : Int)], st.2.1.set g s[i].f1, impl_giveTeeth.upd st.2.2 (g : Int) s[i].f1) ⟨by simp [hst.1], rel_set hst.2.1 hgl hg.2.2.1 hg.2.2.2, fun x hx => by
        rcases List.mem_append.1 hx with h | h
        · exact hst.2.2 x h
        · rw [List.mem_singleton.1 h]; omega⟩
      rw [e1]
      exact this)
    refine ⟨r, Ev.step (f := fun k => (spec_coTeeth.f k l s[i].f0).bind fun t => spec_coGive.l2 k l rest st.1 st.2.1 (-1) s (s.length : Int) (i : Int) t (t.length : Int) 0 s[i].f0 s[i].f1) (fun k => ?_) (Ev.bind t1 q1), Ev.step (f := fun k => (impl_teethOf.f k l s[i].f0).bind fun t => impl_giveTeeth.l1 k l rest st.1 st.2.2 s (s.length : Int) (i : Int) s[i].f1 (-1) t (t.length : Int) 0) (fun k => ?_) (Ev.bind t2 q2), q3⟩
    · simp only [spec_coGive.l1, r1]
      rw [if_pos (by omega), if_pos (by omega), if_pos (by omega)]
    · simp only [impl_giveTeeth.l0, r1]
      rw [if_pos (by omega), if_pos (by omega), if_pos (by omega)]
theorem give_fill (l : List S99) (s : List S97) (rest : Int) (hl : l.length ≤ 1048576) (hr : 1 ≤ rest ∧ rest ≤ 200) {r : List Int × Bool} (h : ∀ x9, Rel l.length rest x9 (fun _ => none) → Ev (fun k => spec_coGive.l1 k l rest [] x9 s (s.length : Int) 0) r) : Ev (fun k => spec_coGive.f k l s rest) r := by
  unfold spec_coGive.f
  refine ev_pos (by omega) (ev_pos (by omega) (ev_call rfl ?_))
  simp only [Int.toNat_natCast, List.length_replicate]
  refine count_up l.length (fun i (st : List Int) => st.length = l.length ∧ ∀ j, j < i → rd st (j : Int) = -rest) (fun i st => Ev (fun k => spec_coGive.l0 k l s rest st (l.length : Int) (i : Int)) r) (fun st hst => ?_) (fun i st hi hst ih => ?_) 0 (List.replicate l.length 0) (Nat.zero_le _) ⟨by simp, fun j hj => absurd hj (by omega)⟩
  · refine Ev.step (fun k => ?_) (h st ⟨hst.1, fun t ht => .inl ⟨rfl, hst.2 t ht⟩⟩)
    simp only [spec_coGive.l0]
    rw [if_neg (by omega)]
  · have e1 := wn hi (by omega)
    have e2 : wrap64 (-rest) = -rest := by unfold wrap64; omega
    refine Ev.step (fun k => ?_) (ih (st.set i (-rest)) ⟨by simp [hst.1], fun j hj => ?_⟩)
    · simp only [spec_coGive.l0, e1, e2, Int.toNat_natCast]
      have := hst.1
      rw [if_pos (by omega), if_pos (by omega), if_pos (by omega)]
    · have hjl : j < (st.set i (-rest)).length := by rw [List.length_set, hst.1]; omega
      have r1 : rd (st.set i (-rest)) (j : Int) = (st.set i (-rest))[j] := rd_get hjl
      rw [r1, List.getElem_set]
      by_cases e : i = j
      · rw [if_pos e]
      · rw [if_neg e]
        have r2 : rd st (j : Int) = st[j]'(by rw [hst.1]; omega) := rd_get (by rw [hst.1]; omega)
        rw [← r2]
        exact hst.2 j (by omega)
/-- Both ways of giving come to one and the same. -/
theorem give_both (l : List S99) (s : List S97) (rest : Int) (hl : l.length ≤ 1048576) (hsl : s.length ≤ 40) (hs : areS s) (hr : 1 ≤ rest ∧ rest ≤ 200) :
    ∃ r : List Int × Bool, Ev (fun k => spec_coGive.f k l s rest) r ∧ Ev (fun k => impl_giveTeeth.f k l s rest) r ∧ Gd l.length s.length r := by
  have hrep : Rel l.length rest (List.replicate l.length (-rest)) (fun _ => none) := ⟨by simp, fun t ht => .inl ⟨rfl, by
    have r1 : rd (List.replicate l.length (-rest)) (t : Int) = (List.replicate l.length (-rest))[t]'(by simpa using ht) := rd_get (by simpa using ht)
    rw [r1, List.getElem_replicate]⟩⟩
  obtain ⟨r, g1, g2, g3⟩ := give_outer l s rest _ hl hsl hs hr hrep
  refine ⟨r, give_fill l s rest hl hr (fun x9 hx => ?_), g2, g3⟩
  have hx9 : x9 = List.replicate l.length (-rest) := by
    refine List.ext_getElem (by rw [hx.1]; simp) (fun i h1 h2 => ?_)
    have hi : i < l.length := by rw [← hx.1]; exact h1
    rcases hx.2 i hi with ⟨_, h⟩ | ⟨b, _, _, h, _⟩
    · have r1 : rd x9 (i : Int) = x9[i] := rd_get h1
      rw [← r1, h, List.getElem_replicate]
    · cases h
  rw [hx9]
  exact g1
end Go.Proofs.Ytjniaiobnbdhhac.PureFnExactDampersNeeded
