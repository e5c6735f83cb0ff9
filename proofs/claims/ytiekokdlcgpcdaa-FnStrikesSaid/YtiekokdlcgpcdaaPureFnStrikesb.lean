/- The plain statement of FnStrikes (lemmas): the law's function, over numbers and lists, answers true. No conditions beyond the arguments' own kinds. -/
import Derived.Test.YtiekokdlcgpcdaaSFnStrikes13
import Derived.Test.YtiekokdlcgpcdaaPureFnStrikesa
namespace Go.Proofs.Ytiekokdlcgpcdaa.PureFnStrikes
open Go Go.RowKit Go.Proofs.Ytiekokdlcgpcdaa.PFnStrikes Go.Proofs.YtiekokdlcgpcdaaW.PrintWords Go.Proofs.YtiekokdlcgpcdaaW.PrintLast Go.Proofs.YtiekokdlcgpcdaaW.PrintMore Go.Proofs.Ytiekokdlcgpcdaa.Lib
set_option linter.unusedVariables false
set_option linter.unusedSimpArgs false
def Rel3 (n : Nat) (s : List S45) (rest : Int) (i : Nat) (out x9 : List Int) (last : Int → Option Int) : Prop :=
  x9.length = n ∧ out.length = i ∧ ∀ t : Nat, t < n → (last (t : Int) = none ∧ rd x9 (t : Int) = -rest ∧ ∀ j : Nat, j < i → rd out (j : Int) ≠ (t : Int)) ∨ (∃ j : Nat, j < i ∧ rd out (j : Int) = (t : Int) ∧ last (t : Int) = some (sS s j) ∧ rd x9 (t : Int) = sS s j ∧ ∀ k : Nat, k < i → rd out (k : Int) = (t : Int) → sS s k ≤ sS s j)
theorem rd_app_lt {a : List Int} {x : Int} {j : Nat} (h : j < a.length) : rd (a ++ [x]) (j : Int) = rd a (j : Int) := by
  have r1 : rd (a ++ [x]) (j : Int) = (a ++ [x])[j]'(by rw [List.length_append]; omega) := rd_get _
  have r2 : rd a (j : Int) = a[j] := rd_get h
  rw [r1, r2, List.getElem_append_left h]
theorem rd_app_eq {a : List Int} {x : Int} {j : Nat} (h : j = a.length) : rd (a ++ [x]) (j : Int) = x := by
  subst h
  have r1 : rd (a ++ [x]) (a.length : Int) = (a ++ [x])[a.length]'(by rw [List.length_append, List.length_singleton]; omega) := rd_get _
  rw [r1, List.getElem_concat_length rfl]
theorem rel3_set {n i : Nat} {s : List S45} {rest : Int} {out x9 : List Int} {last : Int → Option Int} (h : Rel3 n s rest i out x9 last) (hS : ∀ j, j ≤ i → sS s j ≤ sS s i) {g : Nat} (hg : g < n) : Rel3 n s rest (i + 1) (out ++ [(g : Int)]) (x9.set g (sS s i)) (impl_giveTeeth.upd last (g : Int) (sS s i)) := by
  have ho := h.2.1
  refine ⟨by rw [List.length_set]; exact h.1, by rw [List.length_append, List.length_singleton, ho], fun t ht => ?_⟩
  have hsl : t < (x9.set g (sS s i)).length := by rw [List.length_set, h.1]; exact ht
  have r1 : rd (x9.set g (sS s i)) (t : Int) = (x9.set g (sS s i))[t] := rd_get hsl
  rw [r1, List.getElem_set]
  by_cases e : g = t
  · subst e
    refine .inr ⟨i, by omega, rd_app_eq ho.symm, by simp [impl_giveTeeth.upd], by simp, fun k hk _ => hS k (by omega)⟩
  · have r2 : rd x9 (t : Int) = x9[t]'(by rw [h.1]; exact ht) := rd_get (by rw [h.1]; exact ht)
    have hu : impl_giveTeeth.upd last (g : Int) (sS s i) (t : Int) = last (t : Int) := by
      unfold impl_giveTeeth.upd
      rw [if_neg (by omega)]
    rw [hu, if_neg e, ← r2]
    have hi : rd (out ++ [(g : Int)]) (i : Int) ≠ (t : Int) := by rw [rd_app_eq ho.symm]; omega
    rcases h.2.2 t ht with ⟨h1, h2, h3⟩ | ⟨j, h1, h2, h3, h4, h5⟩
    · refine .inl ⟨h1, h2, fun j hj => ?_⟩
      by_cases c : j = i
      · subst c; exact hi
      · rw [rd_app_lt (by omega)]
        exact h3 j (by omega)
    · refine .inr ⟨j, by omega, by rw [rd_app_lt (by omega)]; exact h2, h3, h4, fun k hk hk2 => ?_⟩
      by_cases c : k = i
      · subst c; exact absurd hk2 hi
      · rw [rd_app_lt (by omega)] at hk2
        exact h5 k (by omega) hk2
theorem areS_up {s : List S45} (hs : areS s) : ∀ j k, j ≤ k → k < s.length → sS s j ≤ sS s k := by
  intro j k
  induction k with
  | zero => intro h _; have : j = 0 := by omega
            subst this; exact Int.le_refl _
  | succ k ih =>
    intro h1 h2
    by_cases e : j = k + 1
    · subst e; exact Int.le_refl _
    · have a := ih (by omega) (by omega)
      have b := (hs.1 (k + 1) h2).2.2.2.2 (by omega)
      rw [show ((k + 1 : Nat) : Int) - 1 = (k : Int) from by omega] at b
      exact Int.le_trans a b
def Gv (l : List S41) (s : List S45) (rest : Int) (r : List Int × Bool) : Prop :=
  r.1.length ≤ 1048576 ∧ (r.2 = true → r.1.length = s.length ∧ kept1 (pS s) (sS s) (teethL l) rest (fun j => rd r.1 (j : Int)) s.length) ∧ (r.2 = false → r.1 = [] ∧ ∃ i, i < s.length ∧ (teethL l (pS s i)).length < (near (pS s) (sS s) rest i).length)
theorem give_outer3 (l : List S41) (s : List S45) (rest : Int) (x9 : List Int) (hl : l.length ≤ 1048576) (hs : areS s) (hr : 1 ≤ rest ∧ rest ≤ 200) (hrel : Rel3 l.length s rest 0 [] x9 (fun _ => none)) :
    ∃ r : List Int × Bool, Ev (fun k => spec_coGive.l1 k l rest [] x9 s (s.length : Int) 0) r ∧ Ev (fun k => impl_giveTeeth.l0 k l rest [] (fun _ => none) s (s.length : Int) 0) r ∧ Gv l s rest r := by
  have hsl : s.length ≤ 40 := hs.2
  refine count_up s.length (fun i (st : List Int × List Int × (Int → Option Int)) => Rel3 l.length s rest i st.1 st.2.1 st.2.2 ∧ kept1 (pS s) (sS s) (teethL l) rest (fun j => rd st.1 (j : Int)) i) (fun i st => ∃ r : List Int × Bool, Ev (fun k => spec_coGive.l1 k l rest st.1 st.2.1 s (s.length : Int) (i : Int)) r ∧ Ev (fun k => impl_giveTeeth.l0 k l rest st.1 st.2.2 s (s.length : Int) (i : Int)) r ∧ Gv l s rest r) (fun st hst => ?_) (fun i st hi hst ih => ?_) 0 ([], x9, fun _ => none) (Nat.zero_le _) ⟨hrel, fun j h => absurd h (Nat.not_lt_zero _), fun j k _ h => absurd h (Nat.not_lt_zero _)⟩
  · have hlen := hst.1.2.1
    refine ⟨(st.1, true), Ev.step (f := fun _ => some (st.1, true)) (fun k => ?_) (Ev.now _), Ev.step (f := fun _ => some (st.1, true)) (fun k => ?_) (Ev.now _), ⟨by show st.1.length ≤ 1048576; omega, fun _ => ⟨hlen, hst.2⟩, fun h => by cases h⟩⟩
    · simp only [spec_coGive.l1]
      rw [if_neg (by omega)]
    · simp only [impl_giveTeeth.l0]
      rw [if_neg (by omega)]
  · obtain ⟨hR, hK⟩ := hst
    have hx9 := hR.1
    have hlen := hR.2.1
    have e1 := wn hi (by omega)
    have hok := hs.1 i hi
    have hup := areS_up hs
    have h0 : 0 ≤ sS s i := hok.2.2.1
    have h1 : sS s i ≤ 2000 := hok.2.2.2.1
    have hlow : ∀ j, j < i → 0 ≤ sS s j := fun j hj => (hs.1 j (by omega)).2.2.1
    have hhigh : ∀ j, j < i → sS s j ≤ sS s i := fun j hj => hup j i (by omega) hi
    obtain ⟨t1, t2⟩ := teeth_ev3 l (pS s i) hl
    have htl := len_teethL l (pS s i)
    obtain ⟨r, q1, q2, q3⟩ := give_inner3 l s rest (sS s i) (pS s i) st.1 st.2.1 (teethL l (pS s i)) st.2.2 (i : Int) (fun t => ∃ j, j < i ∧ rd st.1 (j : Int) = t ∧ sS s i - sS s j < rest) (Gv l s rest) hl (by omega) (fun x hx => by
        obtain ⟨n, h2, h3, _⟩ := mem_teethL.1 hx
        omega) ⟨h0, h1⟩ (by omega) hx9
      (fun t ht => by
        rcases hR.2.2 t ht with ⟨_, h3, h4⟩ | ⟨j, h2, h3, _, h4, h5⟩
        · rw [h3]
          exact ⟨fun _ ⟨j, hj, e, _⟩ => h4 j hj e, fun _ => by unfold wrap64; omega⟩
        · rw [h4]
          have a := hlow j h2
          have b := hhigh j h2
          have w : wrap64 (sS s i - sS s j) = sS s i - sS s j := by unfold wrap64; omega
          rw [w]
          refine ⟨fun h ⟨k, hk, e, h6⟩ => ?_, fun h => ?_⟩
          · have := h5 k hk e
            omega
          · refine Classical.byContradiction fun h6 => h ⟨j, h2, h3, by omega⟩)
      (fun t ht => by
        rcases hR.2.2 t ht with ⟨h2, _, h4⟩ | ⟨j, _, _, h3, h4, _⟩
        · exact .inl ⟨h2, fun ⟨j, hj, e, _⟩ => h4 j hj e⟩
        · exact .inr (by rw [h3, h4]))
      (fun hall => ⟨Nat.zero_le _, (fun h => by cases h), fun _ => ⟨rfl, i, hi, near_gt hK (by omega) (nodup_teethL _ _) (apart_teethL l) hall⟩⟩)
      (fun g hgl hmem hfree => by
        rw [e1]
        refine ih (st.1 ++ [(g : Int)], st.2.1.set g (sS s i), impl_giveTeeth.upd st.2.2 (g : Int) (sS s i)) ⟨rel3_set hR (fun j hj => hup j i hj hi) hgl, fun j hj => ?_, fun j k hjk hk e => ?_⟩
        · show rd (st.1 ++ [(g : Int)]) (j : Int) ∈ _
          by_cases c : j = i
          · subst c
            rw [rd_app_eq hlen.symm]
            exact hmem
          · rw [rd_app_lt (by omega)]
            exact hK.1 j (by omega)
        · have e' : rd (st.1 ++ [(g : Int)]) (j : Int) = rd (st.1 ++ [(g : Int)]) (k : Int) := e
          rw [rd_app_lt (show j < st.1.length by omega)] at e'
          by_cases c : k = i
          · subst c
            rw [rd_app_eq hlen.symm] at e'
            refine Classical.byContradiction fun h6 => hfree ⟨j, hjk, e', by omega⟩
          · rw [rd_app_lt (show k < st.1.length by omega)] at e'
            exact hK.2 j k hjk (by omega) e')
    refine ⟨r, Ev.step (f := fun k => (spec_coTeeth.f k l (pS s i)).bind fun t => spec_coGive.l2 k l rest st.1 st.2.1 (-1) s (s.length : Int) (i : Int) t (t.length : Int) 0 (pS s i) (sS s i)) (fun k => ?_) (Ev.bind t1 q1), Ev.step (f := fun k => (impl_teethOf.f k l (pS s i)).bind fun t => impl_giveTeeth.l1 k l rest st.1 st.2.2 s (s.length : Int) (i : Int) (sS s i) (-1) t (t.length : Int) 0) (fun k => ?_) (Ev.bind t2 q2), q3⟩
    · simp only [spec_coGive.l1]
      rw [if_pos (by omega), if_pos (by omega), if_pos (by omega)]
      rfl
    · simp only [impl_giveTeeth.l0]
      rw [if_pos (by omega), if_pos (by omega), if_pos (by omega)]
      rfl
theorem give_fill (l : List S41) (s : List S45) (rest : Int) (hl : l.length ≤ 1048576) (hr : 1 ≤ rest ∧ rest ≤ 200) {r : List Int × Bool} (h : ∀ x9, Rel3 l.length s rest 0 [] x9 (fun _ => none) → Ev (fun k => spec_coGive.l1 k l rest [] x9 s (s.length : Int) 0) r) : Ev (fun k => spec_coGive.f k l s rest) r := by
  unfold spec_coGive.f
  refine ev_pos (by omega) (ev_pos (by omega) (ev_call rfl ?_))
  simp only [Int.toNat_natCast, List.length_replicate]
  refine count_up l.length (fun i (st : List Int) => st.length = l.length ∧ ∀ j, j < i → rd st (j : Int) = -rest) (fun i st => Ev (fun k => spec_coGive.l0 k l s rest st (l.length : Int) (i : Int)) r) (fun st hst => ?_) (fun i st hi hst ih => ?_) 0 (List.replicate l.length 0) (Nat.zero_le _) ⟨by simp, fun j hj => absurd hj (by omega)⟩
  · refine Ev.step (fun k => ?_) (h st ⟨hst.1, rfl, fun t ht => .inl ⟨rfl, hst.2 t ht, fun j hj => absurd hj (Nat.not_lt_zero _)⟩⟩)
    simp only [spec_coGive.l0]
    rw [if_neg (by omega)]
  · have e1 := wn hi (by omega)
    have e2 : wrap64 (-rest) = -rest := by unfold wrap64; omega
    refine Ev.step (fun k => ?_) (ih (st.set i (-rest)) ⟨by simp [hst.1], fun j hj => ?_⟩)
    · simp only [spec_coGive.l0, e1, e2, Int.toNat_natCast]
      have := hst.1
      rw [if_pos (by omega), if_pos (by omega), if_pos (by omega)]
    · have hjl : j < (st.set i (-rest)).length := by rw [List.length_set, hst.1]; omega
      have r1 : rd (st.set i (-rest)) (j : Int) = (st.set i (-rest))[j] := rd_get hjl
      rw [r1, List.getElem_set]
      by_cases e : i = j
      · rw [if_pos e]
      · rw [if_neg e]
        have r2 : rd st (j : Int) = st[j]'(by rw [hst.1]; omega) := rd_get (by rw [hst.1]; omega)
        rw [← r2]
        exact hst.2 j (by omega)
/-- Both ways of giving come to one and the same. -/
theorem give_both3 (l : List S41) (s : List S45) (rest : Int) (hl : l.length ≤ 1048576) (hs : areS s) (hr : 1 ≤ rest ∧ rest ≤ 200) :
    ∃ r : List Int × Bool, Ev (fun k => spec_coGive.f k l s rest) r ∧ Ev (fun k => impl_giveTeeth.f k l s rest) r ∧ Gv l s rest r := by
  have hrep : Rel3 l.length s rest 0 [] (List.replicate l.length (-rest)) (fun _ => none) := ⟨by simp, rfl, fun t ht => .inl ⟨rfl, by
    have r1 : rd (List.replicate l.length (-rest)) (t : Int) = (List.replicate l.length (-rest))[t]'(by simpa using ht) := rd_get (by simpa using ht)
    rw [r1, List.getElem_replicate], fun j hj => absurd hj (Nat.not_lt_zero _)⟩⟩
  obtain ⟨r, g1, g2, g3⟩ := give_outer3 l s rest _ hl hs hr hrep
  refine ⟨r, give_fill l s rest hl hr (fun x9 hx => ?_), g2, g3⟩
  have hx9 : x9 = List.replicate l.length (-rest) := by
    refine List.ext_getElem (by rw [hx.1]; simp) (fun i h1 h2 => ?_)
    have hi : i < l.length := by rw [← hx.1]; exact h1
    rcases hx.2.2 i hi with ⟨_, h, _⟩ | ⟨j, hj, _⟩
    · have r1 : rd x9 (i : Int) = x9[i] := rd_get h1
      rw [← r1, h, List.getElem_replicate]
    · exact absurd hj (Nat.not_lt_zero _)
  rw [hx9]
  exact g1
/-- The strikes can be given just where there are as many teeth as are near. -/
theorem Gv.iff {l : List S41} {s : List S45} {rest : Int} {r : List Int × Bool} (h : Gv l s rest r) (hs : areS s) : r.2 = true ↔ ∀ i, i < s.length → (near (pS s) (sS s) rest i).length ≤ (teethL l (pS s i)).length := by
  refine ⟨fun e i hi => near_le (h.2.1 e).2 hi (areS_up hs), fun ha => ?_⟩
  cases e : r.2 with
  | true => rfl
  | false =>
    obtain ⟨_, i, hi, hlt⟩ := h.2.2 e
    have := ha i hi
    omega
end Go.Proofs.Ytiekokdlcgpcdaa.PureFnStrikes
