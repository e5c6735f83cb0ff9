/- The plain statement of FnStrikes (lemmas): the law's function, over numbers and lists, answers true. No conditions beyond the arguments' own kinds. -/
import Derived.Test.YtiekokdlcgpcdaaSFnStrikes13
import Derived.Test.YtiekokdlcgpcdaaPureFnStrikesg
namespace Go.Proofs.Ytiekokdlcgpcdaa.PureFnStrikes
open Go Go.RowKit Go.Proofs.Ytiekokdlcgpcdaa.PFnStrikes Go.Proofs.YtiekokdlcgpcdaaW.PrintWords Go.Proofs.YtiekokdlcgpcdaaW.PrintLast Go.Proofs.YtiekokdlcgpcdaaW.PrintMore Go.Proofs.Ytiekokdlcgpcdaa.Lib
set_option linter.unusedVariables false
set_option linter.unusedSimpArgs false
theorem ev_one {α : Type} {g : Nat → Option α} {r r' : α} (h : Ev g r) (h' : Ev g r') : r = r' := by
  obtain ⟨a, ha⟩ := h
  obtain ⟨b, hb⟩ := h'
  have h1 := ha (max a b) (Nat.le_max_left _ _)
  have h2 := hb (max a b) (Nat.le_max_right _ _)
  rw [h1] at h2
  exact Option.some.inj h2

theorem qInts_eq (a : List Int) (h : a.length ≤ 1048576) : Ev (fun k => laws_qInts.f k a a) true := by
  unfold laws_qInts.f
  refine ev_pos rfl ?_
  refine count_up a.length (fun _ (_ : Unit) => True) (fun i _ => Ev (fun k => laws_qInts.l0 k a a (a.length : Int) (i : Int)) true) (fun _ _ => ?_) (fun i _ hi _ ih => ?_) 0 () (Nat.zero_le _) trivial
  · refine Ev.step (f := fun _ => some true) (fun k => ?_) (Ev.now _)
    simp only [laws_qInts.l0]
    rw [if_neg (by omega)]
  · have e1 := wn hi (by omega)
    refine Ev.step (fun k => ?_) (ih () trivial)
    simp only [laws_qInts.l0, e1]
    rw [if_pos (by omega), if_pos (by omega), if_pos (by omega), if_pos (by omega), if_pos trivial]
theorem gt_both3 (l : List S41) (s : List S45) (rest : Int) (hl : l.length ≤ 1048576) (hsl : s.length ≤ 1048576) :
    ∃ r : List Int × Bool, Ev (fun k => spec_GiveTeeth.f k l s rest) r ∧ Ev (fun k => impl_GiveTeeth.f k l s rest) r ∧ r.1.length ≤ 1048576 ∧ (r.2 = true → isC l ∧ areS s ∧ 1 ≤ rest ∧ rest ≤ 200) ∧ (isC l ∧ areS s ∧ 1 ≤ rest ∧ rest ≤ 200 → Gv l s rest r ∧ Ev (fun k => impl_giveTeeth.f k l s rest) r) := by
  unfold spec_GiveTeeth.f impl_GiveTeeth.f
  have ha := spec_asked2 l s rest hl hsl
  simp only [impl_isRest_eq, Option.bind_some]
  by_cases h1 : isC l
  · by_cases h2 : areS s
    · by_cases h3 : 1 ≤ rest ∧ rest ≤ 200
      · obtain ⟨r, g1, g2, g3⟩ := give_both3 l s rest hl h2 h3
        exact ⟨(r.1, r.2), Ev.bind ha (ev_pos (decide_eq_true ⟨h1, h2, h3⟩) (Ev.bind g1 (Ev.now _))), Ev.bind (impl_isC l hl) (ev_pos (decide_eq_true h1) (Ev.bind (impl_areS s hsl) (ev_pos (decide_eq_true h2) (ev_pos (decide_eq_true h3) (Ev.bind g2 (Ev.now _)))))), g3.1, fun _ => ⟨h1, h2, h3⟩, fun _ => ⟨g3, g2⟩⟩
      · exact ⟨([], false), Ev.bind ha (ev_neg (by simp only [decide_eq_true_eq]; exact fun h => h3 h.2.2) (Ev.now _)), Ev.bind (impl_isC l hl) (ev_pos (decide_eq_true h1) (Ev.bind (impl_areS s hsl) (ev_pos (decide_eq_true h2) (ev_neg (by simpa using h3) (Ev.now _))))), Nat.zero_le _, fun h => (by cases h), fun h => absurd h.2.2 h3⟩
    · exact ⟨([], false), Ev.bind ha (ev_neg (by simp only [decide_eq_true_eq]; exact fun h => h2 h.2.1) (Ev.now _)), Ev.bind (impl_isC l hl) (ev_pos (decide_eq_true h1) (Ev.bind (impl_areS s hsl) (ev_neg (by simpa using h2) (Ev.now _)))), Nat.zero_le _, fun h => (by cases h), fun h => absurd h.2.1 h2⟩
  · exact ⟨([], false), Ev.bind ha (ev_neg (by simp only [decide_eq_true_eq]; exact fun h => h1 h.1) (Ev.now _)), Ev.bind (impl_isC l hl) (ev_neg (by simpa using h1) (Ev.now _)), Nat.zero_le _, fun h => (by cases h), fun h => absurd h.1 h1⟩
theorem gt_is {l : List S41} {s : List S45} {rest : Int} (hl : l.length ≤ 1048576) (hsl : s.length ≤ 1048576) (h : isC l ∧ areS s ∧ 1 ≤ rest ∧ rest ≤ 200) {b : Bool} (hg : okG l s rest b) : ∃ r : List Int × Bool, Ev (fun k => spec_GiveTeeth.f k l s rest) r ∧ Ev (fun k => impl_GiveTeeth.f k l s rest) r ∧ r.1.length ≤ 1048576 ∧ r.2 = b := by
  obtain ⟨r, g1, g2, g3, _, g5⟩ := gt_both3 l s rest hl hsl
  obtain ⟨q, q1, q2⟩ := hg
  have e := ev_one (g5 h).2 q1
  exact ⟨r, g1, g2, g3, by rw [e, q2]⟩
theorem tof_both3 (l : List S41) (p : Int) (hl : l.length ≤ 1048576) (hg : isC l) (hp : 24 ≤ p ∧ p ≤ 96) : Ev (fun k => spec_TeethOf.f k l p) (teethL l p, true) ∧ Ev (fun k => impl_TeethOf.f k l p) (teethL l p, true) := by
  unfold spec_TeethOf.f impl_TeethOf.f
  simp only [ntPitch_eq, isPitch_eq, Option.bind_some]
  obtain ⟨g1, g2⟩ := teeth_ev3 l p hl
  exact ⟨Ev.bind (spec_isC l hl) (ev_pos (decide_eq_true hg) (ev_pos (decide_eq_true hp) (Ev.bind g1 (Ev.now _)))), Ev.bind (impl_isC l hl) (ev_pos (decide_eq_true hg) (ev_pos (decide_eq_true hp) (Ev.bind g2 (Ev.now _))))⟩
theorem spec_AreS (l : List S45) (hl : l.length ≤ 1048576) : Ev (fun k => spec_AreStrikes.f k l) (decide (areS l)) := by
  unfold spec_AreStrikes.f
  exact Ev.bind (spec_areS l hl) (Ev.now _)
theorem law_l3 (l : List S41) (s : List S45) (rest : Int) (g : List Int) (i : Nat) (t : Int) (hi : i < g.length) (hg : g.length = s.length) (hs : areS s) (hk : ∀ j, j < i → rd g (j : Int) = t → rest ≤ sS s i - sS s j)
    (next : Ev (fun k => laws_FnStrikes.l2 k l s rest g g (g.length : Int) (wrap64 ((i : Int) + 1))) true) : Ev (fun k => laws_FnStrikes.l3 k l s rest g (i : Int) t g (g.length : Int) (i : Int) (i : Int) 0) true := by
  have h40 := hs.2
  refine count_up i (fun _ (_ : Unit) => True) (fun j _ => Ev (fun k => laws_FnStrikes.l3 k l s rest g (i : Int) t g (g.length : Int) (i : Int) (i : Int) (j : Int)) true) (fun _ _ => ?_) (fun j _ hj _ ih => ?_) 0 () (Nat.zero_le _) trivial
  · refine Ev.step (fun k => ?_) next
    simp only [laws_FnStrikes.l3]
    rw [if_neg (by omega)]
  · have e1 := wn hj (by omega)
    refine Ev.step (fun k => ?_) (ih () trivial)
    simp only [laws_FnStrikes.l3, e1]
    rw [if_pos (by omega), if_pos (by omega), if_pos (by omega)]
    by_cases c : rd g (j : Int) = t
    · have h1 := hk j hj c
      have b1 := (hs.1 i (by omega)).2.2
      have b2 := (hs.1 j (by omega)).2.2
      have a1 : 0 ≤ sS s i := b1.1
      have a2 : sS s i ≤ 2000 := b1.2.1
      have a3 : 0 ≤ sS s j := b2.1
      have a4 : sS s j ≤ 2000 := b2.2.1
      have w : wrap64 (sS s i - sS s j) = sS s i - sS s j := by unfold wrap64; omega
      rw [if_pos c, if_pos (by omega), if_pos (by omega), if_pos (by omega)]
      rw [if_neg (show ¬ wrap64 ((rd_T45 s (i : Int)).f1 - (rd_T45 s (j : Int)).f1) < rest from by
        show ¬ wrap64 (sS s i - sS s j) < rest
        omega)]
    · rw [if_neg c]
theorem law_l2 (l : List S41) (s : List S45) (rest : Int) (g : List Int) (hg : g.length = s.length) (hs : areS s) (hk : kept1 (pS s) (sS s) (teethL l) rest (fun j => rd g (j : Int)) s.length) : Ev (fun k => laws_FnStrikes.l2 k l s rest g g (g.length : Int) 0) true := by
  have h40 := hs.2
  refine count_up g.length (fun _ (_ : Unit) => True) (fun i _ => Ev (fun k => laws_FnStrikes.l2 k l s rest g g (g.length : Int) (i : Int)) true) (fun _ _ => ?_) (fun i _ hi _ ih => ?_) 0 () (Nat.zero_le _) trivial
  · refine Ev.step (f := fun _ => some true) (fun k => ?_) (Ev.now _)
    simp only [laws_FnStrikes.l2]
    rw [if_neg (by omega), hg]
    simp
  · have e1 := wn hi (by omega)
    obtain ⟨n, n1, n2, n3⟩ := mem_teethL.1 (hk.1 i (by omega))
    have n2 : rd g (i : Int) = (n : Int) := n2
    have n3 : (rd_T41 l (n : Int)).f0 = (rd_T45 s (i : Int)).f0 := n3
    have htk : (g.take i).length = i := by rw [List.length_take]; omega
    refine Ev.step (fun k => ?_) (law_l3 l s rest g i (n : Int) hi hg hs (fun j hj e => hk.2 j i hj (by omega) (e.trans n2.symm)) (by rw [e1]; exact ih () trivial))
    simp only [laws_FnStrikes.l2, n2, Int.toNat_natCast, htk]
    rw [if_pos (by omega), if_pos (by omega), if_pos (by omega), if_pos (by omega), if_pos (by omega), if_pos (by omega), if_pos n3, if_pos (by omega)]
theorem law_j7 (l : List S41) (s : List S45) (rest : Int) (r : List Int × Bool) (h : r.2 = true → areS s ∧ Gv l s rest r) : Ev (fun k => laws_FnStrikes.j7 k l s rest r.2 r.1) true := by
  cases e : r.2 with
  | true =>
    obtain ⟨h1, h2⟩ := h e
    obtain ⟨h3, h4⟩ := h2.2.1 e
    refine Ev.step (fun k => ?_) (law_l2 l s rest r.1 h3 h1 h4)
    simp only [laws_FnStrikes.j7]
    rw [if_pos trivial]
  | false =>
    refine Ev.step (f := fun _ => some true) (fun k => ?_) (Ev.now _)
    simp only [laws_FnStrikes.j7]
    rw [if_neg (by simp)]
def enough (l : List S41) (n : List Int) (i : Nat) : Prop := ∀ k : Nat, k < i → rd n (k : Int) ≤ ((teethL l (24 + (k : Int))).length : Int)
theorem law_l1 (l : List S41) (s : List S45) (rest : Int) (r : List Int × Bool) (n : List Int) (hl : l.length ≤ 1048576) (hc : isC l) (hs : areS s) (hn : Needs s rest s.length n) (hg : Gv l s rest r) : Ev (fun k => laws_FnStrikes.l1 k l s rest r.2 r.1 true n (n.length : Int) 0) true := by
  have h73 := hn.1
  refine count_up n.length (fun i (b : Bool) => b = true ↔ enough l n i) (fun i b => Ev (fun k => laws_FnStrikes.l1 k l s rest r.2 r.1 b n (n.length : Int) (i : Int)) true) (fun b hb => ?_) (fun i b hi hb ih => ?_) 0 true (Nat.zero_le _) ⟨fun _ k hk => absurd hk (Nat.not_lt_zero _), fun _ => rfl⟩
  · have e : b = r.2 := by
      rw [Bool.eq_iff_iff, hb, hg.iff hs]
      constructor
      · intro h i hi
        have b1 := hs.1 i hi
        have p1 : 24 ≤ pS s i := b1.1
        have p2 : pS s i ≤ 96 := b1.2.1
        obtain ⟨q, hq⟩ : ∃ q : Nat, pS s i = 24 + (q : Int) := ⟨(pS s i - 24).toNat, by omega⟩
        have h1 := h q (by omega)
        have h2 := (hn.2 q (by omega)).1 i hi hq
        rw [← hq] at h1
        omega
      · intro h k hk
        rcases (hn.2 k (by omega)).2 with h1 | ⟨i', a, b, c⟩
        · omega
        · have h2 := h i' a
          rw [b] at h2
          omega
    subst e
    refine Ev.step (fun k => ?_) (law_j7 l s rest r (fun _ => ⟨hs, hg⟩))
    simp only [laws_FnStrikes.l1]
    rw [if_neg (by omega), if_neg (by simp)]
  · have e1 := wn hi (by omega)
    have e2 : wrap64 (24 + (i : Int)) = 24 + (i : Int) := by unfold wrap64; omega
    obtain ⟨t1, t2⟩ := tof_both3 l (24 + (i : Int)) hl hc (by omega)
    have tl := len_teethL l (24 + (i : Int))
    have hx : ∀ c : Bool, (c = true ↔ b = true ∧ rd n (i : Int) ≤ ((teethL l (24 + (i : Int))).length : Int)) → (c = true ↔ enough l n (i + 1)) := fun c hc => by
      rw [hc, hb]
      constructor
      · intro h k hk
        by_cases e : k = i
        · subst e; exact h.2
        · exact h.1 k (by omega)
      · intro h
        exact ⟨fun k hk => h k (by omega), h i (by omega)⟩
    refine Ev.step (f := fun k => (impl_TeethOf.f k l (24 + (i : Int))).bind fun a => (spec_TeethOf.f k l (24 + (i : Int))).bind fun c => if a.2 = true then (if c.2 = true then ((laws_qInts.f k a.1 c.1).bind fun t => if t = true then (if b = true then laws_FnStrikes.l1 k l s rest r.2 r.1 (decide ((c.1.length : Int) ≥ rd n (i : Int))) n (n.length : Int) ((i + 1 : Nat) : Int) else laws_FnStrikes.l1 k l s rest r.2 r.1 false n (n.length : Int) ((i + 1 : Nat) : Int)) else some false) else some false) else some false) (fun k => ?_) (Ev.bind t2 (Ev.bind t1 (ev_pos rfl (ev_pos rfl (Ev.bind (qInts_eq _ (by show (teethL l (24 + (i : Int))).length ≤ 1048576; omega)) (ev_pos rfl ?_))))))
    · simp only [laws_FnStrikes.l1, e1, e2]
      rw [if_pos (by omega), if_pos (by omega), if_pos (by omega)]
    · cases b with
      | true => exact ev_pos rfl (ih _ (hx _ (by simp only [decide_eq_true_eq, true_and, ge_iff_le])))
      | false => exact ev_neg (by simp) (ih _ (hx _ (by simp)))
end Go.Proofs.Ytiekokdlcgpcdaa.PureFnStrikes
