/- The plain statement of FnStrikes: the law's function, over numbers and lists, answers true. No conditions beyond the arguments' own kinds. -/
import Derived.Test.YtiekokdlcgpcdaaSFnStrikes13
import Derived.Test.YtiekokdlcgpcdaaPureFnStrikesh
namespace Go.Proofs.Ytiekokdlcgpcdaa.PureFnStrikes
open Go Go.RowKit Go.Proofs.Ytiekokdlcgpcdaa.PFnStrikes Go.Proofs.YtiekokdlcgpcdaaW.PrintWords Go.Proofs.YtiekokdlcgpcdaaW.PrintLast Go.Proofs.YtiekokdlcgpcdaaW.PrintMore Go.Proofs.Ytiekokdlcgpcdaa.Lib
set_option linter.unusedVariables false
set_option linter.unusedSimpArgs false
theorem law_j4 (l : List S41) (s : List S45) (rest : Int) (r n : List Int × Bool) (hl : l.length ≤ 1048576) (h1 : n.2 = true → areS s ∧ (1 ≤ rest ∧ rest ≤ 200) ∧ Needs s rest s.length n.1) (h2 : r.2 = true → isC l ∧ areS s ∧ 1 ≤ rest ∧ rest ≤ 200) (h3 : isC l ∧ areS s ∧ 1 ≤ rest ∧ rest ≤ 200 → Gv l s rest r) : Ev (fun k => laws_FnStrikes.j4 k l s rest r.2 r.1 n.2 n.1) true := by
  have h7 := law_j7 l s rest r (fun e => ⟨(h2 e).2.1, h3 (h2 e)⟩)
  have h5 : Ev (fun k => laws_FnStrikes.j5 k l s rest r.2 r.1 n.1 false) true := by
    refine Ev.step (fun k => ?_) h7
    simp only [laws_FnStrikes.j5]
    rw [if_neg (by simp)]
  cases e : n.2 with
  | true =>
    obtain ⟨g1, g2, g3⟩ := h1 e
    refine Ev.step (f := fun k => (impl_IsComb.f k l).bind fun t => laws_FnStrikes.j5 k l s rest r.2 r.1 n.1 t) (fun k => ?_) (Ev.bind (impl_isC l hl) ?_)
    · simp only [laws_FnStrikes.j4]
      rw [if_pos trivial]
    · by_cases c : isC l
      · rw [decide_eq_true c]
        refine Ev.step (fun k => ?_) (law_l1 l s rest r n.1 hl c g1 g3 (h3 ⟨c, g1, g2⟩))
        simp only [laws_FnStrikes.j5]
        rw [if_pos trivial]
      · rw [decide_eq_false c]
        exact h5
  | false =>
    refine Ev.step (fun k => ?_) h5
    simp only [laws_FnStrikes.j4]
    rw [if_neg (by simp)]
theorem law_l0 (l c : List S41) (s : List S45) (rest : Int) (r n : List Int × Bool) (d : List Int) (hd : d.length ≤ 1048576) (hm : ∀ y ∈ d, Dm c y) (h4 : Ev (fun k => laws_FnStrikes.j4 k l s rest r.2 r.1 n.2 n.1) true) : Ev (fun k => laws_FnStrikes.l0 k l s rest r.2 r.1 n.2 n.1 c d (d.length : Int) 0) true := by
  refine count_up d.length (fun _ (_ : Unit) => True) (fun i _ => Ev (fun k => laws_FnStrikes.l0 k l s rest r.2 r.1 n.2 n.1 c d (d.length : Int) (i : Int)) true) (fun _ _ => ?_) (fun i _ hi _ ih => ?_) 0 () (Nat.zero_le _) trivial
  · refine Ev.step (fun k => ?_) h4
    simp only [laws_FnStrikes.l0]
    rw [if_neg (by omega)]
  · have e1 := wn hi (by omega)
    have r1 : rd d (i : Int) = d[i] := rd_get hi
    obtain ⟨a1, a2, a3⟩ := hm _ (List.getElem_mem hi)
    refine Ev.step (fun k => ?_) (ih () trivial)
    simp only [laws_FnStrikes.l0, e1, r1]
    rw [if_pos (by omega), if_pos (by omega), if_pos (by omega), if_pos a1, if_pos a2, if_pos a3]
theorem law_j1 (l c : List S41) (s d : List S45) (rest pause : Int) (r n p : List Int × Bool) (hcl : c.length ≤ 1048576) (hdl : d.length ≤ 1048576) (hp : Dp c p) (h : p.2 = true → isC c ∧ areS d ∧ (1 ≤ pause ∧ pause ≤ 200) ∧ okG c d pause true) (h4 : Ev (fun k => laws_FnStrikes.j4 k l s rest r.2 r.1 n.2 n.1) true) : Ev (fun k => laws_FnStrikes.j1 k l s rest r.2 r.1 n.2 n.1 c d pause p.2 p.1) true := by
  cases e : p.2 with
  | true =>
    obtain ⟨a1, a2, a3, a4⟩ := h e
    obtain ⟨q, q1, q2, q3, q4⟩ := gt_is hcl hdl ⟨a1, a2, a3⟩ a4
    refine Ev.step (f := fun k => (impl_GiveTeeth.f k c d pause).bind fun a => (spec_GiveTeeth.f k c d pause).bind fun b => if a.2 = true then (if b.2 = true then ((laws_qInts.f k a.1 b.1).bind fun t => laws_FnStrikes.j2 k l s rest r.2 r.1 n.2 n.1 c p.1 (!t)) else laws_FnStrikes.j2 k l s rest r.2 r.1 n.2 n.1 c p.1 true) else laws_FnStrikes.j2 k l s rest r.2 r.1 n.2 n.1 c p.1 true) (fun k => ?_) (Ev.bind q2 (Ev.bind q1 (ev_pos q4 (ev_pos q4 (Ev.bind (qInts_eq _ q3) (Ev.step (fun k => ?_) (law_l0 l c s rest r n p.1 hp.1 hp.2 h4)))))))
    · simp only [laws_FnStrikes.j1]
      rw [if_pos trivial]
    · simp only [laws_FnStrikes.j2]
      rw [if_neg (by simp)]
  | false =>
    refine Ev.step (fun k => ?_) h4
    simp only [laws_FnStrikes.j1]
    rw [if_neg (by simp)]
theorem law_j0 (l a : List S41) (s b : List S45) (rest : Int) (r n p : List Int × Bool) (v : Int × Bool) (c : List S41) (d : List S45) (pause : Int) (hal : a.length ≤ 1048576) (hbl : b.length ≤ 1048576) (hv : v.2 = true → isC a ∧ areS b ∧ 1 ≤ v.1 ∧ v.1 ≤ 200 ∧ okG a b v.1 true ∧ (v.1 < 200 → okG a b (v.1 + 1) false)) (h1 : Ev (fun k => laws_FnStrikes.j1 k l s rest r.2 r.1 n.2 n.1 c d pause p.2 p.1) true) :
    Ev (fun k => laws_FnStrikes.j0 k l s rest r.2 r.1 n.2 n.1 a b v.2 v.1 c d pause p.2 p.1 false) true := by
  cases e : v.2 with
  | true =>
    obtain ⟨a1, a2, a3, a4, a5, a6⟩ := hv e
    obtain ⟨q, _, q2, _, q4⟩ := gt_is hal hbl ⟨a1, a2, a3, a4⟩ a5
    have e1 : wrap64 (v.1 + 1) = v.1 + 1 := by unfold wrap64; omega
    refine Ev.step (f := fun k => (impl_GiveTeeth.f k a b v.1).bind fun x => if x.2 = true then (if v.1 < 200 then ((impl_GiveTeeth.f k a b (v.1 + 1)).bind fun y => if y.2 = true then some false else laws_FnStrikes.j1 k l s rest r.2 r.1 n.2 n.1 c d pause p.2 p.1) else laws_FnStrikes.j1 k l s rest r.2 r.1 n.2 n.1 c d pause p.2 p.1) else some false) (fun k => ?_) (Ev.bind q2 (ev_pos q4 (ev_ite (fun c1 => ?_) (fun _ => h1))))
    · simp only [laws_FnStrikes.j0, e1]
      rw [if_neg (by simp), if_pos trivial]
    · obtain ⟨w, _, w2, _, w4⟩ := gt_is hal hbl ⟨a1, a2, by omega, by omega⟩ (a6 c1)
      exact Ev.bind w2 (ev_neg (by rw [w4]; simp) h1)
  | false =>
    refine Ev.step (fun k => ?_) h1
    simp only [laws_FnStrikes.j0]
    rw [if_neg (by simp), if_neg (by simp)]
theorem FnStrikes (l0 l1 : List (Int)) (w0 : l0.length ≤ maxLen ∧ ∀ y1 ∈ l0, (Lit.int .u8 y1).wf = true) (w1 : l1.length ≤ maxLen ∧ ∀ y1 ∈ l1, (Lit.int .u8 y1).wf = true) : ∃ k, laws_FnStrikes.f k l0 l1 = some true := by
  refine Ev.rounds (g := fun k => laws_FnStrikes.f k l0 l1) ?_
  unfold laws_FnStrikes.f
  refine ev_ite (fun _ => Ev.now _) (fun _ => ?_)
  have b8 : ∀ x : Int, (Lit.int .u8 x).wf = true → 0 ≤ x ∧ x ≤ 255 := fun x h => by
    simp [Lit.wf, IntKind.min, IntKind.max, IntKind.signed, IntKind.bits] at h
    omega
  have hs0 : Bytes8 l0 := fun x hx => b8 x (w0.2 x hx)
  have hs1 : Bytes8 l1 := fun x hx => b8 x (w1.2 x hx)
  obtain ⟨D1, hD1, x1, x2⟩ := draw_give hs0
  obtain ⟨D2, hD2, x3, x4⟩ := draw_rest hs1
  obtain ⟨D3, hD3, x5, x6⟩ := draw_damp hs1
  have hl : D1.1.length ≤ 1048576 := by omega
  have hs : D1.2.1.length ≤ 1048576 := by omega
  have ha : D2.1.length ≤ 1048576 := by omega
  have hb : D2.2.length ≤ 1048576 := by omega
  have hc : D3.1.length ≤ 1048576 := by omega
  have hd : D3.2.1.length ≤ 1048576 := by omega
  obtain ⟨r, r1, r2, r3, r4, r5⟩ := gt_both3 D1.1 D1.2.1 D1.2.2 hl hs
  obtain ⟨n, n1, n2, n3, n4, n5⟩ := tn3 D1.2.1 D1.2.2 hs
  obtain ⟨v, v1, v2, v3⟩ := gr_both3 D2.1 D2.2 ha hb
  obtain ⟨p, p1, p2, p3, p4⟩ := dn_both D3.1 D3.2.1 D3.2.2.1 D3.2.2.2 hc hd
  have J := law_j0 D1.1 D2.1 D1.2.1 D2.2 D1.2.2 r n p v D3.1 D3.2.1 D3.2.2.1 ha hb v3 (law_j1 D1.1 D3.1 D1.2.1 D3.2.1 D1.2.2 D3.2.2.1 r n p hc hd p3 p4 (law_j4 D1.1 D1.2.1 D1.2.2 r n hl n4 r4 (fun h => (r5 h).1)))
  have J' : Ev (fun k => (impl_AreStrikes.f k D1.2.1).bind fun t => (spec_AreStrikes.f k D1.2.1).bind fun t' => laws_FnStrikes.j0 k D1.1 D1.2.1 D1.2.2 r.2 r.1 n.2 n.1 D2.1 D2.2 v.2 v.1 D3.1 D3.2.1 D3.2.2.1 p.2 p.1 (t != t')) true := Ev.bind (impl_areS _ hs) (Ev.bind (spec_AreS _ hs) (by simpa only [bne_self_eq_false] using J))
  refine Ev.bind hD1 (Ev.bind r2 (Ev.bind r1 (Ev.bind n2 (Ev.bind n1 (Ev.bind hD2 (Ev.bind v2 (Ev.bind v1 (Ev.bind hD3 (Ev.bind p2 (Ev.bind p1 ?_))))))))))
  refine ev_neg (by simp) (Ev.bind (qInts_eq _ r3) (ev_pos rfl (ev_neg (by simp) (Ev.bind (qInts_eq _ n3) (ev_pos rfl (ev_neg (by simp) (ev_pos rfl (ev_neg (by simp) (Ev.bind (qInts_eq _ p3.1) (ev_pos rfl ?_))))))))))
  exact ev_ite (fun hok => ev_pos (n5 (r4 hok).2) J') (fun _ => J')
end Go.Proofs.Ytiekokdlcgpcdaa.PureFnStrikes
