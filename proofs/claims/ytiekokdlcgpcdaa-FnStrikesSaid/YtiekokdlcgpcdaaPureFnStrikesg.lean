/- The plain statement of FnStrikes (lemmas): the law's function, over numbers and lists, answers true. No conditions beyond the arguments' own kinds. -/
import Derived.Test.YtiekokdlcgpcdaaSFnStrikes13
import Derived.Test.YtiekokdlcgpcdaaPureFnStrikesf
namespace Go.Proofs.Ytiekokdlcgpcdaa.PureFnStrikes
open Go Go.RowKit Go.Proofs.Ytiekokdlcgpcdaa.PFnStrikes Go.Proofs.YtiekokdlcgpcdaaW.PrintWords Go.Proofs.YtiekokdlcgpcdaaW.PrintLast Go.Proofs.YtiekokdlcgpcdaaW.PrintMore Go.Proofs.Ytiekokdlcgpcdaa.Lib
set_option linter.unusedVariables false
set_option linter.unusedSimpArgs false
theorem and255 (x : Int) : 0 ≤ Go.bits .and .u64 x 255 ∧ Go.bits .and .u64 x 255 ≤ 255 := by
  have h : (BitVec.ofInt 64 x &&& BitVec.ofInt 64 255).toNat ≤ 255 := by
    rw [BitVec.toNat_and]
    exact Nat.le_trans Nat.and_le_right (by decide)
  have e : Go.bits .and .u64 x 255 = IntKind.u64.wrap ((BitVec.ofInt 64 x &&& BitVec.ofInt 64 255).toNat : Int) := rfl
  have ew : ∀ n : Int, IntKind.u64.wrap n = n % 18446744073709551616 := fun n => by simp [IntKind.wrap, IntKind.bits, IntKind.signed]
  rw [e, ew]
  omega
def Bytes8 (s : List Int) : Prop := ∀ x ∈ s, 0 ≤ x ∧ x ≤ 255
theorem next_ok {s : List Int} (hs : Bytes8 s) (a sd : Int) (h0 : 0 ≤ a) (h1 : a ≤ 1000000000) : ∃ r sd', spec_l1Cur_next.f s a sd = some (r, a + 1, sd') ∧ 0 ≤ r ∧ r ≤ 255 := by
  have e1 : wrap64 (a + 1) = a + 1 := by unfold wrap64; omega
  unfold spec_l1Cur_next.f
  simp only [e1]
  by_cases c : a < (s.length : Int)
  · rw [if_pos c, if_pos h0, if_pos (by omega)]
    have hi : a.toNat < s.length := by omega
    have er : rd s a = s[a.toNat] := by
      unfold rd
      rw [List.getD_eq_getElem?_getD, List.getElem?_eq_getElem hi]
      rfl
    have hm := hs _ (List.getElem_mem hi)
    refine ⟨_, _, rfl, ?_⟩
    rw [er]
    unfold wrap64
    omega
  · rw [if_neg c, if_neg (by omega)]
    refine ⟨_, _, rfl, ?_⟩
    have := and255 ((IntKind.u64.wrap ((IntKind.u64.wrap (IntKind.u64.wrap (sd * 6364136223846793005))) + 1442695040888963407)) / 1099511627776)
    unfold wrap64
    omega
theorem tmod_in {v n : Int} (hv : 0 ≤ v) (hn : 1 ≤ n) : 0 ≤ Int.tmod v n ∧ Int.tmod v n < n := by
  rw [Int.tmod_eq_emod_of_nonneg hv]
  exact ⟨Int.emod_nonneg _ (by omega), Int.emod_lt_of_pos _ (by omega)⟩
theorem pick_ok {s : List Int} (hs : Bytes8 s) (a sd n : Int) (h0 : 0 ≤ a) (h1 : a ≤ 900000000) : ∃ r a' sd', spec_l1Cur_pick.f s a sd n = some (r, a', sd') ∧ 0 ≤ r ∧ (1 ≤ n → r < n) ∧ a ≤ a' ∧ a' ≤ a + 2 := by
  unfold spec_l1Cur_pick.f
  by_cases c : n ≤ 1
  · rw [if_pos c]
    exact ⟨0, a, sd, rfl, by omega, by omega, by omega, by omega⟩
  · rw [if_neg c]
    obtain ⟨x, sd1, e1, x0, x1⟩ := next_ok hs a sd h0 (by omega)
    rw [e1, Option.bind_some]
    by_cases c2 : n > 200
    · rw [if_pos c2]
      obtain ⟨y, sd2, e2, y0, y1⟩ := next_ok hs (a + 1) sd1 (by omega) (by omega)
      show ∃ r a' sd', ((spec_l1Cur_next.f s (a + 1) sd1).bind _) = _ ∧ _
      rw [e2, Option.bind_some, if_neg (by omega)]
      have hv : 0 ≤ wrap64 (wrap64 (x * 256) + y) := by unfold wrap64; omega
      have := tmod_in hv (n := n) (by omega)
      exact ⟨_, _, _, rfl, this.1, fun _ => this.2, by show a ≤ a + 1 + 1; omega, by show a + 1 + 1 ≤ a + 2; omega⟩
    · rw [if_neg c2, if_neg (by omega)]
      have := tmod_in x0 (n := n) (by omega)
      exact ⟨_, _, _, rfl, this.1, fun _ => this.2, by show a ≤ a + 1; omega, by show a + 1 ≤ a + 2; omega⟩
theorem among_ok {s : List Int} (hs : Bytes8 s) (a sd : Int) (l : List Int) (hl : 0 < l.length) (h0 : 0 ≤ a) (h1 : a ≤ 900000000) : ∃ r a' sd', spec_l1Cur_among.f s a sd l = some (r, a', sd') ∧ r ∈ l ∧ a ≤ a' ∧ a' ≤ a + 2 := by
  unfold spec_l1Cur_among.f
  obtain ⟨r, a', sd', e, r0, r1, b0, b1⟩ := pick_ok hs a sd (l.length : Int) h0 h1
  have r1 := r1 (by omega)
  rw [e, Option.bind_some, if_pos r0, if_pos r1]
  have hi : r.toNat < l.length := by omega
  have er : rd l r = l[r.toNat] := by
    unfold rd
    rw [List.getD_eq_getElem?_getD, List.getElem?_eq_getElem hi]
    rfl
  exact ⟨_, _, _, rfl, by rw [er]; exact List.getElem_mem hi, b0, b1⟩
theorem one_ok {s : List Int} (hs : Bytes8 s) (a sd n : Int) (h0 : 0 ≤ a) (h1 : a ≤ 900000000) : ∃ r a' sd', spec_l1Cur_one.f s a sd n = some (r, a', sd') ∧ a ≤ a' ∧ a' ≤ a + 2 := by
  unfold spec_l1Cur_one.f
  obtain ⟨r, a', sd', e, r0, r1, b0, b1⟩ := pick_ok hs a sd n h0 h1
  rw [e, Option.bind_some]
  exact ⟨_, _, _, rfl, b0, b1⟩

def Dr {α : Type} (F : Nat → Option (List α × Int × Int)) (m : Int) : Prop := ∃ r a' sd', Ev F (r, a', sd') ∧ r.length ≤ 50 ∧ 0 ≤ a' ∧ a' ≤ m
theorem Dr.step {α : Type} {F G : Nat → Option (List α × Int × Int)} {m : Int} (h : ∀ k, F (k + 1) = G k) (d : Dr G m) : Dr F m := by
  obtain ⟨r, a, sd, h1, h2⟩ := d
  exact ⟨r, a, sd, Ev.step h h1, h2⟩
theorem Dr.now {α : Type} {m : Int} {l : List α} {a sd : Int} (h : l.length ≤ 50) (h0 : 0 ≤ a) (h1 : a ≤ m) : Dr (fun _ => some (l, a, sd)) m := ⟨l, a, sd, Ev.now _, h, h0, h1⟩
theorem comb_l1 (s : List Int) (a sd : Int) (ha : 0 ≤ a ∧ a ≤ 1000) : ∀ n : Nat, ∀ x : List S41, x.length + n ≤ 50 → Dr (fun k => spec_l1Cur_comb.l1 k x (n : Int) s a sd) 1000 := by
  intro n
  induction n with
  | zero =>
    intro x hx
    refine Dr.step (G := fun _ => some (x, a, sd)) (fun k => ?_) (Dr.now (by omega) ha.1 ha.2)
    simp only [spec_l1Cur_comb.l1]
    rw [if_neg (by omega)]
  | succ n ih =>
    intro x hx
    have e1 : wrap64 (((n + 1 : Nat) : Int) - 1) = (n : Int) := by unfold wrap64; omega
    refine Dr.step (fun k => ?_) (ih (x ++ [⟨60, 0, 0⟩]) (by rw [List.length_append, List.length_singleton]; omega))
    simp only [spec_l1Cur_comb.l1, e1]
    rw [if_pos (by omega), if_pos (by omega)]
theorem comb_end {s : List Int} (hs : Bytes8 s) (x : List S41) (p a sd : Int) (hx : 1 ≤ x.length ∧ x.length ≤ 50) (ha : 0 ≤ a ∧ a ≤ 900) : Dr (fun k => spec_l1Cur_comb.l0 k x p (x.length : Int) s a sd) 1000 := by
  obtain ⟨r1, a1, s1, e1, r10, r11, b1, c1⟩ := pick_ok hs a sd (x.length : Int) ha.1 (by omega)
  obtain ⟨r2, a2, s2, e2, _, _, b2, c2⟩ := pick_ok hs a1 s1 30 (by omega) (by omega)
  have r11 := r11 (by omega)
  obtain ⟨t1, u1, v1, f1, _, g1, h1⟩ := among_ok hs a2 s2 [23, 96, 97] (by simp) (by omega) (by omega)
  obtain ⟨t2, u2, v2, f2, _, g2, h2⟩ := among_ok hs a2 s2 [51, -51] (by simp) (by omega) (by omega)
  obtain ⟨t3, u3, v3, f3, _, g3, h3⟩ := among_ok hs a2 s2 [-1, 2] (by simp) (by omega) (by omega)
  obtain ⟨t4, u4, v4, f4, z0, z1, g4, h4⟩ := pick_ok hs a2 s2 2 (by omega) (by omega)
  have z1 := z1 (by omega)
  by_cases w0 : r2 = 0
  · refine Dr.step (G := fun _ => some (x.set r1.toNat ⟨t1, (rd_T41 x r1).f1, (rd_T41 x r1).f2⟩, u1, v1)) (fun k => ?_) (Dr.now (by rw [List.length_set]; omega) (by omega) (by omega))
    simp only [spec_l1Cur_comb.l0, e1, e2, f1, Option.bind_some]
    rw [if_neg (by omega), if_pos r10, if_pos r11, if_pos w0]
  by_cases w1 : r2 = 1
  · refine Dr.step (G := fun _ => some (x.set r1.toNat ⟨(rd_T41 x r1).f0, t2, (rd_T41 x r1).f2⟩, u2, v2)) (fun k => ?_) (Dr.now (by rw [List.length_set]; omega) (by omega) (by omega))
    simp only [spec_l1Cur_comb.l0, e1, e2, f2, Option.bind_some]
    rw [if_neg (by omega), if_pos r10, if_pos r11, if_neg w0, if_pos w1]
  by_cases w2 : r2 = 2
  · refine Dr.step (G := fun _ => some (x.set r1.toNat ⟨(rd_T41 x r1).f0, (rd_T41 x r1).f1, t3⟩, u3, v3)) (fun k => ?_) (Dr.now (by rw [List.length_set]; omega) (by omega) (by omega))
    simp only [spec_l1Cur_comb.l0, e1, e2, f3, Option.bind_some]
    rw [if_neg (by omega), if_pos r10, if_pos r11, if_neg w0, if_neg w1, if_pos w2]
  by_cases w3 : r2 = 3
  · refine Dr.step (G := fun _ => some (([] : List S41), a2, s2)) (fun k => ?_) (Dr.now (Nat.zero_le _) (by omega) (by omega))
    simp only [spec_l1Cur_comb.l0, e1, e2, Option.bind_some]
    rw [if_neg (by omega), if_pos r10, if_pos r11, if_neg w0, if_neg w1, if_neg w2, if_pos w3]
  by_cases w4 : r2 = 4
  · obtain ⟨m, hm⟩ : ∃ m : Nat, wrap64 (4 + t4) = (m : Int) := ⟨(4 + t4).toNat, by unfold wrap64; omega⟩
    refine Dr.step (fun k => ?_) (comb_l1 s u4 v4 (by omega) m [] (by unfold wrap64 at hm; show 0 + m ≤ 50; omega))
    simp only [spec_l1Cur_comb.l0, e1, e2, f4, Option.bind_some, hm]
    rw [if_neg (by omega), if_pos r10, if_pos r11, if_neg w0, if_neg w1, if_neg w2, if_neg w3, if_pos w4]
  · refine Dr.step (G := fun _ => some (x, a2, s2)) (fun k => ?_) (Dr.now (by omega) (by omega) (by omega))
    simp only [spec_l1Cur_comb.l0, e1, e2, Option.bind_some]
    rw [if_neg (by omega), if_pos r10, if_pos r11, if_neg w0, if_neg w1, if_neg w2, if_neg w3, if_neg w4]
theorem comb_l0 {s : List Int} (hs : Bytes8 s) (n : Nat) (hn : 1 ≤ n ∧ n ≤ 41) (p a sd : Int) (ha : 0 ≤ a ∧ a ≤ 100) : Dr (fun k => spec_l1Cur_comb.l0 k [] p (n : Int) s a sd) 1000 := by
  refine count_up n (fun i (st : List S41 × Int × Int × Int) => st.1.length = i ∧ 0 ≤ st.2.2.1 ∧ st.2.2.1 ≤ 100 + 12 * i) (fun i st => Dr (fun k => spec_l1Cur_comb.l0 k st.1 st.2.1 (n : Int) s st.2.2.1 st.2.2.2) 1000) (fun st hst => ?_) (fun i st hi hst ih => ?_) 0 ([], p, a, sd) (Nat.zero_le _) ⟨rfl, ha.1, by show a ≤ _; omega⟩
  · obtain ⟨hx, q0, q1⟩ := hst
    have := comb_end hs st.1 st.2.1 st.2.2.1 st.2.2.2 (by omega) (by omega)
    rw [hx] at this
    exact this
  · obtain ⟨x, p, a, sd⟩ := st
    obtain ⟨hx, q0, q1⟩ := hst
    have hx : x.length = i := hx
    have q0 : 0 ≤ a := q0
    have q1 : a ≤ 100 + 12 * (i : Int) := q1
    obtain ⟨r1, a1, s1, e1, _, _, b1, c1⟩ := pick_ok hs a sd 101 (by omega) (by omega)
    obtain ⟨r2, a2, s2, e2, _, b2, c2⟩ := among_ok hs a1 s1 [0, 0, 5, -5, 50, -50, wrap64 (r1 - 50)] (by simp) (by omega) (by omega)
    obtain ⟨r3, a3, s3, e3, _, _, b3, c3⟩ := pick_ok hs a2 s2 2 (by omega) (by omega)
    obtain ⟨r4, a4, s4, e4, b4, c4⟩ := one_ok hs a3 s3 2 (by omega) (by omega)
    obtain ⟨r5, a5, s5, e5, _, _, b5, c5⟩ := pick_ok hs a4 s4 2 (by omega) (by omega)
    have hlen : (x ++ [(⟨p, r2, r3⟩ : S41)]).length = i + 1 := by rw [List.length_append, List.length_singleton, hx]
    have go := ih (x ++ [(⟨p, r2, r3⟩ : S41)], wrap64 (p + wrap64 (1 + r5)), a5, s5) ⟨hlen, by show 0 ≤ a5; omega, by show a5 ≤ _; omega⟩
    cases r4 with
    | true =>
      refine Dr.step (fun k => ?_) go
      simp only [spec_l1Cur_comb.l0, e1, e2, e3, e4, e5, Option.bind_some]
      rw [if_pos (by omega), if_pos (by omega), if_pos trivial]
    | false =>
      by_cases c : (((x ++ [(⟨p, r2, r3⟩ : S41)]).length : Nat) : Int) % 4 = 0
      · refine Dr.step (fun k => ?_) go
        simp only [spec_l1Cur_comb.l0, e1, e2, e3, e4, e5, Option.bind_some]
        rw [if_pos (by omega), if_pos (by omega), if_neg (by simp), if_pos c]
      · refine Dr.step (fun k => ?_) (ih (x ++ [(⟨p, r2, r3⟩ : S41)], p, a4, s4) ⟨hlen, by show 0 ≤ a4; omega, by show a4 ≤ _; omega⟩)
        simp only [spec_l1Cur_comb.l0, e1, e2, e3, e4, e5, Option.bind_some]
        rw [if_pos (by omega), if_pos (by omega), if_neg (by simp), if_neg c]
theorem comb_ok {s : List Int} (hs : Bytes8 s) : Dr (fun k => spec_l1Cur_comb.f k s 0 0) 1000 := by
  obtain ⟨r1, a1, s1, e1, _, b1, c1⟩ := among_ok hs 0 0 [48, 60, 24] (by simp) (by omega) (by omega)
  obtain ⟨r2, a2, s2, e2, y0, y1, b2, c2⟩ := pick_ok hs a1 s1 9 (by omega) (by omega)
  obtain ⟨r3, a3, s3, e3, b3, c3⟩ := one_ok hs a2 s2 20 (by omega) (by omega)
  obtain ⟨r4, a4, s4, e4, z0, z1, b4, c4⟩ := pick_ok hs a3 s3 2 (by omega) (by omega)
  have y1 := y1 (by omega)
  have z1 := z1 (by omega)
  unfold spec_l1Cur_comb.f
  simp only [e1, e2, e3, e4, Option.bind_some]
  cases r3 with
  | true =>
    obtain ⟨m, hm, hm1⟩ : ∃ m : Nat, wrap64 (40 + r4) = (m : Int) ∧ 1 ≤ m ∧ m ≤ 41 := ⟨(40 + r4).toNat, by unfold wrap64; omega, by omega, by omega⟩
    simp only [hm, if_true]
    exact Dr.step (fun k => by simp only [spec_l1Cur_comb.j0]) (comb_l0 hs m hm1 r1 a4 s4 (by omega))
  | false =>
    obtain ⟨m, hm, hm1⟩ : ∃ m : Nat, wrap64 (1 + r2) = (m : Int) ∧ 1 ≤ m ∧ m ≤ 41 := ⟨(1 + r2).toNat, by unfold wrap64; omega, by omega, by omega⟩
    simp only [hm, Bool.false_eq_true, if_false]
    exact Dr.step (fun k => by simp only [spec_l1Cur_comb.j0]) (comb_l0 hs m hm1 r1 a3 s3 (by omega))
theorem strikes_j2 {s : List Int} (hs : Bytes8 s) (l : List S41) (n : Int) (x : List S45) (hx : x.length ≤ 100) (p : Int) (few b : Bool) (c a sd : Int) (hb : b = true → 0 < l.length) (ha : 0 ≤ a ∧ a ≤ 4000) (m : Int)
    (ih : ∀ y p' a' sd', a ≤ a' → a' ≤ a + 4 → Dr (fun k => spec_l1Cur_strikes.l0 k l (x ++ [y]) n p' few s a' sd') m) : Dr (fun k => spec_l1Cur_strikes.j2 k l x n p few c b s a sd) m := by
  cases b with
  | true =>
    have hb := hb rfl
    obtain ⟨r1, a1, s1, e1, y0, y1, b1, c1⟩ := pick_ok hs a sd (l.length : Int) (by omega) (by omega)
    have y1 := y1 (by omega)
    obtain ⟨r2, a2, s2, e2, _, b2, c2⟩ := among_ok hs a1 s1 [0, 1, 2, 5, 9, 30] (by simp) (by omega) (by omega)
    cases few with
    | true =>
      refine Dr.step (fun k => ?_) (ih ⟨(rd_T41 l 0).f0, p⟩ (wrap64 (p + r2)) a2 s2 (by omega) (by omega))
      simp only [spec_l1Cur_strikes.j2, e1, e2, Option.bind_some]
      rw [if_pos trivial, if_pos y0, if_pos y1, if_pos trivial, if_pos (by omega), if_pos (by omega)]
    | false =>
      refine Dr.step (fun k => ?_) (ih ⟨(rd_T41 l r1).f0, p⟩ (wrap64 (p + r2)) a2 s2 (by omega) (by omega))
      simp only [spec_l1Cur_strikes.j2, e1, e2, Option.bind_some]
      rw [if_pos trivial, if_pos y0, if_pos y1, if_neg (by simp), if_pos (by omega)]
  | false =>
    obtain ⟨r2, a2, s2, e2, _, b2, c2⟩ := among_ok hs a sd [0, 1, 2, 5, 9, 30] (by simp) (by omega) (by omega)
    refine Dr.step (fun k => ?_) (ih ⟨c, p⟩ (wrap64 (p + r2)) a2 s2 (by omega) (by omega))
    simp only [spec_l1Cur_strikes.j2, e2, Option.bind_some]
    rw [if_neg (by simp), if_pos (by omega)]
theorem strikes_end {s : List Int} (hs : Bytes8 s) (l : List S41) (x : List S45) (p a sd : Int) (few : Bool) (hx : x.length ≤ 50) (ha : 0 ≤ a ∧ a ≤ 4000) : Dr (fun k => spec_l1Cur_strikes.l0 k l x (x.length : Int) p few s a sd) 5000 := by
  by_cases hz : 1 ≤ x.length
  · obtain ⟨r1, a1, s1, e1, r10, r11, b1, c1⟩ := pick_ok hs a sd (x.length : Int) ha.1 (by omega)
    obtain ⟨r2, a2, s2, e2, _, _, b2, c2⟩ := pick_ok hs a1 s1 24 (by omega) (by omega)
    have r11 := r11 (by omega)
    obtain ⟨t1, u1, v1, f1, _, g1, h1⟩ := among_ok hs a2 s2 [23, 97] (by simp) (by omega) (by omega)
    obtain ⟨t2, u2, v2, f2, _, g2, h2⟩ := among_ok hs a2 s2 [-1, 0, 2000, 2001] (by simp) (by omega) (by omega)
    by_cases w0 : r2 = 0
    · refine Dr.step (G := fun _ => some (x.set r1.toNat ⟨t1, (rd_T45 x r1).f1⟩, u1, v1)) (fun k => ?_) (Dr.now (by rw [List.length_set]; omega) (by omega) (by omega))
      simp only [spec_l1Cur_strikes.l0, e1, e2, f1, Option.bind_some]
      rw [if_neg (by omega), if_pos (by omega), if_pos r10, if_pos r11, if_pos w0]
    by_cases w1 : r2 = 1
    · refine Dr.step (G := fun _ => some (x.set r1.toNat ⟨(rd_T45 x r1).f0, t2⟩, u2, v2)) (fun k => ?_) (Dr.now (by rw [List.length_set]; omega) (by omega) (by omega))
      simp only [spec_l1Cur_strikes.l0, e1, e2, f2, Option.bind_some]
      rw [if_neg (by omega), if_pos (by omega), if_pos r10, if_pos r11, if_neg w0, if_pos w1]
    · refine Dr.step (G := fun _ => some (x, a2, s2)) (fun k => ?_) (Dr.now (by omega) (by omega) (by omega))
      simp only [spec_l1Cur_strikes.l0, e1, e2, Option.bind_some]
      rw [if_neg (by omega), if_pos (by omega), if_pos r10, if_pos r11, if_neg w0, if_neg w1]
  · refine Dr.step (G := fun _ => some (x, a, sd)) (fun k => ?_) (Dr.now (by omega) (by omega) (by omega))
    simp only [spec_l1Cur_strikes.l0]
    rw [if_neg (by omega), if_neg (by omega)]
theorem strikes_l0 {s : List Int} (hs : Bytes8 s) (l : List S41) (n : Nat) (hn : n ≤ 41) (p a sd : Int) (few : Bool) (ha : 0 ≤ a ∧ a ≤ 2000) : Dr (fun k => spec_l1Cur_strikes.l0 k l [] (n : Int) p few s a sd) 5000 := by
  refine count_up n (fun i (st : List S45 × Int × Int × Int) => st.1.length = i ∧ 0 ≤ st.2.2.1 ∧ st.2.2.1 ≤ 2000 + 12 * i) (fun i st => Dr (fun k => spec_l1Cur_strikes.l0 k l st.1 (n : Int) st.2.1 few s st.2.2.1 st.2.2.2) 5000) (fun st hst => ?_) (fun i st hi hst ih => ?_) 0 ([], p, a, sd) (Nat.zero_le _) ⟨rfl, ha.1, by show a ≤ _; omega⟩
  · obtain ⟨hx, q0, q1⟩ := hst
    have := strikes_end hs l st.1 st.2.1 st.2.2.1 st.2.2.2 few (by omega) (by omega)
    rw [hx] at this
    exact this
  · obtain ⟨x, p, a, sd⟩ := st
    obtain ⟨hx, q0, q1⟩ := hst
    have hx : x.length = i := hx
    have q0 : 0 ≤ a := q0
    have q1 : a ≤ 2000 + 12 * (i : Int) := q1
    obtain ⟨r1, a1, s1, e1, b1, c1⟩ := one_ok hs a sd 24 (by omega) (by omega)
    by_cases c : 0 < l.length
    · refine Dr.step (fun k => ?_) (strikes_j2 hs l (n : Int) x (by omega) p few (!r1) 60 a1 s1 (fun _ => c) (by omega) 5000 (fun y p' a' sd' h1 h2 => ih (x ++ [y], p', a', sd') ⟨by show (x ++ [y]).length = i + 1; rw [List.length_append, List.length_singleton, hx], by show 0 ≤ a'; omega, by show a' ≤ _; omega⟩))
      simp only [spec_l1Cur_strikes.l0, e1, Option.bind_some]
      rw [if_pos (by omega), if_pos (by omega)]
    · refine Dr.step (fun k => ?_) (strikes_j2 hs l (n : Int) x (by omega) p few false 60 a sd (fun h => by cases h) (by omega) 5000 (fun y p' a' sd' h1 h2 => ih (x ++ [y], p', a', sd') ⟨by show (x ++ [y]).length = i + 1; rw [List.length_append, List.length_singleton, hx], by show 0 ≤ a'; omega, by show a' ≤ _; omega⟩))
      simp only [spec_l1Cur_strikes.l0]
      rw [if_pos (by omega), if_neg (by omega)]
theorem strikes_ok {s : List Int} (hs : Bytes8 s) (l : List S41) (a sd : Int) (ha : 0 ≤ a ∧ a ≤ 1000) : Dr (fun k => spec_l1Cur_strikes.f k s a sd l) 5000 := by
  obtain ⟨r2, a2, s2, e2, y0, y1, b2, c2⟩ := pick_ok hs a sd 9 (by omega) (by omega)
  obtain ⟨r3, a3, s3, e3, b3, c3⟩ := one_ok hs a2 s2 20 (by omega) (by omega)
  obtain ⟨r4, a4, s4, e4, z0, z1, b4, c4⟩ := pick_ok hs a3 s3 2 (by omega) (by omega)
  have y1 := y1 (by omega)
  have z1 := z1 (by omega)
  have j0 : ∀ (m : Nat) (a5 s5 : Int), m ≤ 41 → 0 ≤ a5 → a5 ≤ 1900 → Dr (fun k => spec_l1Cur_strikes.j0 k l [] (m : Int) s a5 s5) 5000 := fun m a5 s5 hm h0 h1 => by
    obtain ⟨r6, a6, s6, e6, _, _, b6, c6⟩ := pick_ok hs a5 s5 10 h0 (by omega)
    obtain ⟨r7, a7, s7, e7, b7, c7⟩ := one_ok hs a6 s6 2 (by omega) (by omega)
    refine Dr.step (fun k => ?_) (strikes_l0 hs l m hm r6 a7 s7 r7 (by omega))
    simp only [spec_l1Cur_strikes.j0, e6, e7, Option.bind_some]
  unfold spec_l1Cur_strikes.f
  simp only [e2, e3, e4, Option.bind_some]
  cases r3 with
  | true =>
    obtain ⟨m, hm, hm1⟩ : ∃ m : Nat, wrap64 (40 + r4) = (m : Int) ∧ m ≤ 41 := ⟨(40 + r4).toNat, by unfold wrap64; omega, by omega⟩
    simp only [hm, if_true]
    exact j0 m a4 s4 hm1 (by omega) (by omega)
  | false =>
    obtain ⟨m, hm⟩ : ∃ m : Nat, r2 = (m : Int) := ⟨r2.toNat, by omega⟩
    simp only [hm, Bool.false_eq_true, if_false]
    exact j0 m a3 s3 (by omega) (by omega) (by omega)
theorem rest_ok {s : List Int} (hs : Bytes8 s) (a sd : Int) (h0 : 0 ≤ a) (h1 : a ≤ 100000) : ∃ r a' sd', spec_l1Cur_restOf.f s a sd = some (r, a', sd') ∧ a ≤ a' ∧ a' ≤ a + 4 := by
  obtain ⟨r1, a1, s1, e1, _, b1, c1⟩ := among_ok hs a sd [0, 201] (by simp) (by omega) (by omega)
  obtain ⟨r2, a2, s2, e2, _, b2, c2⟩ := among_ok hs a1 s1 [1, 2, 4, 8, 20, 200, r1] (by simp) (by omega) (by omega)
  unfold spec_l1Cur_restOf.f
  simp only [e1, e2, Option.bind_some]
  exact ⟨_, _, _, rfl, by omega, by omega⟩
theorem draw_rest {s : List Int} (hs : Bytes8 s) : ∃ r : List S41 × List S45, Ev (fun k => spec_DrawGreatestRest.f k s) r ∧ r.1.length ≤ 50 ∧ r.2.length ≤ 50 := by
  obtain ⟨l, a, sd, h1, h2, h3, h4⟩ := comb_ok hs
  obtain ⟨x, b, sd', g1, g2, g3, g4⟩ := strikes_ok hs l a sd ⟨h3, h4⟩
  unfold spec_DrawGreatestRest.f
  exact ⟨(l, x), Ev.bind h1 (Ev.bind g1 (Ev.now _)), h2, g2⟩
theorem draw_give {s : List Int} (hs : Bytes8 s) : ∃ r : List S41 × List S45 × Int, Ev (fun k => spec_DrawGiveTeeth.f k s) r ∧ r.1.length ≤ 50 ∧ r.2.1.length ≤ 50 := by
  obtain ⟨l, a, sd, h1, h2, h3, h4⟩ := comb_ok hs
  obtain ⟨x, b, sd', g1, g2, g3, g4⟩ := strikes_ok hs l a sd ⟨h3, h4⟩
  obtain ⟨r, c, s3, e, _, _⟩ := rest_ok hs b sd' g3 (by omega)
  unfold spec_DrawGiveTeeth.f
  exact ⟨(l, x, r), Ev.bind h1 (Ev.bind g1 (ev_call e (Ev.now _))), h2, g2⟩
theorem draw_damp {s : List Int} (hs : Bytes8 s) : ∃ r : List S41 × List S45 × Int × Int, Ev (fun k => spec_DrawDampersNeeded.f k s) r ∧ r.1.length ≤ 50 ∧ r.2.1.length ≤ 50 := by
  obtain ⟨l, a, sd, h1, h2, h3, h4⟩ := comb_ok hs
  obtain ⟨x, b, sd', g1, g2, g3, g4⟩ := strikes_ok hs l a sd ⟨h3, h4⟩
  obtain ⟨r, c, s3, e, c1, c2⟩ := rest_ok hs b sd' g3 (by omega)
  obtain ⟨r1, a1, s1, e1, _, b1, c1⟩ := among_ok hs c s3 [0, 501] (by simp) (by omega) (by omega)
  obtain ⟨r2, a2, s2, e2, _, b2, c2⟩ := among_ok hs a1 s1 [1, 5, 10, 40, 500, r1] (by simp) (by omega) (by omega)
  unfold spec_DrawDampersNeeded.f
  exact ⟨(l, x, r, r2), Ev.bind h1 (Ev.bind g1 (ev_call e (ev_call e1 (ev_call e2 (Ev.now _))))), h2, g2⟩
end Go.Proofs.Ytiekokdlcgpcdaa.PureFnStrikes
