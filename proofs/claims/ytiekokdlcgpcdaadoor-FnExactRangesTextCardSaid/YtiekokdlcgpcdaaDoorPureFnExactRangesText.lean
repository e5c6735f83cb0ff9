/- The plain statement of FnExactRangesText: the law's function, over numbers and lists, answers true. No conditions beyond the arguments' own kinds. -/
import Derived.Test.YtiekokdlcgpcdaaDoorRRangesText6
import Derived.Test.YtiekokdlcgpcdaaDoorLib
namespace Go.Proofs.YtiekokdlcgpcdaaDoor.PureFnExactRangesText
open Go Go.RowKit Go.Proofs.YtiekokdlcgpcdaaDoor.PFnExactRangesText Go.Proofs.YtiekokdlcgpcdaaDoorW.PrintWords Go.Proofs.YtiekokdlcgpcdaaDoorW.PrintLast Go.Proofs.YtiekokdlcgpcdaaDoorW.PrintMore Go.Proofs.YtiekokdlcgpcdaaDoor.Lib
set_option linter.unusedVariables false
set_option linter.unusedSimpArgs false
/-- A loop that counts up to n, and what is known of its answer. -/
theorem ev_for_ex {σ ρ : Type} (L : Nat → σ → Int → Option ρ) (n : Nat) (Inv : Nat → σ → Prop) (Post : ρ → Prop) (hstop : ∀ s, Inv n s → ∃ r, Ev (fun k => L k s (n : Int)) r ∧ Post r)
    (hgo : ∀ i s, i < n → Inv i s → (∀ s', Inv (i + 1) s' → ∃ r, Ev (fun k => L k s' ((i + 1 : Nat) : Int)) r ∧ Post r) → ∃ r, Ev (fun k => L k s (i : Int)) r ∧ Post r) :
    ∀ i s, i ≤ n → Inv i s → ∃ r, Ev (fun k => L k s (i : Int)) r ∧ Post r := by
  have key : ∀ d i : Nat, n - i = d → i ≤ n → ∀ s, Inv i s → ∃ r, Ev (fun k => L k s (i : Int)) r ∧ Post r := by
    intro d
    induction d with
    | zero =>
      intro i hd hi s hs
      obtain rfl : i = n := by omega
      exact hstop s hs
    | succ d ih =>
      intro i hd hi s hs
      exact hgo i s (by omega) hs (fun s' hs' => ih (i + 1) (by omega) (by omega) s' hs')
  intro i s hi hs
  exact key (n - i) i rfl hi s hs
theorem wn {i n : Nat} (h : i < n) (hn : n ≤ 9223372036854775807) : wrap64 ((i : Int) + 1) = ((i + 1 : Nat) : Int) := by unfold wrap64; omega
/-- Whatever holds at the end of a count, and at i if it holds at i + 1, holds from everywhere. -/
theorem count_up {σ : Type} (n : Nat) (Inv Q : Nat → σ → Prop) (hstop : ∀ s, Inv n s → Q n s) (hgo : ∀ i s, i < n → Inv i s → (∀ s', Inv (i + 1) s' → Q (i + 1) s') → Q i s) : ∀ i s, i ≤ n → Inv i s → Q i s := by
  have key : ∀ d i : Nat, n - i = d → i ≤ n → ∀ s, Inv i s → Q i s := by
    intro d
    induction d with
    | zero =>
      intro i hd hi s hs
      obtain rfl : i = n := by omega
      exact hstop s hs
    | succ d ih =>
      intro i hd hi s hs
      exact hgo i s (by omega) hs (fun s' hs' => ih (i + 1) (by omega) (by omega) s' hs')
  intro i s hi hs
  exact key (n - i) i rfl hi s hs

theorem l1In_eq (a b c : Int) : spec_l1In.f a b c = some (decide (b ≤ a ∧ a ≤ c)) := by
  unfold spec_l1In.f
  split <;> simp <;> omega

theorem isHole_eq (a b c : Int) : impl_IsHole.f a b c = some (decide (0 ≤ a ∧ a < 20 ∧ 0 ≤ b ∧ b < c ∧ c ≤ 2000)) := by
  unfold impl_IsHole.f impl_isTrack.f
  repeat' split
  all_goals simp only [Option.bind_some, decide_eq_true_eq, Bool.false_eq_true, ↓reduceIte]
  all_goals (repeat' split)
  all_goals first | exact some_dec (by omega) (by omega) | exact some_dec_f (by omega)
theorem shHole_eq (a b c : Int) : spec_shHole.f a b c = some (decide (0 ≤ a ∧ a < 20 ∧ 0 ≤ b ∧ b < c ∧ c ≤ 2000)) := by
  unfold spec_shHole.f
  simp only [l1In_eq, Option.bind_some, decide_eq_true_eq]
  by_cases h : 0 ≤ b ∧ b ≤ 1999
  · have e : wrap64 (b + 1) = b + 1 := by unfold wrap64; omega
    rw [e]
    repeat' split
    all_goals first | exact some_dec (by omega) (by omega) | exact some_dec_f (by omega)
  · rw [if_neg h]
    split
    all_goals exact some_dec_f (by omega)
/-! ranges: rows of a track, a first step and the step behind the last -/
def okRw (x : List Int) : Prop := x.length = 3 ∧ 0 ≤ rd x 0 ∧ rd x 0 < 20 ∧ 0 ≤ rd x 1 ∧ rd x 1 < rd x 2 ∧ rd x 2 ≤ 2000
instance (x : List Int) : Decidable (okRw x) := by unfold okRw; infer_instance
def areR (l : List (List Int)) : Prop := (∀ x ∈ l, okRw x) ∧ l.length ≤ 200
instance (l : List (List Int)) : Decidable (areR l) := by unfold areR; infer_instance
theorem areR_iff (l : List (List Int)) : decide (areR l) = true ↔ (∀ i : Nat, i < l.length → okRw (l.getD i [])) ∧ decide ((l.length : Int) ≤ 200) = true := by
  rw [decide_eq_true_eq, decide_eq_true_eq]
  unfold areR
  constructor
  · rintro ⟨h1, h2⟩
    refine ⟨fun i hi => ?_, by omega⟩
    rw [List.getD_eq_getElem?_getD, List.getElem?_eq_getElem hi]
    exact h1 _ (List.getElem_mem hi)
  · rintro ⟨h1, h2⟩
    refine ⟨fun x hx => ?_, by omega⟩
    obtain ⟨i, hi, rfl⟩ := List.getElem_of_mem hx
    have := h1 i hi
    rw [List.getD_eq_getElem?_getD, List.getElem?_eq_getElem hi] at this
    exact this
theorem impl_areR (l : List (List Int)) (hl : l.length ≤ 1048576) : Ev (fun k => impl_areRanges.f k l) (decide (areR l)) := by
  unfold impl_areRanges.f
  refine all_loop (fun k i => impl_areRanges.l0 k l l (l.length : Int) i) l.length (fun i => okRw (l.getD i [])) (decide ((l.length : Int) ≤ 200)) _ (areR_iff l) (fun k => ?_) (fun k i hi => ?_)
  · simp only [impl_areRanges.l0]
    rw [if_neg (by omega)]
  · have hu : impl_areRanges.l0 (k + 1) l l (l.length : Int) (i : Int) = if ((l.getD i []).length : Int) = 3 then (if 0 < ((l.getD i []).length : Int) then (if 1 < ((l.getD i []).length : Int) then (if 2 < ((l.getD i []).length : Int) then ((impl_IsHole.f (rd (l.getD i []) 0) (rd (l.getD i []) 1) (rd (l.getD i []) 2)).bind fun t => if t = true then impl_areRanges.l0 k l l (l.length : Int) ((i : Int) + 1) else some false) else none) else none) else none) else some false := by
      simp only [impl_areRanges.l0, show wrap64 ((i : Int) + 1) = (i : Int) + 1 from by unfold wrap64; omega]
      rw [if_pos (by omega), if_pos (by omega), if_pos (by omega)]
      rfl
    rw [hu]
    unfold okRw
    by_cases h3 : (l.getD i []).length = 3
    · rw [if_pos (by omega), if_pos (by omega), if_pos (by omega), if_pos (by omega), isHole_eq, Option.bind_some]
      constructor
      · intro h
        rw [if_pos (decide_eq_true ⟨h.2.1, h.2.2.1, h.2.2.2.1, h.2.2.2.2.1, h.2.2.2.2.2⟩)]
      · intro h
        rw [if_neg (by rw [decide_eq_true_eq]; exact fun q => h ⟨h3, q⟩)]
    · rw [if_neg (by omega)]
      exact ⟨fun h => absurd h.1 h3, fun _ => rfl⟩
theorem spec_areR (l : List (List Int)) (hl : l.length ≤ 1048576) : Ev (fun k => spec_rpGood.f k l) (decide (areR l)) := by
  unfold spec_rpGood.f
  refine all_loop (fun k i => spec_rpGood.l0 k l l (l.length : Int) i) l.length (fun i => okRw (l.getD i [])) (decide ((l.length : Int) ≤ 200)) _ (areR_iff l) (fun k => ?_) (fun k i hi => ?_)
  · simp only [spec_rpGood.l0]
    rw [if_neg (by omega)]
  · have hu : spec_rpGood.l0 (k + 1) l l (l.length : Int) (i : Int) = if ((l.getD i []).length : Int) = 3 then (if 0 < ((l.getD i []).length : Int) then (if 1 < ((l.getD i []).length : Int) then (if 2 < ((l.getD i []).length : Int) then ((spec_shHole.f (rd (l.getD i []) 0) (rd (l.getD i []) 1) (rd (l.getD i []) 2)).bind fun t => if t = true then spec_rpGood.l0 k l l (l.length : Int) ((i : Int) + 1) else some false) else none) else none) else none) else some false := by
      simp only [spec_rpGood.l0, show wrap64 ((i : Int) + 1) = (i : Int) + 1 from by unfold wrap64; omega]
      rw [if_pos (by omega), if_pos (by omega), if_pos (by omega)]
      rfl
    rw [hu]
    unfold okRw
    by_cases h3 : (l.getD i []).length = 3
    · rw [if_pos (by omega), if_pos (by omega), if_pos (by omega), if_pos (by omega), shHole_eq, Option.bind_some]
      constructor
      · intro h
        rw [if_pos (decide_eq_true ⟨h.2.1, h.2.2.1, h.2.2.2.1, h.2.2.2.2.1, h.2.2.2.2.2⟩)]
      · intro h
        rw [if_neg (by rw [decide_eq_true_eq]; exact fun q => h ⟨h3, q⟩)]
    · rw [if_neg (by omega)]
      exact ⟨fun h => absurd h.1 h3, fun _ => rfl⟩

/-! ints: to, eq -/
theorem toIntS (l : List Int) (hl : l.length ≤ 1048576) : Ev (fun k => laws_toIntS.f k l) l := by
  unfold laws_toIntS.f
  refine ev_pos (by omega) (ev_pos (by omega) ?_)
  have h := map_loop (fun k ys i => laws_toIntS.l0 k l ys i) l (0 : Int) (0 : Int) (fun k x => some x) (fun b => b) (fun x => x) (fun k ys i => rfl) (fun x _ => ev_const rfl) (by omega)
  simpa using h

theorem eqIntS (l : List Int) (hl : l.length ≤ 1048576) : Ev (fun k => laws_eqIntS.f k l l) true := by
  unfold laws_eqIntS.f
  refine ev_pos rfl ?_
  refine same_loop (fun k i => laws_eqIntS.l0 k l l i) l (0 : Int) (fun k x => some true) (fun k i => ?_) (fun x _ => ev_const rfl) (by omega)
  simp only [laws_eqIntS.l0, Option.bind_some, ↓reduceIte]

/-! rows of ints: sizes, copies -/
theorem toIntSS (l : List (List Int)) (hl : l.length ≤ 1048576) (hx : ∀ x ∈ l, x.length ≤ 1048576) : Ev (fun k => laws_toIntSS.f k l) l := by
  unfold laws_toIntSS.f
  refine ev_pos (by omega) (ev_pos (by omega) ?_)
  have h := map_loop (fun k ys i => laws_toIntSS.l0 k l ys i) l ([] : List Int) ([] : List Int) (fun k x => laws_toIntS.f k x) (fun b => b) (fun x => x) (fun k ys i => rfl) (fun x hm => toIntS x (hx x hm)) (by omega)
  simpa using h
theorem szIntSS (l : List (List Int)) (b : Int) (hb : 0 ≤ b ∧ b ≤ 1048576) (hl : l.length ≤ 9223372036854775807) (hx : ∀ x ∈ l, x.length ≤ 9223372036854775807) :
    ∃ r, Ev (fun k => laws_szIntSS.f k l b) r ∧ (r < 0 ∨ (l.length ≤ 1048576 ∧ (∀ x ∈ l, x.length ≤ 1048576) ∧ 0 ≤ r ∧ r ≤ b)) := by
  have e : wrap64 (b - (l.length : Int)) = b - l.length := by unfold wrap64; omega
  unfold laws_szIntSS.f
  rw [e]
  by_cases h : b - (l.length : Int) < 0
  · exact ⟨-1, ev_pos h (Ev.now _), .inl (by omega)⟩
  · have key := count_up l.length (fun i (a : Int) => 0 ≤ a ∧ a ≤ b) (fun i a => ∃ r, Ev (fun k => laws_szIntSS.l0 k l a (i : Int)) r ∧ (r < 0 ∨ (∀ x ∈ l.drop i, x.length ≤ 1048576) ∧ 0 ≤ r ∧ r ≤ b)) (fun a ha => ?_) (fun i a hi ha ih => ?_) 0 (b - (l.length : Int)) (Nat.zero_le _) ⟨by omega, by omega⟩
    · obtain ⟨r, h1, h2⟩ := key
      rw [List.drop_zero] at h2
      exact ⟨r, ev_neg h h1, h2.imp id (fun h2 => ⟨by omega, h2⟩)⟩
    · refine ⟨a, Ev.step (f := fun _ => some a) (fun k => ?_) (Ev.now _), .inr ⟨by rw [List.drop_length]; simp, ha⟩⟩
      simp only [laws_szIntSS.l0]
      rw [if_neg (by omega)]
    · have e1 := wn hi (by omega)
      have hxi := hx _ (List.getElem_mem hi)
      have es : laws_szIntS.f l[i] a = some (if (l[i].length : Int) ≤ a then a - l[i].length else -1) := by
        have e2 : wrap64 (a - (l[i].length : Int)) = a - l[i].length := by unfold wrap64; omega
        simp only [laws_szIntS.f, e2]
        by_cases c : (l[i].length : Int) ≤ a
        · rw [if_neg (by omega), if_pos c]
        · rw [if_pos (by omega), if_neg c]
      have hu : ∀ k, laws_szIntSS.l0 (k + 1) l a (i : Int) = (laws_szIntS.f l[i] a).bind fun t => if t < 0 then some (-1) else laws_szIntSS.l0 k l t ((i + 1 : Nat) : Int) := fun k => by
        simp only [laws_szIntSS.l0, e1]
        rw [if_pos (by omega), if_pos (by omega)]
        show (laws_szIntS.f (l.getD (i : Int).toNat []) a).bind _ = _
        rw [rd_get hi]
      rw [List.drop_eq_getElem_cons hi]
      by_cases c : (l[i].length : Int) ≤ a
      · obtain ⟨r, h1, h2⟩ := ih (a - l[i].length) ⟨by omega, by omega⟩
        refine ⟨r, Ev.step (fun k => ?_) h1, h2.imp id (fun h2 => ⟨fun x hm => ?_, h2.2⟩)⟩
        · rw [hu, es, if_pos c, Option.bind_some, if_neg (by omega)]
        · rcases List.mem_cons.1 hm with rfl | hm
          · omega
          · exact h2.1 x hm
      · refine ⟨-1, Ev.step (f := fun _ => some (-1)) (fun k => ?_) (Ev.now _), .inl (by omega)⟩
        rw [hu, es, if_neg c, Option.bind_some, if_pos (by omega)]
theorem sameIntSS (l : List (List Int)) (hl : l.length ≤ 140737488355328) (h : ∀ x ∈ l, x.length ≤ 1048576) : Ev (fun k => laws_eqIntSS.f k l l) true := by
  unfold laws_eqIntSS.f
  refine ev_pos rfl ?_
  refine same_loop (fun k i => laws_eqIntSS.l0 k l l i) l [] (fun k x => laws_eqIntS.f k x x) (fun k i => ?_) (fun x hx => eqIntS x (h x hx)) hl
  simp only [laws_eqIntSS.l0]
  rfl

theorem ba_ext {a b : ByteArray} (h : a.data.toList = b.data.toList) : a = b := by
  cases a with
  | mk x => cases b with
    | mk y =>
      have : x = y := by
        apply Array.ext'
        exact h
      rw [this]
theorem strOne (d : Int) (h0 : 0 ≤ d) (h1 : d ≤ 9) : strOfNums [(wrap64 (48 + d)) % 256] = ⟨#[UInt8.ofNat (48 + d.toNat)]⟩ := by
  have e : (wrap64 (48 + d)) % 256 = ((48 + d.toNat : Nat) : Int) := by unfold wrap64; omega
  rw [e]
  rfl
theorem dec_len : ∀ n : Nat, (Lib.decDigits n).length ≤ n + 1 := by
  intro n
  induction n using Nat.strongRecOn with
  | _ n ih =>
    rw [Lib.decDigits]
    split
    · simp
    · have := ih (n / 10) (by omega)
      rw [List.length_append]
      simp only [List.length_cons, List.length_nil]
      omega
/-- spec.l1Num: decimal digits. -/
theorem num_ev : ∀ n : Nat, n ≤ 9223372036854775807 → Ev (fun k => spec_l1Num.f k (n : Int)) ⟨(Lib.decDigits n).toArray⟩ := by
  intro n
  induction n using Nat.strongRecOn with
  | _ n ih =>
    intro hn
    by_cases c : n < 10
    · refine Ev.step (f := fun _ => some (⟨(Lib.decDigits n).toArray⟩ : ByteArray)) (fun k => ?_) (Ev.now _)
      simp only [spec_l1Num.f]
      rw [if_pos (by omega), strOne _ (by omega) (by omega), Lib.decDigits_one c, Int.toNat_natCast]
    · have e1 : wrap64 (Int.tdiv (n : Int) 10) = ((n / 10 : Nat) : Int) := by rw [Int.tdiv_eq_ediv_of_nonneg (by omega)]; unfold wrap64; omega
      have e2 : Int.tmod (n : Int) 10 = ((n % 10 : Nat) : Int) := by rw [Int.tmod_eq_emod_of_nonneg (by omega)]; omega
      have hd : Lib.decDigits n = Lib.decDigits (n / 10) ++ [UInt8.ofNat (48 + n % 10)] := by rw [Lib.decDigits, dif_neg c]
      have hlen := dec_len (n / 10)
      refine Ev.step (f := fun k => (spec_l1Num.f k ((n / 10 : Nat) : Int)).bind fun t => if t.size + (⟨#[UInt8.ofNat (48 + n % 10)]⟩ : ByteArray).size ≤ 9223372036854775807 then some (t ++ (⟨#[UInt8.ofNat (48 + n % 10)]⟩ : ByteArray)) else none) (fun k => ?_) (Ev.bind (ih (n / 10) (by omega) (by omega)) (ev_pos ?_ (ev_now ?_)))
      · simp only [spec_l1Num.f, e1, e2, Option.bind_some]
        rw [if_neg (by omega), strOne _ (by omega) (by omega), Int.toNat_natCast]
      · show (Lib.decDigits (n / 10)).toArray.size + 1 ≤ _
        rw [List.size_toArray]
        omega
      · refine ba_ext ?_
        rw [ByteArray.data_append, hd]
        simp
theorem itoa_f (n : Int) (h0 : -1000000000 ≤ n) (h1 : n ≤ 1000000000) : strconv_Itoa_37.f n = some ⟨(Lib.itoa n).toArray⟩ := by
  unfold strconv_Itoa_37.f
  rw [if_pos ⟨by omega, by omega⟩]
theorem itoa_size (n : Int) : (⟨(Lib.itoa n).toArray⟩ : ByteArray).size ≤ n.natAbs + 2 := by
  show (Lib.itoa n).toArray.size ≤ n.natAbs + 2
  rw [List.size_toArray]
  unfold Lib.itoa
  split
  · have := dec_len n.natAbs
    rw [List.length_cons]
    omega
  · have := dec_len n.toNat
    omega

def I3 (a : Int) : ByteArray := ⟨(Lib.itoa a).toArray⟩
def lineR (a b c : Int) : ByteArray := (((I3 a ++ (⟨#[32]⟩ : ByteArray)) ++ I3 b) ++ (⟨#[32]⟩ : ByteArray)) ++ I3 c
theorem sp1 : (⟨#[32]⟩ : ByteArray).size = 1 := rfl
theorem nl1 : (⟨#[10]⟩ : ByteArray).size = 1 := rfl
theorem I3_size (a : Int) (h0 : 0 ≤ a) (h1 : a ≤ 2000) : (I3 a).size ≤ 2002 := by
  have := itoa_size a
  unfold I3
  omega
theorem num3 (a : Int) (h0 : 0 ≤ a) (h1 : a ≤ 2000) : Ev (fun k => spec_l1Num.f k a) (I3 a) := by
  obtain ⟨u, rfl⟩ : ∃ u : Nat, a = (u : Int) := ⟨a.toNat, by omega⟩
  unfold I3
  rw [Lib.itoa_nonneg]
  exact num_ev u (by omega)
theorem lineR_size (a b c : Int) (ha : 0 ≤ a ∧ a ≤ 2000) (hb : 0 ≤ b ∧ b ≤ 2000) (hc : 0 ≤ c ∧ c ≤ 2000) : (lineR a b c).size ≤ 6010 := by
  have z1 := I3_size a ha.1 ha.2
  have z2 := I3_size b hb.1 hb.2
  have z3 := I3_size c hc.1 hc.2
  unfold lineR
  simp only [ByteArray.size_append, sp1]
  omega
theorem join3 (a b c : Int) : (⟨(Lib.join ([I3 a, I3 b, I3 c].map (·.data.toList)) (⟨#[32]⟩ : ByteArray).data.toList).toArray⟩ : ByteArray) = lineR a b c := by
  refine ba_ext ?_
  unfold lineR I3
  simp [Lib.join_cons, Lib.joinTail, ByteArray.data_append]
theorem words3 (a b c : Int) (ha : 0 ≤ a ∧ a ≤ 2000) (hb : 0 ≤ b ∧ b ≤ 2000) (hc : 0 ≤ c ∧ c ≤ 2000) : Ev (fun k => impl_words.f k [a, b, c]) (lineR a b c) := by
  unfold impl_words.f
  have e1 : wrap64 (0 + 1) = 1 := by unfold wrap64; omega
  have e2 : wrap64 (1 + 1) = 2 := by unfold wrap64; omega
  have e3 : wrap64 (2 + 1) = 3 := by unfold wrap64; omega
  have r0 : rd [a, b, c] 0 = a := rfl
  have r1 : rd [a, b, c] 1 = b := rfl
  have r2 : rd [a, b, c] 2 = c := rfl
  have hz := lineR_size a b c ha hb hc
  refine Ev.step (f := fun k => impl_words.l0 k [I3 a] [a, b, c] 3 1) (fun k => ?_) (Ev.step (f := fun k => impl_words.l0 k [I3 a, I3 b] [a, b, c] 3 2) (fun k => ?_) (Ev.step (f := fun k => impl_words.l0 k [I3 a, I3 b, I3 c] [a, b, c] 3 3) (fun k => ?_) (Ev.step (f := fun _ => some (lineR a b c)) (fun k => ?_) (Ev.now _))))
  · simp only [impl_words.l0]
    rw [if_pos (by simp), if_pos (by omega), if_pos (by simp), r0, itoa_f a (by omega) (by omega), Option.bind_some, if_pos (by simp), e1]
    rfl
  · simp only [impl_words.l0]
    rw [if_pos (by omega), if_pos (by omega), if_pos (by simp), r1, itoa_f b (by omega) (by omega), Option.bind_some, if_pos (by simp), e2]
    rfl
  · simp only [impl_words.l0]
    rw [if_pos (by omega), if_pos (by omega), if_pos (by simp), r2, itoa_f c (by omega) (by omega), Option.bind_some, if_pos (by simp), e3]
    rfl
  · simp only [impl_words.l0]
    rw [if_neg (by omega)]
    unfold strings_Join.f
    have hl : (Lib.join ([I3 a, I3 b, I3 c].map (·.data.toList)) (⟨#[32]⟩ : ByteArray).data.toList).length ≤ 140737488355328 := by
      have h := congrArg ByteArray.size (join3 a b c)
      have h2 : (⟨(Lib.join ([I3 a, I3 b, I3 c].map (·.data.toList)) (⟨#[32]⟩ : ByteArray).data.toList).toArray⟩ : ByteArray).size = (Lib.join ([I3 a, I3 b, I3 c].map (·.data.toList)) (⟨#[32]⟩ : ByteArray).data.toList).length := by
        show (List.toArray _).size = _
        rw [List.size_toArray]
      omega
    rw [if_pos ⟨by simp, hl⟩, Option.bind_some, join3]
theorem text_loop (l : List (List Int)) (hc : areR l) : ∃ r : ByteArray × Bool, Ev (fun k => spec_RangesText.l0 k (⟨#[]⟩ : ByteArray) l (l.length : Int) 0) r ∧ Ev (fun k => impl_RangesText.l0 k (⟨#[]⟩ : ByteArray) l (l.length : Int) 0) r := by
  have h200 := hc.2
  refine count_up l.length (fun i (s : ByteArray) => s.size ≤ 7000 * i) (fun i s => ∃ r : ByteArray × Bool, Ev (fun k => spec_RangesText.l0 k s l (l.length : Int) (i : Int)) r ∧ Ev (fun k => impl_RangesText.l0 k s l (l.length : Int) (i : Int)) r) (fun s _ => ?_) (fun i s hi hs ih => ?_) 0 (⟨#[]⟩ : ByteArray) (Nat.zero_le _) (Nat.le_refl _)
  · refine ⟨(s, true), Ev.step (f := fun _ => some (s, true)) (fun k => ?_) (Ev.now _), Ev.step (f := fun _ => some (s, true)) (fun k => ?_) (Ev.now _)⟩
    · simp only [spec_RangesText.l0]
      rw [if_neg (by omega)]
    · simp only [impl_RangesText.l0]
      rw [if_neg (by omega)]
  · have e1 := wn hi (by omega)
    have hx := hc.1 _ (List.getElem_mem hi)
    have hr : rd_L1 l (i : Int) = l[i] := by
      show l.getD (i : Int).toNat [] = _
      exact rd_get hi
    obtain ⟨a, b, c, hl3⟩ : ∃ a b c, l[i] = [a, b, c] := by
      have h3 := hx.1
      match hq : l[i], h3 with
      | [a, b, c], _ => exact ⟨a, b, c, rfl⟩
    rw [hl3] at hx
    obtain ⟨_, h1, h2, h3, h4, h5⟩ := hx
    have r0 : rd [a, b, c] 0 = a := rfl
    have r1 : rd [a, b, c] 1 = b := rfl
    have r2 : rd [a, b, c] 2 = c := rfl
    rw [r0] at h1 h2
    rw [r1] at h3 h4
    rw [r2] at h4 h5
    have z1 := I3_size a (by omega) (by omega)
    have z2 := I3_size b (by omega) (by omega)
    have z3 := I3_size c (by omega) (by omega)
    have zz := lineR_size a b c (by omega) (by omega) (by omega)
    have zn : (lineR a b c ++ (⟨#[10]⟩ : ByteArray)).size = (lineR a b c).size + 1 := by rw [ByteArray.size_append, nl1]
    obtain ⟨r, g1, g2⟩ := ih (s ++ (lineR a b c ++ (⟨#[10]⟩ : ByteArray))) (by rw [ByteArray.size_append, zn]; omega)
    have q1 : (I3 a ++ (⟨#[32]⟩ : ByteArray)).size = (I3 a).size + 1 := by rw [ByteArray.size_append, sp1]
    have q2 : ((I3 a ++ (⟨#[32]⟩ : ByteArray)) ++ I3 b).size = (I3 a).size + 1 + (I3 b).size := by rw [ByteArray.size_append, q1]
    have q3 : (((I3 a ++ (⟨#[32]⟩ : ByteArray)) ++ I3 b) ++ (⟨#[32]⟩ : ByteArray)).size = (I3 a).size + 1 + (I3 b).size + 1 := by rw [ByteArray.size_append, q2, sp1]
    refine ⟨r, Ev.step (f := fun k => (spec_l1Num.f k a).bind fun t => if t.size + 1 ≤ 9223372036854775807 then ((spec_l1Num.f k b).bind fun u => if (t ++ (⟨#[32]⟩ : ByteArray)).size + u.size ≤ 9223372036854775807 then (if ((t ++ (⟨#[32]⟩ : ByteArray)) ++ u).size + 1 ≤ 9223372036854775807 then ((spec_l1Num.f k c).bind fun v => if (((t ++ (⟨#[32]⟩ : ByteArray)) ++ u) ++ (⟨#[32]⟩ : ByteArray)).size + v.size ≤ 9223372036854775807 then (if ((((t ++ (⟨#[32]⟩ : ByteArray)) ++ u) ++ (⟨#[32]⟩ : ByteArray)) ++ v).size + 1 ≤ 9223372036854775807 then (if s.size + (((((t ++ (⟨#[32]⟩ : ByteArray)) ++ u) ++ (⟨#[32]⟩ : ByteArray)) ++ v) ++ (⟨#[10]⟩ : ByteArray)).size ≤ 9223372036854775807 then spec_RangesText.l0 k (s ++ (((((t ++ (⟨#[32]⟩ : ByteArray)) ++ u) ++ (⟨#[32]⟩ : ByteArray)) ++ v) ++ (⟨#[10]⟩ : ByteArray))) l (l.length : Int) ((i + 1 : Nat) : Int) else none) else none) else none) else none) else none) else none) (fun k => ?_)
        (Ev.bind (num3 a (by omega) (by omega)) (ev_pos (by omega) (Ev.bind (num3 b (by omega) (by omega)) (ev_pos (by omega) (ev_pos (by omega) (Ev.bind (num3 c (by omega) (by omega)) (ev_pos (by omega) (ev_pos (show (lineR a b c).size + 1 ≤ _ by omega) (ev_pos (show s.size + (lineR a b c ++ (⟨#[10]⟩ : ByteArray)).size ≤ _ by omega) g1))))))))),
      Ev.step (f := fun k => (impl_words.f k [a, b, c]).bind fun t => if t.size + 1 ≤ 9223372036854775807 then (if s.size + (t ++ (⟨#[10]⟩ : ByteArray)).size ≤ 140737488355328 then impl_RangesText.l0 k (s ++ (t ++ (⟨#[10]⟩ : ByteArray))) l (l.length : Int) ((i + 1 : Nat) : Int) else none) else none) (fun k => ?_) (Ev.bind (words3 a b c (by omega) (by omega) (by omega)) (ev_pos (by omega) (ev_pos (by omega) g2)))⟩
    · simp only [spec_RangesText.l0, e1, hr, hl3, r0, r1, r2]
      rw [if_pos (by omega), if_pos (by omega), if_pos (by omega), if_pos (by simp)]
      simp only [if_pos (show (1 : Int) < (([a, b, c] : List Int).length : Int) by simp), if_pos (show (2 : Int) < (([a, b, c] : List Int).length : Int) by simp)]
    · simp only [impl_RangesText.l0, e1, hr, hl3]
      rw [if_pos (by omega), if_pos (by omega), if_pos (by omega)]
theorem text_both (l : List (List Int)) (hl : l.length ≤ 1048576) : ∃ r : ByteArray × Bool, Ev (fun k => spec_RangesText.f k l) r ∧ Ev (fun k => impl_RangesText.f k l) r := by
  unfold spec_RangesText.f impl_RangesText.f
  by_cases hg : areR l
  · obtain ⟨r, g1, g2⟩ := text_loop l hg
    exact ⟨r, Ev.bind (spec_areR l hl) (ev_pos (decide_eq_true hg) g1), Ev.bind (impl_areR l hl) (ev_pos (decide_eq_true hg) g2)⟩
  · exact ⟨((⟨#[]⟩ : ByteArray), false), Ev.bind (spec_areR l hl) (ev_neg (by simpa using hg) (Ev.now _)), Ev.bind (impl_areR l hl) (ev_neg (by simpa using hg) (Ev.now _))⟩
theorem FnExactRangesText (l0 : List (List (Int))) (w0 : (l0.length ≤ maxLen ∧ ∀ y1 ∈ l0, (y1.length ≤ maxLen ∧ ∀ y2 ∈ y1, (Lit.int .i64 y2).wf = true))) :
    ∃ k, laws_FnExactRangesText.f k l0 = some true := by
  have hm : maxLen ≤ 9223372036854775807 := by decide
  have hm2 : l0.length ≤ 9223372036854775807 := Nat.le_trans w0.1 hm
  refine Ev.rounds (g := fun k => laws_FnExactRangesText.f k l0) ?_
  unfold laws_FnExactRangesText.f
  obtain ⟨q, hq, hq2⟩ := szIntSS l0 1048576 (by omega) hm2 (fun x hx => Nat.le_trans (w0.2 x hx).1 hm)
  refine Ev.bind hq (ev_ite (fun _ => Ev.now _) (fun c0 => ?_))
  rcases hq2 with hq2 | ⟨hl, hx, _, _⟩
  · exact absurd hq2 c0
  have h1 := toIntSS l0 hl hx
  obtain ⟨r, g1, g2⟩ := text_both _ hl
  refine Ev.bind h1 (Ev.bind g1 (Ev.bind h1 (Ev.bind g2 (ev_pos rfl (Ev.step (f := fun k => (laws_toIntSS.f k l0).bind fun t => (laws_eqIntSS.f k l0 t).bind fun u => if u = true then some true else some false) (fun k => ?_) (Ev.bind h1 (Ev.bind (sameIntSS l0 (by omega) hx) (ev_pos rfl (Ev.now _)))))))))
  simp only [laws_FnExactRangesText.j0]
  rw [if_neg (by simp)]
end Go.Proofs.YtiekokdlcgpcdaaDoor.PureFnExactRangesText
