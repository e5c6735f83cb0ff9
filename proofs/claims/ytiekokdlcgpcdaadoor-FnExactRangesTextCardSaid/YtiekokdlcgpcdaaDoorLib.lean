/- Plain lemmas on loops with rounds, on lists and on numbers, for the plain statements. No conditions. -/
import Derived.Test.YtiekokdlcgpcdaaDoorWMore
namespace Go.Proofs.YtiekokdlcgpcdaaDoor.Lib
open Go Go.RowKit Go.Proofs.YtiekokdlcgpcdaaDoorW.PrintWords Go.Proofs.YtiekokdlcgpcdaaDoorW.PrintLast Go.Proofs.YtiekokdlcgpcdaaDoorW.PrintMore

theorem wid {n : Int} (h : -9223372036854775808 ≤ n) (h' : n ≤ 9223372036854775807) : wrap64 n = n := by unfold wrap64; omega
theorem w1 {i : Int} {n : Nat} (h0 : 0 ≤ i) (h : i < (n : Int)) (hn : n ≤ 140737488355328) : wrap64 (i + 1) = i + 1 := by unfold wrap64; omega
theorem wb {n : Int} (h : (Lit.int .i64 n).wf = true) : -9223372036854775808 ≤ n ∧ n ≤ 9223372036854775807 := by
  simp [Lit.wf, IntKind.min, IntKind.max, IntKind.signed, IntKind.bits] at h
  omega
theorem wmk {n : Int} (h : -9223372036854775808 ≤ n) (h' : n ≤ 9223372036854775807) : (Lit.int .i64 n).wf = true := by
  simp [Lit.wf, IntKind.min, IntKind.max, IntKind.signed, IntKind.bits]
  omega


section
variable {α β γ : Type}
theorem ev_pos {c : Prop} [Decidable c] {f g : Nat → Option α} {r : α} (hc : c) (h : Ev f r) : Ev (fun k => if c then f k else g k) r := by simpa only [if_pos hc] using h
theorem ev_neg {c : Prop} [Decidable c] {f g : Nat → Option α} {r : α} (hc : ¬ c) (h : Ev g r) : Ev (fun k => if c then f k else g k) r := by simpa only [if_neg hc] using h
theorem ev_ite {c : Prop} [Decidable c] {f g : Nat → Option α} {r : α} (h1 : c → Ev f r) (h2 : ¬ c → Ev g r) : Ev (fun k => if c then f k else g k) r := by
  by_cases hc : c
  · exact ev_pos hc (h1 hc)
  · exact ev_neg hc (h2 hc)
theorem ev_eq {f : Nat → Option α} {r r' : α} (h : Ev f r) (e : r = r') : Ev f r' := e ▸ h
theorem ev_now {r r' : α} (e : r = r') : Ev (fun _ => some r) r' := e ▸ Ev.now r
/-- A call that needs no rounds. -/
theorem ev_call {g : Option α} {f : Nat → α → Option β} {a : α} {r : β} (h : g = some a) (k : Ev (fun n => f n a) r) : Ev (fun n => g.bind (f n)) r := by
  subst h; simpa only [Option.bind_some] using k
theorem ev_const {g : Option α} {a : α} (h : g = some a) : Ev (fun _ => g) a := ⟨0, fun _ _ => h⟩

theorem some_dec {p q : Prop} [Decidable p] [Decidable q] (h : p → q) (h' : q → p) : some (decide p) = some (decide q) := by
  congr 1; exact Bool.eq_iff_iff.2 (by simp only [decide_eq_true_eq]; exact ⟨h, h'⟩)
theorem some_dec_f {q : Prop} [Decidable q] (h : ¬ q) : some false = some (decide q) := by
  congr 1; exact (decide_eq_false h).symm
theorem some_dec_t {q : Prop} [Decidable q] (h : q) : some true = some (decide q) := by
  congr 1; exact (decide_eq_true h).symm
/-- A loop that looks at each place and goes on while all is well; at the end it says fin. -/
theorem all_loop (L : Nat → Int → Option Bool) (n : Nat) (P : Nat → Prop) (fin r : Bool) (hr : r = true ↔ (∀ i, i < n → P i) ∧ fin = true) (hstop : ∀ k, L (k + 1) (n : Int) = some fin)
    (hgo : ∀ k (i : Nat), i < n → (P i → L (k + 1) (i : Int) = L k ((i : Int) + 1)) ∧ (¬ P i → L (k + 1) (i : Int) = some false)) : Ev (fun k => L k 0) r := by
  have key : ∀ d i : Nat, n - i = d → i ≤ n → (∀ j, j < i → P j) → Ev (fun k => L k (i : Int)) r := by
    intro d
    induction d with
    | zero =>
      intro i hd hi hp
      obtain rfl : i = n := by omega
      refine Ev.step (f := fun _ => some fin) (fun k => hstop k) (ev_now ?_)
      rw [Bool.eq_iff_iff, hr]
      exact ⟨fun h => ⟨hp, h⟩, fun h => h.2⟩
    | succ d ih =>
      intro i hd hi hp
      have hlt : i < n := by omega
      by_cases hc : P i
      · refine Ev.step (fun k => (hgo k i hlt).1 hc) ?_
        refine ih (i + 1) (by omega) (by omega) (fun j hj => ?_)
        by_cases e : j = i
        · exact e ▸ hc
        · exact hp j (by omega)
      · refine Ev.step (fun k => (hgo k i hlt).2 hc) (ev_now ?_)
        cases hrr : r with
        | false => rfl
        | true => exact absurd ((hr.1 hrr).1 i hlt) hc
  exact key n 0 (by omega) (by omega) (fun j hj => absurd hj (by omega))

/-- .. at the end it comes to fin, with rounds of its own, where all was well. -/
theorem all_loop_ev (L : Nat → Int → Option Bool) (n : Nat) (P : Nat → Prop) (fin r : Bool) (hr : r = true ↔ (∀ i, i < n → P i) ∧ fin = true) (hstop : (∀ i, i < n → P i) → Ev (fun k => L k (n : Int)) fin)
    (hgo : ∀ k (i : Nat), i < n → (P i → L (k + 1) (i : Int) = L k ((i : Int) + 1)) ∧ (¬ P i → L (k + 1) (i : Int) = some false)) : Ev (fun k => L k 0) r := by
  have key : ∀ d i : Nat, n - i = d → i ≤ n → (∀ j, j < i → P j) → Ev (fun k => L k (i : Int)) r := by
    intro d
    induction d with
    | zero =>
      intro i hd hi hp
      obtain rfl : i = n := by omega
      refine ev_eq (hstop hp) ?_
      rw [Bool.eq_iff_iff, hr]
      exact ⟨fun h => ⟨hp, h⟩, fun h => h.2⟩
    | succ d ih =>
      intro i hd hi hp
      have hlt : i < n := by omega
      by_cases hc : P i
      · refine Ev.step (fun k => (hgo k i hlt).1 hc) ?_
        refine ih (i + 1) (by omega) (by omega) (fun j hj => ?_)
        by_cases e : j = i
        · exact e ▸ hc
        · exact hp j (by omega)
      · refine Ev.step (fun k => (hgo k i hlt).2 hc) (ev_now ?_)
        cases hrr : r with
        | false => rfl
        | true => exact absurd ((hr.1 hrr).1 i hlt) hc
  exact key n 0 (by omega) (by omega) (fun j hj => absurd hj (by omega))
/-- A loop that counts up to n: from each state it comes to F. -/
theorem ev_for {σ ρ : Type} (L : Nat → σ → Int → Option ρ) (n : Nat) (Inv : Nat → σ → Prop) (F : Nat → σ → ρ) (hstop : ∀ s, Inv n s → Ev (fun k => L k s (n : Int)) (F n s))
    (hgo : ∀ i s, i < n → Inv i s → (∀ s', Inv (i + 1) s' → Ev (fun k => L k s' ((i + 1 : Nat) : Int)) (F (i + 1) s')) → Ev (fun k => L k s (i : Int)) (F i s)) :
    ∀ i s, i ≤ n → Inv i s → Ev (fun k => L k s (i : Int)) (F i s) := by
  have key : ∀ d i : Nat, n - i = d → i ≤ n → ∀ s, Inv i s → Ev (fun k => L k s (i : Int)) (F i s) := by
    intro d
    induction d with
    | zero =>
      intro i hd hi s hs
      obtain rfl : i = n := by omega
      exact hstop s hs
    | succ d ih =>
      intro i hd hi s hs
      exact hgo i s (by omega) hs (fun s' hs' => ih (i + 1) (by omega) (by omega) s' hs')
  intro i s hi hs
  exact key (n - i) i rfl hi s hs
/-- A loop that folds a list. -/
theorem fold_loop {σ ρ : Type} (L : Nat → σ → Int → Option ρ) (xs : List α) (step : σ → α → σ) (fin : σ → ρ) (hstop : ∀ k s, L (k + 1) s (xs.length : Int) = some (fin s))
    (hgo : ∀ k s (i : Nat) (h : i < xs.length), L (k + 1) s (i : Int) = L k (step s xs[i]) ((i : Int) + 1)) (s : σ) : Ev (fun k => L k s 0) (fin (xs.foldl step s)) := by
  have := ev_for L xs.length (fun _ _ => True) (fun i s => fin ((xs.drop i).foldl step s)) (fun s _ => by
      rw [List.drop_length]
      exact Ev.step (f := fun _ => some (fin s)) (fun k => hstop k s) (Ev.now _)) (fun i s hi _ h => by
      rw [List.drop_eq_getElem_cons hi, List.foldl_cons]
      exact Ev.step (fun k => hgo k s i hi) (h _ trivial)) 0 s (Nat.zero_le _) trivial
  simpa using this

/-- A loop that writes each element's image into its place. -/
theorem map_loop (L : Nat → List β → Int → Option (List β)) (xs : List α) (z : α) (zb : β) (g : Nat → α → Option γ) (mk : γ → β) (c : α → γ)
    (hL : ∀ k ys i, L (k + 1) ys i = if i < (xs.length : Int) then (if 0 ≤ i then ((g k (xs.getD i.toNat z)).bind fun b => if i < (ys.length : Int) then L k (ys.set i.toNat (mk b)) (wrap64 (i + 1)) else none) else none) else some ys)
    (hg : ∀ x ∈ xs, Ev (fun k => g k x) (c x)) (hn : xs.length ≤ 140737488355328) :
    Ev (fun k => L k (List.replicate xs.length zb) 0) (xs.map fun x => mk (c x)) := by
  have key : ∀ (d i : Nat) (ys : List β), xs.length - i = d → i ≤ xs.length → ys.length = xs.length → Ev (fun k => L k ys (i : Int)) (ys.take i ++ (xs.drop i).map fun x => mk (c x)) := by
    intro d
    induction d with
    | zero =>
      intro i ys hd hi hy
      obtain rfl : i = xs.length := by omega
      refine Ev.step (f := fun _ => some ys) (fun k => by rw [hL, if_neg (by omega)]) ?_
      refine ev_now ?_
      rw [List.drop_length, List.map_nil, List.append_nil, ← hy, List.take_length]
    | succ d ih =>
      intro i ys hd hi hy
      have hlt : i < xs.length := by omega
      have e : wrap64 ((i : Int) + 1) = ((i + 1 : Nat) : Int) := by unfold wrap64; omega
      refine Ev.step (f := fun k => (g k xs[i]).bind fun b => L k (ys.set i (mk b)) ((i + 1 : Nat) : Int)) (fun k => ?_) ?_
      · rw [hL, if_pos (by omega), if_pos (by omega)]
        have e2 : xs.getD (i : Int).toNat z = xs[i] := by
          rw [Int.toNat_natCast, List.getD_eq_getElem?_getD, List.getElem?_eq_getElem hlt]; rfl
        rw [e2]
        congr 1
        funext b
        rw [if_pos (by omega), e, Int.toNat_natCast]
      · refine Ev.bind (f := fun k b => L k (ys.set i (mk b)) ((i + 1 : Nat) : Int)) (hg xs[i] (List.getElem_mem hlt)) ?_
        refine ev_eq (ih (i + 1) (ys.set i (mk (c xs[i]))) (by omega) (by omega) (by rw [List.length_set]; exact hy)) ?_
        have h3 : (ys.set i (mk (c xs[i]))).take (i + 1) = ys.take i ++ [mk (c xs[i])] := by
          have hy2 : i < (ys.set i (mk (c xs[i]))).length := by rw [List.length_set]; omega
          rw [List.take_succ_eq_append_getElem hy2, List.getElem_set_self, List.take_set_of_le (Nat.le_refl i)]
        rw [h3, List.drop_eq_getElem_cons hlt, List.map_cons, List.append_assoc]
        rfl
  have := key xs.length 0 (List.replicate xs.length zb) (by omega) (by omega) (by simp)
  simpa using this

/-- A loop that compares a list with itself. -/
theorem same_loop (L : Nat → Int → Option Bool) (xs : List α) (z : α) (e : Nat → α → Option Bool)
    (hL : ∀ k i, L (k + 1) i = if i < (xs.length : Int) then (if 0 ≤ i then (if i < (xs.length : Int) then ((e k (xs.getD i.toNat z)).bind fun t => if t = true then L k (wrap64 (i + 1)) else some false) else none) else none) else some true)
    (he : ∀ x ∈ xs, Ev (fun k => e k x) true) (hn : xs.length ≤ 140737488355328) : Ev (fun k => L k 0) true := by
  have key : ∀ (d i : Nat), xs.length - i = d → i ≤ xs.length → Ev (fun k => L k (i : Int)) true := by
    intro d
    induction d with
    | zero =>
      intro i hd hi
      obtain rfl : i = xs.length := by omega
      exact Ev.step (f := fun _ => some true) (fun k => by rw [hL, if_neg (by omega)]) (Ev.now _)
    | succ d ih =>
      intro i hd hi
      have hlt : i < xs.length := by omega
      have e1 : wrap64 ((i : Int) + 1) = ((i + 1 : Nat) : Int) := by unfold wrap64; omega
      have e2 : xs.getD (i : Int).toNat z = xs[i] := by
        rw [Int.toNat_natCast, List.getD_eq_getElem?_getD, List.getElem?_eq_getElem hlt]; rfl
      refine Ev.step (f := fun k => (e k xs[i]).bind fun t => if t = true then L k ((i + 1 : Nat) : Int) else some false) (fun k => ?_) ?_
      · rw [hL, if_pos (by omega), if_pos (by omega), if_pos (by omega), e2, e1]
      · refine Ev.bind (f := fun k t => if t = true then L k ((i + 1 : Nat) : Int) else some false) (he xs[i] (List.getElem_mem hlt)) ?_
        exact ev_pos rfl (ih (i + 1) (by omega) (by omega))
  exact key xs.length 0 (by omega) (by omega)
theorem rd_get {xs : List α} {z : α} {i : Nat} (h : i < xs.length) : xs.getD (i : Int).toNat z = xs[i] := by
  rw [Int.toNat_natCast, List.getD_eq_getElem?_getD, List.getElem?_eq_getElem h]; rfl
end
end Go.Proofs.YtiekokdlcgpcdaaDoor.Lib
