/- The plain statement of FnPassesPlays (lemmas): the law's function, over numbers and lists, answers true. No conditions beyond the arguments' own kinds. -/
import Derived.Test.YtdcchnfndhkfaaaSFnPassesPlays20
import Derived.Test.YtdcchnfndhkfaaaPureFnPassesPlaysc
namespace Go.Proofs.Ytdcchnfndhkfaaa.PureFnPassesPlays
open Go Go.RowKit Go.Proofs.Ytdcchnfndhkfaaa.PFnPassesPlays Go.Proofs.YtdcchnfndhkfaaaW.PrintWords Go.Proofs.YtdcchnfndhkfaaaW.PrintLast Go.Proofs.YtdcchnfndhkfaaaW.PrintMore Go.Proofs.Ytdcchnfndhkfaaa.Lib
set_option linter.unusedVariables false
set_option linter.unusedSimpArgs false
theorem lex2 (a b c d : Int) : srt.lexLt [a, b] [c, d] = decide (a < c ∨ a = c ∧ b < d) := by
  unfold srt.lexLt srt.lexC srt.lexC srt.lexC
  by_cases h1 : a < c
  · rw [if_pos h1]; simp [h1]
  · by_cases h2 : c < a
    · rw [if_neg h1, if_pos h2]; simp; omega
    · rw [if_neg h1, if_neg h2]
      by_cases h3 : b < d
      · rw [if_pos h3]; simp; omega
      · by_cases h4 : d < b
        · rw [if_neg h3, if_pos h4]; simp; omega
        · rw [if_neg h3, if_neg h4]; simp; omega
def partAt (e : List (List Int)) (most : Int) (j : Nat) : List (List Int) := if vff.missAt e j = true then [[0, (j : Int)]] else (if vff.offAt most 0 e j = true then [[2, (j : Int)]] else []) ++ (if vff.offAt most 1 e j = true then [[3, (j : Int)]] else [])
def parts (e : List (List Int)) (most : Int) : Nat → List (List Int)
  | 0 => []
  | n + 1 => parts e most n ++ partAt e most n
theorem parts_len (e : List (List Int)) (most : Int) : ∀ n, (parts e most n).length ≤ 2 * n
  | 0 => Nat.le_refl _
  | n + 1 => by
    have := parts_len e most n
    unfold parts partAt
    rw [List.length_append]
    have h : (if vff.missAt e n = true then [[0, (n : Int)]] else (if vff.offAt most 0 e n = true then [[2, (n : Int)]] else []) ++ (if vff.offAt most 1 e n = true then [[3, (n : Int)]] else [])).length ≤ 2 := by
      split
      · exact Nat.le_succ _
      · rw [List.length_append]; split <;> split <;> simp
    omega
theorem parts_perm (e : List (List Int)) (most : Int) : ∀ n, (parts e most n).Perm (vff.rows 0 (vff.pick (vff.missAt e) n) ++ vff.rows 2 (vff.pick (vff.offAt most 0 e) n) ++ vff.rows 3 (vff.pick (vff.offAt most 1 e) n))
  | 0 => List.Perm.refl _
  | n + 1 => by
    have ih := List.perm_iff_count.1 (parts_perm e most n)
    refine List.perm_iff_count.2 fun a => ?_
    have ha := ih a
    unfold parts partAt
    rw [vff.pick_succ, vff.pick_succ, vff.pick_succ]
    simp only [List.count_append] at ha ⊢
    by_cases m : vff.missAt e n = true
    · have o : ∀ c, ¬ vff.offAt most c e n = true := fun c => by unfold vff.offAt; rw [m]; simp
      rw [if_pos m, if_pos m, if_neg (o 0), if_neg (o 1)]
      simp only [vff.rows, List.map_append, List.count_append, List.map_cons, List.map_nil] at ha ⊢
      omega
    · rw [if_neg m, if_neg m, List.count_append]
      by_cases o0 : vff.offAt most 0 e n = true <;> by_cases o1 : vff.offAt most 1 e n = true
      all_goals
        first | rw [if_pos o0, if_pos o0] | rw [if_neg o0, if_neg o0]
        first | rw [if_pos o1, if_pos o1] | rw [if_neg o1, if_neg o1]
        simp only [vff.rows, List.map_append, List.count_append, List.map_cons, List.map_nil, List.count_nil] at ha ⊢
        omega
theorem all_perm (e : List (List Int)) (most : Int) (extra silent : List Int) : (parts e most e.length ++ vff.rows 1 extra ++ vff.rows 4 silent).Perm (vff.faults e extra silent most) := by
  refine List.perm_iff_count.2 fun a => ?_
  have ha := List.perm_iff_count.1 (parts_perm e most e.length) a
  unfold vff.faults
  simp only [List.count_append] at ha ⊢
  omega
theorem pick_up (p : Nat → Bool) (n : Nat) : (vff.pick p n).Pairwise (· < ·) := by
  unfold vff.pick
  refine List.pairwise_map.2 (((List.pairwise_lt_range (n := n)).filter p).imp (fun h => ?_))
  omega
theorem rows_up (c : Int) {l : List Int} (h : l.Pairwise (· < ·)) : (vff.rows c l).Pairwise fun x y => srt.lexLt y x = false := by
  unfold vff.rows
  refine List.pairwise_map.2 (h.imp (fun {a b} h => ?_))
  rw [lex2]
  exact decide_eq_false (by omega)
theorem rows_mem {c : Int} {l : List Int} {x : List Int} (h : x ∈ vff.rows c l) : ∃ i, x = [c, i] := by
  obtain ⟨i, _, e⟩ := List.mem_map.1 h
  exact ⟨i, e.symm⟩
theorem app_up {A B : List (List Int)} {c : Int} (hA : A.Pairwise fun x y => srt.lexLt y x = false) (hB : B.Pairwise fun x y => srt.lexLt y x = false) (ha : ∀ x ∈ A, ∃ d i, d < c ∧ x = [d, i]) (hb : ∀ x ∈ B, ∃ i, x = [c, i]) : (A ++ B).Pairwise fun x y => srt.lexLt y x = false := by
  refine List.pairwise_append.2 ⟨hA, hB, fun x hx y hy => ?_⟩
  obtain ⟨d, i, hd, rfl⟩ := ha x hx
  obtain ⟨j, rfl⟩ := hb y hy
  rw [lex2]
  exact decide_eq_false (by omega)
theorem faults_up (e : List (List Int)) (most : Int) {extra silent : List Int} (h1 : extra.Pairwise (· < ·)) (h2 : silent.Pairwise (· < ·)) : (vff.faults e extra silent most).Pairwise fun x y => srt.lexLt y x = false := by
  have hm : ∀ {c d : Int} {l : List Int} {x : List Int}, d < c → x ∈ vff.rows d l → ∃ d i, d < c ∧ x = [d, i] := fun hd hx => by
    obtain ⟨i, e⟩ := rows_mem hx
    exact ⟨_, i, hd, e⟩
  unfold vff.faults
  refine app_up (c := 4) (app_up (c := 3) (app_up (c := 2) (app_up (c := 1) (rows_up 0 (pick_up _ _)) (rows_up 1 h1) (fun x hx => hm (by decide) hx) (fun x hx => rows_mem hx)) (rows_up 2 (pick_up _ _)) (fun x hx => ?_) (fun x hx => rows_mem hx)) (rows_up 3 (pick_up _ _)) (fun x hx => ?_) (fun x hx => rows_mem hx)) (rows_up 4 h2) (fun x hx => ?_) (fun x hx => rows_mem hx)
  all_goals simp only [List.mem_append] at hx
  · rcases hx with hx | hx
    · exact hm (by decide) hx
    · exact hm (by decide) hx
  · rcases hx with (hx | hx) | hx
    · exact hm (by decide) hx
    · exact hm (by decide) hx
    · exact hm (by decide) hx
  · rcases hx with ((hx | hx) | hx) | hx
    · exact hm (by decide) hx
    · exact hm (by decide) hx
    · exact hm (by decide) hx
    · exact hm (by decide) hx
theorem sort_faults (e : List (List Int)) (most : Int) {extra silent : List Int} (h1 : extra.Pairwise (· < ·)) (h2 : silent.Pairwise (· < ·)) : (parts e most e.length ++ vff.rows 1 extra ++ vff.rows 4 silent).mergeSort srt.lexLe = vff.faults e extra silent most := by
  refine srt.uniq ((List.mergeSort_perm _ _).trans (all_perm e most extra silent)) ?_ (faults_up e most h1 h2)
  have := List.pairwise_mergeSort (le := srt.lexLe) (fun a b c => srt.le_trans a b c) (fun a b => srt.le_total a b) (parts e most e.length ++ vff.rows 1 extra ++ vff.rows 4 silent)
  refine this.imp (fun {a b} h => ?_)
  unfold srt.lexLe at h
  simpa using h

theorem err_eq (a b c : Int) : wrap64 (wrap64 (c - wrap64 (2 * wrap64 (a + b))) + 1) = wrap64 (c - wrap64 (wrap64 (2 * wrap64 (a + b)) - 1)) := by unfold wrap64; omega
def errAt (l : List S35) (s : List S60) (g : List Int) (j : Nat) : List Int :=
  if rd g (j : Int) < 0 then [] else [wrap64 ((rd_T60 s (rd g (j : Int))).f1 - wrap64 (2 * (rd_T35 l (j : Int)).f1)), wrap64 ((rd_T60 s (rd g (j : Int))).f2 - wrap64 (wrap64 (2 * wrap64 ((rd_T35 l (j : Int)).f1 + (rd_T35 l (j : Int)).f2)) - 1))]
def errs (l : List S35) (s : List S60) (g : List Int) (n : Nat) : List (List Int) := (List.range n).map (errAt l s g)
theorem errs_len (l : List S35) (s : List S60) (g : List Int) (n : Nat) : (errs l s g n).length = n := by unfold errs; rw [List.length_map, List.length_range]
theorem errs_succ (l : List S35) (s : List S60) (g : List Int) (n : Nat) : errs l s g (n + 1) = errs l s g n ++ [errAt l s g n] := by unfold errs; rw [List.range_succ, List.map_append]; rfl
theorem errs_get (l : List S35) (s : List S60) (g : List Int) {n j : Nat} (h : j < n) : (errs l s g n).getD j [] = errAt l s g j := by
  unfold errs
  rw [List.getD_eq_getElem?_getD, List.getElem?_map, List.getElem?_range h]
  rfl
theorem errs_two (l : List S35) (s : List S60) (g : List Int) (n : Nat) : ∀ x ∈ errs l s g n, x.length = 0 ∨ 2 ≤ x.length := fun x hx => by
  obtain ⟨j, _, rfl⟩ := List.mem_map.1 hx
  unfold errAt
  split
  · exact .inl rfl
  · exact .inr (Nat.le_refl _)
theorem spec_errs (l : List S35) (s : List S60) (g : List Int) (hl : l.length ≤ 1048576) (hgl : g.length = l.length) (hg : ∀ x ∈ g, -1 ≤ x ∧ x < (s.length : Int)) :
    Ev (fun k => spec_vfErrors.l0 k l s [] g (g.length : Int) 0) (errs l s g g.length) := by
  refine count_up g.length (fun i (o : List (List Int)) => o = errs l s g i) (fun i o => Ev (fun k => spec_vfErrors.l0 k l s o g (g.length : Int) (i : Int)) (errs l s g g.length)) (fun o ho => ?_) (fun i o hi ho ih => ?_) 0 [] (Nat.zero_le _) rfl
  · rw [ho]
    refine Ev.step (f := fun _ => some (errs l s g g.length)) (fun k => ?_) (Ev.now _)
    simp only [spec_vfErrors.l0]
    rw [if_neg (by omega)]
  · have e1 := wn hi (by omega)
    have r1 : rd g (i : Int) = g[i] := rd_get hi
    have hx := hg _ (List.getElem_mem hi)
    have hol : o.length = i := by rw [ho, errs_len]
    have h2 := ih (o ++ [errAt l s g i]) (by rw [ho, errs_succ])
    unfold errAt at h2
    by_cases c : g[i] < 0
    · rw [r1, if_pos c] at h2
      refine Ev.step (fun k => ?_) h2
      simp only [spec_vfErrors.l0, e1, r1]
      rw [if_pos (by omega), if_pos (by omega), if_pos (by omega), if_pos c, if_pos (by omega)]
    · rw [r1, if_neg c] at h2
      refine Ev.step (fun k => ?_) h2
      simp only [spec_vfErrors.l0, e1, r1]
      rw [if_pos (by omega), if_pos (by omega), if_pos (by omega), if_neg c, if_pos (by omega), if_pos (by omega), if_pos (by omega), if_pos (by omega), err_eq]
theorem dist_eq (y : Int) : impl_distance.f (wrap64 y) 0 = some (vff.absV (wrap64 y)) := by
  unfold impl_distance.f vff.absV mx
  have e1 : wrap64 (wrap64 y - 0) = wrap64 y := by unfold wrap64; omega
  have e2 : wrap64 (0 - wrap64 y) = wrap64 (-wrap64 y) := by rw [Int.zero_sub]
  rw [e1, e2]
  congr 1
  split <;> split <;> omega
theorem part_eq (l : List S35) (s : List S60) (g : List Int) (most : Int) {n j : Nat} (h : j < n) :
    partAt (errs l s g n) most j = if rd g (j : Int) < 0 then [[0, (j : Int)]] else (if vff.absV (rd (errAt l s g j) 0) > most then [[2, (j : Int)]] else []) ++ (if vff.absV (rd (errAt l s g j) 1) > most then [[3, (j : Int)]] else []) := by
  unfold partAt vff.offAt vff.missAt
  rw [errs_get l s g h]
  by_cases c : rd g (j : Int) < 0
  · have e : errAt l s g j = [] := by unfold errAt; rw [if_pos c]
    rw [e, if_pos c, if_pos (by simp)]
  · have e : (errAt l s g j).length = 2 := by unfold errAt; rw [if_neg c]; rfl
    rw [e, if_neg c, if_neg (by simp)]
    simp
theorem impl_l0 (l : List S35) (s : List S60) (g ex : List Int) (most rp d b c : Int) (pi : List Int) (hl : l.length ≤ 1048576) (hgl : g.length = l.length) (hg : ∀ x ∈ g, -1 ≤ x ∧ x < (s.length : Int)) (r : List (List Int))
    (hr : Ev (fun k => impl_faultsOf.l1 k s (parts (errs l s g g.length) most g.length) ex (ex.length : Int) 0 pi rp d b c) r) :
    Ev (fun k => impl_faultsOf.l0 k l s most ex [] g (g.length : Int) 0 pi rp d b c) r := by
  refine count_up g.length (fun i (o : List (List Int)) => o = parts (errs l s g g.length) most i) (fun i o => Ev (fun k => impl_faultsOf.l0 k l s most ex o g (g.length : Int) (i : Int) pi rp d b c) r) (fun o ho => ?_) (fun i o hi ho ih => ?_) 0 [] (Nat.zero_le _) rfl
  · rw [ho]
    refine Ev.step (fun k => ?_) hr
    simp only [impl_faultsOf.l0]
    rw [if_neg (by omega)]
  · have e1 := wn hi (by omega)
    have r1 : rd g (i : Int) = g[i] := rd_get hi
    have hx := hg _ (List.getElem_mem hi)
    have hol : o.length ≤ 2 * i := by rw [ho]; exact parts_len _ _ _
    have h2 := ih (parts (errs l s g g.length) most (i + 1)) rfl
    have hp : parts (errs l s g g.length) most (i + 1) = o ++ partAt (errs l s g g.length) most i := by rw [ho]; rfl
    rw [hp, part_eq l s g most hi] at h2
    by_cases cc : g[i] < 0
    · rw [r1, if_pos cc] at h2
      refine Ev.step (fun k => ?_) h2
      simp only [impl_faultsOf.l0, e1, r1]
      rw [if_pos (by omega), if_pos (by omega), if_pos (by omega), if_pos cc, if_pos (by omega)]
    · rw [r1, if_neg cc] at h2
      have he : impl_holeErrors.f (rd_T35 l (i : Int)).f0 (rd_T35 l (i : Int)).f1 (rd_T35 l (i : Int)).f2 (rd_T60 s g[i]).f0 (rd_T60 s g[i]).f1 (rd_T60 s g[i]).f2 = some (errAt l s g i) := by
        unfold impl_holeErrors.f impl_noteEnd.f errAt
        rw [r1, if_neg cc]
        rfl
      have e2 : (errAt l s g i).length = 2 := by unfold errAt; rw [r1, if_neg cc]; rfl
      have d0 : impl_distance.f (rd (errAt l s g i) 0) 0 = some (vff.absV (rd (errAt l s g i) 0)) := by
        unfold errAt
        rw [r1, if_neg cc]
        exact dist_eq _
      have d1 : impl_distance.f (rd (errAt l s g i) 1) 0 = some (vff.absV (rd (errAt l s g i) 1)) := by
        unfold errAt
        rw [r1, if_neg cc]
        exact dist_eq _
      refine Ev.step (fun k => ?_) h2
      simp only [impl_faultsOf.l0, e1, r1, he, Option.bind_some, d0, d1, e2]
      rw [if_pos (by omega), if_pos (by omega), if_pos (by omega), if_neg cc, if_pos (by omega), if_pos (by omega), if_pos (by omega), if_pos (by decide)]
      by_cases q0 : vff.absV (rd (errAt l s g i) 0) > most
      · rw [if_pos q0, if_pos (by omega), if_pos (by decide), if_pos q0]
        by_cases q1 : vff.absV (rd (errAt l s g i) 1) > most
        · rw [if_pos q1, if_pos (by rw [List.length_append, List.length_singleton]; omega), if_pos q1, ← List.append_assoc]
        · rw [if_neg q1, if_neg q1, List.append_nil]
      · rw [if_neg q0, if_pos (by decide), if_neg q0]
        by_cases q1 : vff.absV (rd (errAt l s g i) 1) > most
        · rw [if_pos q1, if_pos (by omega), if_pos q1, List.nil_append]
        · rw [if_neg q1, if_neg q1, List.append_nil, List.append_nil]
theorem rows_take (c : Int) (x : List Int) {i : Nat} (hi : i < x.length) : vff.rows c (x.take (i + 1)) = vff.rows c (x.take i) ++ [[c, x[i]]] := by
  rw [List.take_add_one, List.getElem?_eq_getElem hi]
  unfold vff.rows
  rw [List.map_append]
  rfl
theorem rows_le (c : Int) (x : List Int) (i : Nat) : (vff.rows c (x.take i)).length ≤ x.length := by
  unfold vff.rows
  rw [List.length_map, List.length_take]
  omega
theorem impl_l1 (s : List S60) (A : List (List Int)) (ex : List Int) (rp d b c : Int) (pi si : List Int) (r : List (List Int)) (hA : A.length ≤ 1048576) (hx : ex.length ≤ 1048576) (q : List S37 × List Int) (hq : Ev (fun k => impl_spoken.f k pi rp s d b c) q)
    (hr : Ev (fun k => impl_faultsOf.l2 k (A ++ vff.rows 1 ex) q.2 (q.2.length : Int) 0) r) : Ev (fun k => impl_faultsOf.l1 k s A ex (ex.length : Int) 0 pi rp d b c) r := by
  refine count_up ex.length (fun i (o : List (List Int)) => o = A ++ vff.rows 1 (ex.take i)) (fun i o => Ev (fun k => impl_faultsOf.l1 k s o ex (ex.length : Int) (i : Int) pi rp d b c) r) (fun o ho => ?_) (fun i o hi ho ih => ?_) 0 A (Nat.zero_le _) (vff.start rfl)
  · rw [ho, List.take_length]
    refine Ev.step (f := fun k => (impl_spoken.f k pi rp s d b c).bind fun bt => impl_faultsOf.l2 k (A ++ vff.rows 1 ex) bt.2 (bt.2.length : Int) 0) (fun k => ?_) (Ev.bind hq hr)
    simp only [impl_faultsOf.l1]
    rw [if_neg (by omega)]
  · have e1 := wn hi (by omega)
    have r1 : rd ex (i : Int) = ex[i] := rd_get hi
    have hol : o.length ≤ 2097152 := by have := rows_le 1 ex i; rw [ho, List.length_append]; omega
    refine Ev.step (fun k => ?_) (ih (o ++ [[1, ex[i]]]) (by rw [ho, rows_take 1 ex hi, List.append_assoc]))
    simp only [impl_faultsOf.l1, e1, r1]
    rw [if_pos (by omega), if_pos (by omega), if_pos (by omega), if_pos (by omega)]
theorem impl_l2 (A : List (List Int)) (si : List Int) (hA : A.length ≤ 1048576) (hx : si.length ≤ 1048576) (h2 : ∀ x ∈ A, x.length ≤ 2) :
    Ev (fun k => impl_faultsOf.l2 k A si (si.length : Int) 0) ((A ++ vff.rows 4 si).mergeSort srt.lexLe) := by
  refine count_up si.length (fun i (o : List (List Int)) => o = A ++ vff.rows 4 (si.take i)) (fun i o => Ev (fun k => impl_faultsOf.l2 k o si (si.length : Int) (i : Int)) ((A ++ vff.rows 4 si).mergeSort srt.lexLe)) (fun o ho => ?_) (fun i o hi ho ih => ?_) 0 A (Nat.zero_le _) (vff.start rfl)
  · rw [ho, List.take_length]
    refine Ev.step (f := fun _ => some ((A ++ vff.rows 4 si).mergeSort srt.lexLe)) (fun k => ?_) (Ev.now _)
    simp only [impl_faultsOf.l2]
    rw [if_neg (by omega)]
    unfold slices_SortFunc_int_int.f
    refine if_pos ⟨?_, fun x hx' => ?_⟩
    · have := rows_le 4 si si.length
      rw [List.take_length] at this
      rw [List.length_append]
      omega
    · rcases List.mem_append.1 hx' with h | h
      · have := h2 x h; omega
      · obtain ⟨i, _, rfl⟩ := List.mem_map.1 h
        show (2 : Nat) < 4611686018427387904
        decide
  · have e1 := wn hi (by omega)
    have r1 : rd si (i : Int) = si[i] := rd_get hi
    have hol : o.length ≤ 2097152 := by have := rows_le 4 si i; rw [ho, List.length_append]; omega
    refine Ev.step (fun k => ?_) (ih (o ++ [[4, si[i]]]) (by rw [ho, rows_take 4 si hi, List.append_assoc]))
    simp only [impl_faultsOf.l2, e1, r1]
    rw [if_pos (by omega), if_pos (by omega), if_pos (by omega), if_pos (by omega)]
theorem parts_two (e : List (List Int)) (most : Int) (n : Nat) : ∀ x ∈ parts e most n, x.length ≤ 2 := by
  induction n with
  | zero => intro x hx; cases hx
  | succ n ih =>
    intro x hx
    rcases List.mem_append.1 hx with h | h
    · exact ih x h
    · unfold partAt at h
      split at h
      · rw [List.mem_singleton.1 h]; exact Nat.le_refl _
      · rcases List.mem_append.1 h with h | h
        all_goals
          split at h
          · rw [List.mem_singleton.1 h]; exact Nat.le_refl _
          · cases h
end Go.Proofs.Ytdcchnfndhkfaaa.PureFnPassesPlays
