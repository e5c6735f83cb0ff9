/- The plain statement of FnExactAreStrikes. -/
import Derived.Test.YtidnfnnnfppefaaPFnExactAreStrikesx2
import Derived.Test.YtidnfnnnfppefaaLib
namespace Go.Proofs.Ytidnfnnnfppefaa.Pure
open Go.RowKit Go.Proofs.Ytidnfnnnfppefaa.PFnExactAreStrikes Go.Proofs.YtidnfnnnfppefaaW.PrintWords Go.Proofs.YtidnfnnnfppefaaW.PrintLast Go.Proofs.Ytidnfnnnfppefaa.Lib

def cvS (x : S72) : S70 := ⟨x.f0, x.f1⟩
theorem toStrikeS (l : List S72) (hl : l.length ≤ 1048576) : Ev (fun k => laws_toStrikeS.f k l) (l.map cvS) := by
  unfold laws_toStrikeS.f
  refine ev_pos (by omega) (ev_pos (by omega) ?_)
  exact map_loop (fun k ys i => laws_toStrikeS.l0 k l ys i) l z72 z70 (fun k x => laws_toStrike.f x.f0 x.f1) (fun bt => ⟨bt.1, bt.2⟩) (fun x => (x.f0, x.f1)) (fun k ys i => rfl) (fun x _ => ev_const rfl) (by omega)
theorem eqStrikeS (l : List S70) (hl : l.length ≤ 1048576) : Ev (fun k => laws_eqStrikeS.f k l l) true := by
  unfold laws_eqStrikeS.f
  refine ev_pos rfl ?_
  exact same_loop (fun k i => laws_eqStrikeS.l0 k l l i) l z70 (fun k x => laws_eqStrike.f x.f0 x.f1 x.f0 x.f1) (fun k i => rfl) (fun x _ => ev_const (by simp [laws_eqStrike.f])) (by omega)
def okS (l : List S70) (i : Nat) : Prop := 24 ≤ (rd_T70 l i).f0 ∧ (rd_T70 l i).f0 ≤ 96 ∧ 0 ≤ (rd_T70 l i).f1 ∧ (rd_T70 l i).f1 ≤ 2000 ∧ (i > 0 → (rd_T70 l ((i : Int) - 1)).f1 ≤ (rd_T70 l i).f1)
instance (l : List S70) (i : Nat) : Decidable (okS l i) := by unfold okS; infer_instance
def areS (l : List S70) : Bool := decide (∀ i, i < l.length → okS l i) && decide ((l.length : Int) ≤ 40)
theorem areS_iff (l : List S70) : areS l = true ↔ (∀ i, i < l.length → okS l i) ∧ decide ((l.length : Int) ≤ 40) = true := by simp [areS]
theorem isPitch_eq (a : Int) : impl_isPitch.f a = some (decide (24 ≤ a ∧ a ≤ 96)) := by
  unfold impl_isPitch.f
  split <;> simp <;> omega
theorem l1In_eq (a b c : Int) : spec_l1In.f a b c = some (decide (b ≤ a ∧ a ≤ c)) := by
  unfold spec_l1In.f
  split <;> simp <;> omega
theorem ntPitch_eq (a : Int) : spec_ntPitch.f a = some (decide (24 ≤ a ∧ a ≤ 96)) := by
  unfold spec_ntPitch.f
  rw [l1In_eq]; rfl
theorem impl_AreStrikes' (l : List S70) (hl : l.length ≤ 1048576) : Ev (fun k => impl_AreStrikes.f k l) (areS l) := by
  refine all_loop (fun k i => impl_AreStrikes.l0 k l l (l.length : Int) i) l.length (okS l) _ _ (areS_iff l) (fun k => ?_) (fun k i hi => ?_)
  · simp only [impl_AreStrikes.l0]
    rw [if_neg (by omega)]
  · have e1 : wrap64 ((i : Int) + 1) = i + 1 := by unfold wrap64; omega
    simp only [impl_AreStrikes.l0, isPitch_eq, Option.bind_some, decide_eq_true_eq, e1]
    unfold okS
    by_cases hz : (i : Int) > 0
    · have e2 : wrap64 ((i : Int) - 1) = i - 1 := by unfold wrap64; omega
      simp only [e2]
      constructor <;> intro h <;> (repeat' split) <;> first | rfl | (exfalso; omega)
    · constructor <;> intro h <;> (repeat' split) <;> first | rfl | (exfalso; omega)
theorem spec_AreStrikes' (l : List S70) (hl : l.length ≤ 1048576) : Ev (fun k => spec_AreStrikes.f k l) (areS l) := by
  refine Ev.bind (f := fun _ t => some t) (g := fun k => spec_coStrikes.f k l) ?_ (Ev.now _)
  refine all_loop (fun k i => spec_coStrikes.l0 k l l (l.length : Int) i) l.length (okS l) _ _ (areS_iff l) (fun k => ?_) (fun k i hi => ?_)
  · simp only [spec_coStrikes.l0]
    rw [if_neg (by omega)]
  · have e1 : wrap64 ((i : Int) + 1) = i + 1 := by unfold wrap64; omega
    simp only [spec_coStrikes.l0, ntPitch_eq, l1In_eq, Option.bind_some, decide_eq_true_eq, e1]
    unfold okS
    by_cases hz : (i : Int) > 0
    · have e2 : wrap64 ((i : Int) - 1) = i - 1 := by unfold wrap64; omega
      simp only [e2]
      constructor <;> intro h <;> (repeat' split) <;> first | rfl | (exfalso; omega)
    · constructor <;> intro h <;> (repeat' split) <;> first | rfl | (exfalso; omega)
theorem FnExactAreStrikes (l0 : List (S72)) (w0 : (l0.length ≤ maxLen ∧ ∀ y1 ∈ l0, ((Lit.int .i64 y1.f0).wf = true ∧ (Lit.int .i64 y1.f1).wf = true))) :
    ∃ k, laws_FnExactAreStrikes.f k l0 = some true := by
  obtain ⟨hm, _⟩ := w0
  unfold maxLen at hm
  refine Ev.rounds (g := fun k => laws_FnExactAreStrikes.f k l0) ?_
  unfold laws_FnExactAreStrikes.f laws_szStrikeS.f
  have e : wrap64 (1048576 - (l0.length : Int)) = 1048576 - l0.length := by unfold wrap64; omega
  rw [e]
  by_cases hlt : (1048576 : Int) - l0.length < 0
  · simp only [if_pos hlt]; exact Ev.now _
  · simp only [if_neg hlt, Option.bind_some]
    have hl : l0.length ≤ 1048576 := by omega
    have h1 := toStrikeS l0 hl
    refine Ev.bind h1 (Ev.bind (spec_AreStrikes' _ (by simpa using hl)) (Ev.bind h1 (Ev.bind (impl_AreStrikes' _ (by simpa using hl)) (ev_neg (by simp) (Ev.bind h1 (Ev.bind (eqStrikeS _ (by simpa using hl)) (ev_pos rfl (Ev.now _))))))))

end Go.Proofs.Ytidnfnnnfppefaa.Pure
