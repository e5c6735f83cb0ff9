/- The law FnExactLeastTurn holds at every input: the row of the statement, out of the printed walk and the plain statement. Conditions: none beyond the row's own. -/
import Derived.Test.YtjniaiobnbdhhabRows
import Derived.Test.YtjniaiobnbdhhabRLeastTurn6
import Derived.Test.YtjniaiobnbdhhabPureFnExactLeastTurn
import Derived.Test.YtjniaiobnbdhhabOpen
import Derived.WalkKit
import Derived.ProofKit
import Derived.OpenShut
import Derived.ShutString
import Derived.ChangeOld
import Derived.Below
import Derived.SizedLaws
import Derived.Carry
namespace Go.Proofs.Ytjniaiobnbdhhab.fnExactLeastTurn
open Go.ChangeShapes Go.WideShapes Go.ChangeAt Go.RowKit
open Go.ChangeMaps (open_string shut_string)
open Go.Proofs.YtjniaiobnbdhhabW.PrintWords Go.Proofs.Ytjniaiobnbdhhab.Opn Go.Proofs.Ytjniaiobnbdhhab.PFnExactLeastTurn
set_option linter.unusedVariables false
theorem own : ownKnob Try.prog.godebug = none := by kernel_rfl
theorem laidOut : laidOutB Try.prog = true := by kernel_rfl
set_option maxRecDepth 100000 in
theorem lifted (os : Os) (started : os.Started) (H : Type) (enc : TypeId × Value → H) :
    ReturnsInHanded {} Try.checked os 10 .any (Rows.fnExactLeastTurnSpec.pre6 enc Try.prog Try.f10 Rows.fnExactLeastTurnRow.domain false) (Rows.fnExactLeastTurnSpec.post enc Try.prog Try.f10 false true false false) := by
  refine returnsInHanded_of_change_sized (C := Try.checked) own started (by kernel_rfl) Try.func10
    (ChangeSpec.witness6 (enc := enc) (C := Try.checked) false ⟨#[], #[.agg #[.int .i64 0, .slice none 0 0], .agg #[.int .i64 0, .slice none 0 0]], []⟩ 8 (by kernel_rfl) (by kernel_rfl) (by kernel_rfl) (by kernel_rfl)) ?_
  intro W base args ds gs before hval0 hW hcnd hsz0 _
  have hval : ∀ (j : Nat) t v, Try.f10.params[j]? = some t → args[j]? = some v → Value.okWide Try.prog W .any base t v := hval0
  have hW' := hW
  obtain ⟨p, q, hA0, hV, rfl, hfz, hnd⟩ := hW
  have hA : DataW.TrodAll enc Try.prog W 0 (fun _ => true) true Try.f10.params.toList args.toList ds p := hA0
  rw [Try.params10] at hA hval
  obtain ⟨v0, vs0, d0, ds0, p0, q0, hargs, rfl, rfl, h0, r0⟩ := trodAll_cons hA
  obtain ⟨v1, vs1, d1, ds1, p1, q1, rfl, rfl, rfl, h1, r1⟩ := trodAll_cons r0
  obtain ⟨rfl, rfl, rfl⟩ := trodAll_nil r1
  obtain rfl : args = #[v0, v1] := by cases args; simp_all
  obtain ⟨rfl, rfl⟩ := trodVars_none hV
  have k0 := h0
  have lt0 : ∀ x ∈ p0, x.block < W.heap.size := by obtain ⟨m, hm⟩ := k0; exact DataW.trod_lt m _ _ _ hm
  obtain ⟨cs0, ⟨a0_0, l0_1⟩, rfl, hK0, ⟨w0_0, w0_1⟩⟩ := param_struct Try.underlying63 (hval 0 63 v0 rfl rfl) h0 (opens_struct2 Try.underlying63 (by kernel_rfl) rfl rfl (by kernel_rfl) (by kernel_rfl) (opens_int Try.underlying3) (opens_slice Try.underlying34 (by kernel_rfl) (opens_int Try.underlying3)))
  obtain ⟨_, _, rfl, rfl, ⟨A0_1, c0_1, rfl, hc0_1, hr0_1⟩⟩ := hK0
  have k1 := h1
  have lt1 : ∀ x ∈ p1, x.block < W.heap.size := by obtain ⟨m, hm⟩ := k1; exact DataW.trod_lt m _ _ _ hm
  obtain ⟨cs1, ⟨a1_0, l1_1⟩, rfl, hK1, ⟨w1_0, w1_1⟩⟩ := param_struct Try.underlying63 (hval 1 63 v1 rfl rfl) h1 (opens_struct2 Try.underlying63 (by kernel_rfl) rfl rfl (by kernel_rfl) (by kernel_rfl) (opens_int Try.underlying3) (opens_slice Try.underlying34 (by kernel_rfl) (opens_int Try.underlying3)))
  obtain ⟨_, _, rfl, rfl, ⟨A1_1, c1_1, rfl, hc1_1, hr1_1⟩⟩ := hK1
  clear hA0 hval0 hsz0
  obtain ⟨k, h⟩ := PureFnExactLeastTurn.FnExactLeastTurn a0_0 l0_1 a1_0 l1_1 w0_0 w0_1 w1_0 w1_1
  refine (PFnExactLeastTurn.laws_FnExactLeastTurn.calls k a0_0 _ _ l0_1 a1_0 _ _ l1_1 true W hr0_1 hc0_1 hr1_1 hc1_1 h).mono ?_
  rintro e W' ⟨rfl, bel⟩
  exact ⟨_, rfl, _, _, _, [], _, [], hW', trodAll_mk1 (shut_bool Try.underlying4 _), (trodAll_cons_mk (Below.trod laidOut (by kernel_rfl) (of_decide_eq_true (by kernel_rfl)) k0 bel lt0) (trodAll_cons_mk (Below.trod laidOut (by kernel_rfl) (of_decide_eq_true (by kernel_rfl)) k1 bel lt1) trodAll_mk0)), rfl, bel.frame _, fun h => by cases h⟩
theorem over : Rows.fnExactLeastTurnRow.holds Try.pinned (OpenSpec.ofChange Rows.fnExactLeastTurnSpec) :=
  OpenClaim.holds_of_wide 10 Try.f10 rfl rfl rfl rfl rfl rfl rfl ⟨rfl, rfl, rfl, rfl, rfl⟩ rfl rfl rfl rfl rfl (by kernel_rfl) Try.func10 (by kernel_rfl)
    (of_decide_eq_true (by kernel_rfl)) (by unfold Func.isWrapper; first | (rw [if_pos (by decide +kernel)]; kernel_rfl) | (rw [if_neg (by decide +kernel)]; exact ⟨rfl, rfl⟩))
    (fun os started H enc _ => lifted os started H enc)
theorem proved : Rows.FnExactLeastTurnSaid := over
#print axioms proved
end Go.Proofs.Ytjniaiobnbdhhab.fnExactLeastTurn
namespace Go.Proofs.Ytjniaiobnbdhhab
/-- The row, under a short name, for the claim. -/
theorem fnExactLeastTurn_holds : Rows.FnExactLeastTurnSaid := fnExactLeastTurn.proved
end Go.Proofs.Ytjniaiobnbdhhab
