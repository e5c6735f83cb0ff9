/- The law FnExactTurnPattern holds at every input: the row of the statement, out of the printed walk and the plain statement. Conditions: none beyond the row's own. -/
import Derived.Test.YtjniaiobnbdhhabRows
import Derived.Test.YtjniaiobnbdhhabRTurnPattern5
import Derived.Test.YtjniaiobnbdhhabPureFnExactTurnPattern
import Derived.Test.YtjniaiobnbdhhabOpen
import Derived.WalkKit
import Derived.ProofKit
import Derived.OpenShut
import Derived.ShutString
import Derived.ChangeOld
import Derived.Below
import Derived.SizedLaws
import Derived.Carry
namespace Go.Proofs.Ytjniaiobnbdhhab.fnExactTurnPattern
open Go.ChangeShapes Go.WideShapes Go.ChangeAt Go.RowKit
open Go.ChangeMaps (open_string shut_string)
open Go.Proofs.YtjniaiobnbdhhabW.PrintWords Go.Proofs.Ytjniaiobnbdhhab.Opn Go.Proofs.Ytjniaiobnbdhhab.PFnExactTurnPattern
set_option linter.unusedVariables false
theorem own : ownKnob Try.prog.godebug = none := by kernel_rfl
theorem laidOut : laidOutB Try.prog = true := by kernel_rfl
set_option maxRecDepth 100000 in
theorem lifted (os : Os) (started : os.Started) (H : Type) (enc : TypeId × Value → H) :
    ReturnsInHanded {} Try.checked os 9 .any (Rows.fnExactTurnPatternSpec.pre6 enc Try.prog Try.f9 Rows.fnExactTurnPatternRow.domain false) (Rows.fnExactTurnPatternSpec.post enc Try.prog Try.f9 false true false false) := by
  refine returnsInHanded_of_change_sized (C := Try.checked) own started (by kernel_rfl) Try.func9
    (ChangeSpec.witness6 (enc := enc) (C := Try.checked) false ⟨#[], #[.agg #[.int .i64 0, .slice none 0 0], .int .i64 0], []⟩ 8 (by kernel_rfl) (by kernel_rfl) (by kernel_rfl) (by kernel_rfl)) ?_
  intro W base args ds gs before hval0 hW hcnd hsz0 _
  have hval : ∀ (j : Nat) t v, Try.f9.params[j]? = some t → args[j]? = some v → Value.okWide Try.prog W .any base t v := hval0
  have hW' := hW
  obtain ⟨p, q, hA0, hV, rfl, hfz, hnd⟩ := hW
  have hA : DataW.TrodAll enc Try.prog W 0 (fun _ => true) true Try.f9.params.toList args.toList ds p := hA0
  rw [Try.params9] at hA hval
  obtain ⟨v0, vs0, d0, ds0, p0, q0, hargs, rfl, rfl, h0, r0⟩ := trodAll_cons hA
  obtain ⟨v1, vs1, d1, ds1, p1, q1, rfl, rfl, rfl, h1, r1⟩ := trodAll_cons r0
  obtain ⟨rfl, rfl, rfl⟩ := trodAll_nil r1
  obtain rfl : args = #[v0, v1] := by cases args; simp_all
  obtain ⟨rfl, rfl⟩ := trodVars_none hV
  have k0 := h0
  have lt0 : ∀ x ∈ p0, x.block < W.heap.size := by obtain ⟨m, hm⟩ := k0; exact DataW.trod_lt m _ _ _ hm
  obtain ⟨cs0, ⟨a0_0, l0_1⟩, rfl, hK0, ⟨w0_0, w0_1⟩⟩ := param_struct Try.underlying63 (hval 0 63 v0 rfl rfl) h0 (opens_struct2 Try.underlying63 (by kernel_rfl) rfl rfl (by kernel_rfl) (by kernel_rfl) (opens_int Try.underlying3) (opens_slice Try.underlying34 (by kernel_rfl) (opens_int Try.underlying3)))
  obtain ⟨_, _, rfl, rfl, ⟨A0_1, c0_1, rfl, hc0_1, hr0_1⟩⟩ := hK0
  obtain ⟨a1, rfl, rfl, rfl, w1⟩ := open_int Try.underlying3 (hval 1 3 v1 rfl rfl) h1
  clear hA0 hval0 hsz0
  obtain ⟨k, h⟩ := PureFnExactTurnPattern.FnExactTurnPattern a0_0 l0_1 a1 w0_0 w0_1 w1
  refine (PFnExactTurnPattern.laws_FnExactTurnPattern.calls k a0_0 _ _ l0_1 a1 true W hr0_1 hc0_1 h).mono ?_
  rintro e W' ⟨rfl, bel⟩
  exact ⟨_, rfl, _, _, _, [], _, [], hW', trodAll_mk1 (shut_bool Try.underlying4 _), (trodAll_cons_mk (Below.trod laidOut (by kernel_rfl) (of_decide_eq_true (by kernel_rfl)) k0 bel lt0) (trodAll_cons_mk (shut_int Try.underlying3 w1) trodAll_mk0)), rfl, bel.frame _, fun h => by cases h⟩
theorem over : Rows.fnExactTurnPatternRow.holds Try.pinned (OpenSpec.ofChange Rows.fnExactTurnPatternSpec) :=
  OpenClaim.holds_of_wide 9 Try.f9 rfl rfl rfl rfl rfl rfl rfl ⟨rfl, rfl, rfl, rfl, rfl⟩ rfl rfl rfl rfl rfl (by kernel_rfl) Try.func9 (by kernel_rfl)
    (of_decide_eq_true (by kernel_rfl)) (by unfold Func.isWrapper; first | (rw [if_pos (by decide +kernel)]; kernel_rfl) | (rw [if_neg (by decide +kernel)]; exact ⟨rfl, rfl⟩))
    (fun os started H enc _ => lifted os started H enc)
theorem proved : Rows.FnExactTurnPatternSaid := over
#print axioms proved
end Go.Proofs.Ytjniaiobnbdhhab.fnExactTurnPattern
namespace Go.Proofs.Ytjniaiobnbdhhab
/-- The row, under a short name, for the claim. -/
theorem fnExactTurnPattern_holds : Rows.FnExactTurnPatternSaid := fnExactTurnPattern.proved
end Go.Proofs.Ytjniaiobnbdhhab
