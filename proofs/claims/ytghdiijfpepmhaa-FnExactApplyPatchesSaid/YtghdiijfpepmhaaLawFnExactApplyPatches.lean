/- The law FnExactApplyPatches holds at every input: the row of the statement, out of the printed walk and the plain statement. Conditions: none beyond the row's own. -/
import Derived.Test.YtghdiijfpepmhaaRows
import Derived.Test.YtghdiijfpepmhaaSApplyPatchesL
import Derived.Test.YtghdiijfpepmhaaPureFnExactApplyPatches
import Derived.Test.YtghdiijfpepmhaaVApplyPatches
import Derived.ProofKit
import Derived.OpenShut
import Derived.ChangeOld
import Derived.SizedLaws
import Derived.Carry
namespace Go.Proofs.Ytghdiijfpepmhaa.fnExactApplyPatches
open Go.ChangeShapes Go.WideShapes Go.ChangeAt Go.RowKit
open Go.ChangeMaps (open_string shut_string)
open Go.Proofs.YtghdiijfpepmhaaW.PrintWords Go.Proofs.Ytghdiijfpepmhaa.Opn Go.Proofs.Ytghdiijfpepmhaa.PFnExactApplyPatches
set_option linter.unusedVariables false
theorem own : ownKnob Try.prog.godebug = none := by kernel_rfl
theorem laidOut : laidOutB Try.prog = true := by kernel_rfl
set_option maxRecDepth 100000 in
theorem lifted (os : Os) (started : os.Started) (H : Type) (enc : TypeId × Value → H) :
    ReturnsInHanded {} Try.checked os 5 .any (Rows.fnExactApplyPatchesSpec.pre6 enc Try.prog Try.f5 Rows.fnExactApplyPatchesRow.domain false) (Rows.fnExactApplyPatchesSpec.post enc Try.prog Try.f5 false true false false) := by
  refine returnsInHanded_of_change_sized (C := Try.checked) own started (by kernel_rfl) Try.func5
    (ChangeSpec.witness6 (enc := enc) (C := Try.checked) false ⟨#[], #[.slice none 0 0, .slice none 0 0], []⟩ 8 (by kernel_rfl) (by kernel_rfl) (by kernel_rfl) (by kernel_rfl)) ?_
  intro W base args ds gs before hval0 hW hcnd hsz0 _
  have hval : ∀ (j : Nat) t v, Try.f5.params[j]? = some t → args[j]? = some v → Value.okWide Try.prog W .any base t v := hval0
  have hW' := hW
  obtain ⟨p, q, hA0, hV, rfl, hfz, hnd⟩ := hW
  have hA : DataW.TrodAll enc Try.prog W 0 (fun _ => true) true Try.f5.params.toList args.toList ds p := hA0
  rw [Try.params5] at hA hval
  obtain ⟨v0, vs0, d0, ds0, p0, q0, hargs, rfl, rfl, h0, r0⟩ := trodAll_cons hA
  obtain ⟨v1, vs1, d1, ds1, p1, q1, rfl, rfl, rfl, h1, r1⟩ := trodAll_cons r0
  obtain ⟨rfl, rfl, rfl⟩ := trodAll_nil r1
  obtain rfl : args = #[v0, v1] := by cases args; simp_all
  obtain ⟨rfl, rfl⟩ := trodVars_none hV
  have k0 := h0
  have lt0 : ∀ x ∈ p0, x.block < W.heap.size := by obtain ⟨m, hm⟩ := k0; exact DataW.trod_lt m _ _ _ hm
  obtain ⟨A0, c0, l0, rfl, hc0, hr0, w0⟩ := param_slice Try.underlying22 (hval 0 22 v0 rfl rfl) h0 (opens_slice Try.underlying22 (by kernel_rfl) (opens_iso (opens_struct3 Try.underlying49 (by kernel_rfl) rfl rfl rfl (by kernel_rfl) (by kernel_rfl) (by kernel_rfl) (opens_int Try.underlying3) (opens_int Try.underlying3) (opens_int Try.underlying3)) (fun x : S49 => (x.f0, x.f1, x.f2)) (fun y => ⟨y.1, y.2.1, y.2.2⟩) (fun _ => rfl)))
  have k1 := h1
  have lt1 : ∀ x ∈ p1, x.block < W.heap.size := by obtain ⟨m, hm⟩ := k1; exact DataW.trod_lt m _ _ _ hm
  obtain ⟨A1, c1, l1, rfl, hc1, hr1, w1⟩ := param_slice Try.underlying23 (hval 1 23 v1 rfl rfl) h1 (opens_slice Try.underlying23 (by kernel_rfl) (opens_slice Try.underlying39 (by kernel_rfl) (opens_int Try.underlying3)))
  clear hA0 hval0 hsz0
  obtain ⟨k, h⟩ := PureFnExactApplyPatches.FnExactApplyPatches l0 l1 w0 w1
  refine (PFnExactApplyPatches.laws_FnExactApplyPatches.calls k _ _ l0 _ _ l1 true W hr0 hc0 hr1 hc1 h).mono ?_
  rintro e W' ⟨rfl, bel⟩
  exact ⟨_, rfl, _, _, _, [], _, [], hW', trodAll_mk1 (shut_bool Try.underlying4 _), (trodAll_cons_mk (Below.trod laidOut (by kernel_rfl) (of_decide_eq_true (by kernel_rfl)) k0 bel lt0) (trodAll_cons_mk (Below.trod laidOut (by kernel_rfl) (of_decide_eq_true (by kernel_rfl)) k1 bel lt1) trodAll_mk0)), rfl, bel.frame _, fun h => by cases h⟩
theorem over : Rows.fnExactApplyPatchesRow.holds Try.pinned (OpenSpec.ofChange Rows.fnExactApplyPatchesSpec) :=
  OpenClaim.holds_of_wide 5 Try.f5 rfl rfl rfl rfl rfl rfl rfl ⟨rfl, rfl, rfl, rfl, rfl⟩ rfl rfl rfl rfl rfl (by kernel_rfl) Try.func5 (by kernel_rfl)
    (of_decide_eq_true (by kernel_rfl)) (by unfold Func.isWrapper; first | (rw [if_pos (by decide +kernel)]; kernel_rfl) | (rw [if_neg (by decide +kernel)]; exact ⟨rfl, rfl⟩))
    (fun os started H enc _ => lifted os started H enc)
theorem proved : Rows.FnExactApplyPatchesSaid := over
#print axioms proved
end Go.Proofs.Ytghdiijfpepmhaa.fnExactApplyPatches
namespace Go.Proofs.Ytghdiijfpepmhaa
/-- The row, under a short name, for the claim. -/
theorem fnExactApplyPatches_holds : Rows.FnExactApplyPatchesSaid := fnExactApplyPatches.proved
end Go.Proofs.Ytghdiijfpepmhaa
