/-
  No cell of these rows narrows 'for every input' (looked for: loops, veiled, ifaces, maps, wideKeys, modest, calm, conditions, laid).
  DERIVED. THE GIVEN ROWS OF THIS SEAT. 3 by the template 'for every input the law returns true; each argument reads behind the call as it read before'; 0 by the template 'total and deterministic' (their statements: YtghdiijfpepmhaaTotals.lean).
  GIVEN WITH THE SEED: the statements are not yours to turn. If you find one false, say at which input.
  Laid BY PROGRAM, IN A SANDBOX (cutbox-rows.mjs): the forced cells as the released guide's own fill.sh prints them over the translation a94f55cce2772040… (all of the seat's roots in one cut). By AI agents, Wed Nov 11 2026. No macro, syntax, notation, axiom, sorry.
-/
import Derived.Test.YtghdiijfpepmhaaChecked
import GoSem.Claim
import GoSem.ClaimJoined
import GoSem.ClaimMapViews
import Derived.JoinedTies
import Derived.KernelRfl
namespace Go.Proofs.Ytghdiijfpepmhaa
/- THE CELL 'sum', in the pinned program and in every row, IS THE sha256 OF THE DUMP (.gsa) THAT YtghdiijfpepmhaaProg.lean LOADS. Nothing in Lean hashes anything: it is a label: what it is worth is what the hold of that sum in a sandbox is worth. -/
noncomputable def Try.pinned : Pinned := { name := "ytghdiijfpepmhaa", sum := "a94f55cce27720408d1eb926a96d48925ae20dc944f76ffa7fcda0e21814252a", checked := Try.checked }
namespace Rows
def none {H : Type} : Left H := { results := [], args := [] }

/-- 'laws.FnExactIsRepair': WHATEVER THE INPUT: true; the input reads as it did. -/
def fnExactIsRepairSpec : ChangeSpec := { name := "fnExactIsRepair", fn := fun _ => fun
  | [d1, d2, d3, d4] => { results := [.lit (.bool true)], args := [d1, d2, d3, d4] }
  | _ => none }
def fnExactIsRepairRow : OpenClaim := { program := "ytghdiijfpepmhaa", sum := "a94f55cce27720408d1eb926a96d48925ae20dc944f76ffa7fcda0e21814252a", func := "loop.example/g00949/laws.FnExactIsRepair", spec := "fnExactIsRepair", apart := false }
def FnExactIsRepairSaid : Prop := fnExactIsRepairRow.holds Try.pinned (OpenSpec.ofChange fnExactIsRepairSpec)

/-- ITS FALSE NEIGHBOUR: 'it returns false'. Refute it at one input. -/
def fnExactIsRepairWrong : ChangeSpec := { name := "fnExactIsRepair", fn := fun _ => fun
  | [d1, d2, d3, d4] => { results := [.lit (.bool false)], args := [d1, d2, d3, d4] }
  | _ => none }
def FnExactIsRepairWrongFalsely : Prop := fnExactIsRepairRow.holds Try.pinned (OpenSpec.ofChange fnExactIsRepairWrong)

/-- 'laws.FnExactApplyCuts': WHATEVER THE INPUT: true; the input reads as it did. -/
def fnExactApplyCutsSpec : ChangeSpec := { name := "fnExactApplyCuts", fn := fun _ => fun
  | [d1, d2] => { results := [.lit (.bool true)], args := [d1, d2] }
  | _ => none }
def fnExactApplyCutsRow : OpenClaim := { program := "ytghdiijfpepmhaa", sum := "a94f55cce27720408d1eb926a96d48925ae20dc944f76ffa7fcda0e21814252a", func := "loop.example/g00949/laws.FnExactApplyCuts", spec := "fnExactApplyCuts", inPlace := ["internal/reflectlite.ValueOf", "internal/reflectlite.Swapper", "(internal/reflectlite.Value).Len"], unfollowed := true, recurses := true, apart := false }
def FnExactApplyCutsSaid : Prop := fnExactApplyCutsRow.holds Try.pinned (OpenSpec.ofChange fnExactApplyCutsSpec)

/-- ITS FALSE NEIGHBOUR: 'it returns false'. Refute it at one input. -/
def fnExactApplyCutsWrong : ChangeSpec := { name := "fnExactApplyCuts", fn := fun _ => fun
  | [d1, d2] => { results := [.lit (.bool false)], args := [d1, d2] }
  | _ => none }
def FnExactApplyCutsWrongFalsely : Prop := fnExactApplyCutsRow.holds Try.pinned (OpenSpec.ofChange fnExactApplyCutsWrong)

/-- 'laws.FnExactApplyPatches': WHATEVER THE INPUT: true; the input reads as it did. -/
def fnExactApplyPatchesSpec : ChangeSpec := { name := "fnExactApplyPatches", fn := fun _ => fun
  | [d1, d2] => { results := [.lit (.bool true)], args := [d1, d2] }
  | _ => none }
def fnExactApplyPatchesRow : OpenClaim := { program := "ytghdiijfpepmhaa", sum := "a94f55cce27720408d1eb926a96d48925ae20dc944f76ffa7fcda0e21814252a", func := "loop.example/g00949/laws.FnExactApplyPatches", spec := "fnExactApplyPatches", inPlace := ["internal/reflectlite.ValueOf", "internal/reflectlite.Swapper", "(internal/reflectlite.Value).Len"], unfollowed := true, recurses := true, apart := false }
def FnExactApplyPatchesSaid : Prop := fnExactApplyPatchesRow.holds Try.pinned (OpenSpec.ofChange fnExactApplyPatchesSpec)

/-- ITS FALSE NEIGHBOUR: 'it returns false'. Refute it at one input. -/
def fnExactApplyPatchesWrong : ChangeSpec := { name := "fnExactApplyPatches", fn := fun _ => fun
  | [d1, d2] => { results := [.lit (.bool false)], args := [d1, d2] }
  | _ => none }
def FnExactApplyPatchesWrongFalsely : Prop := fnExactApplyPatchesRow.holds Try.pinned (OpenSpec.ofChange fnExactApplyPatchesWrong)

/- THE SECOND FORM. 'bulk': how many values and letters a reading holds, each counted each time it is reached (what is shared counts as often as it is met; a slice's spare places count too). A statement '..UptoSaid' is the law's where the arguments, and the package variables that the reading takes, are together of bulk at most 1048576: NARROWER than '..Said'. Prove '..Said' where nothing that the law and all that it calls make is longer than what came in: it says more and counts as full. Else prove '..UptoSaid'. A law counts once. -/
mutual
def uptoBulk {H : Type} : DataW H → Nat
  | .lit (.string bytes) => bytes.length + 1
  | .lit _ => 1
  | .nil => 1
  | .ptr d => uptoBulk d + 1
  | .slice elems spare => uptoBulkAll elems + uptoBulkAll spare + 1
  | .agg parts => uptoBulkAll parts + 1
  | .iface _ d => uptoBulk d + 1
  | .map entries => uptoBulkEntries entries + 1
  | .held _ => 1
def uptoBulkAll {H : Type} : List (DataW H) → Nat
  | [] => 0
  | d :: r => uptoBulk d + uptoBulkAll r
def uptoBulkEntries {H : Type} : List (Lit × DataW H) → Nat
  | [] => 0
  | x :: r => uptoBulkEntry x + uptoBulkEntries r
def uptoBulkEntry {H : Type} : Lit × DataW H → Nat
  | (.string bytes, d) => bytes.length + uptoBulk d + 1
  | (_, d) => uptoBulk d + 1
 end
def uptoSmall : (H : Type) → List (DataW H) → Bool := fun _ ds => decide (uptoBulkAll ds ≤ 1048576)
def OpenSpec.upto (s : _root_.Go.ChangeSpec) : _root_.Go.OpenSpec := { _root_.Go.OpenSpec.ofChange s with cond := some uptoSmall }

/-- 'laws.FnExactIsRepair', WHERE WHAT IT READS IS OF BULK AT MOST 1048576: true; the input reads as it did. -/
def fnExactIsRepairUptoRow : OpenClaim := { program := "ytghdiijfpepmhaa", sum := "a94f55cce27720408d1eb926a96d48925ae20dc944f76ffa7fcda0e21814252a", func := "loop.example/g00949/laws.FnExactIsRepair", spec := "fnExactIsRepair", apart := false, narrowed := true }
def FnExactIsRepairUptoSaid : Prop := fnExactIsRepairUptoRow.holds Try.pinned (OpenSpec.upto fnExactIsRepairSpec)

/-- 'laws.FnExactApplyCuts', WHERE WHAT IT READS IS OF BULK AT MOST 1048576: true; the input reads as it did. -/
def fnExactApplyCutsUptoRow : OpenClaim := { program := "ytghdiijfpepmhaa", sum := "a94f55cce27720408d1eb926a96d48925ae20dc944f76ffa7fcda0e21814252a", func := "loop.example/g00949/laws.FnExactApplyCuts", spec := "fnExactApplyCuts", inPlace := ["internal/reflectlite.ValueOf", "internal/reflectlite.Swapper", "(internal/reflectlite.Value).Len"], unfollowed := true, recurses := true, apart := false, narrowed := true }
def FnExactApplyCutsUptoSaid : Prop := fnExactApplyCutsUptoRow.holds Try.pinned (OpenSpec.upto fnExactApplyCutsSpec)

/-- 'laws.FnExactApplyPatches', WHERE WHAT IT READS IS OF BULK AT MOST 1048576: true; the input reads as it did. -/
def fnExactApplyPatchesUptoRow : OpenClaim := { program := "ytghdiijfpepmhaa", sum := "a94f55cce27720408d1eb926a96d48925ae20dc944f76ffa7fcda0e21814252a", func := "loop.example/g00949/laws.FnExactApplyPatches", spec := "fnExactApplyPatches", inPlace := ["internal/reflectlite.ValueOf", "internal/reflectlite.Swapper", "(internal/reflectlite.Value).Len"], unfollowed := true, recurses := true, apart := false, narrowed := true }
def FnExactApplyPatchesUptoSaid : Prop := fnExactApplyPatchesUptoRow.holds Try.pinned (OpenSpec.upto fnExactApplyPatchesSpec)

end Rows
end Go.Proofs.Ytghdiijfpepmhaa
