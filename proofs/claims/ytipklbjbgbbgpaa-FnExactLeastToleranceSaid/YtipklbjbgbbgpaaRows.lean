/-
  No cell of these rows narrows 'for every input' (looked for: loops, veiled, ifaces, maps, wideKeys, modest, calm, conditions, laid).
  DERIVED. THE GIVEN ROWS OF THIS SEAT. 3 by the template 'for every input the law returns true; each argument reads behind the call as it read before'; 0 by the template 'total and deterministic' (their statements: YtipklbjbgbbgpaaTotals.lean).
  GIVEN WITH THE SEED: the statements are not yours to turn. If you find one false, say at which input.
  Laid BY PROGRAM, IN A SANDBOX (cutbox-rows.mjs): the forced cells as the released guide's own fill.sh prints them over the translation eef22797015367e5… (all of the seat's roots in one cut). By AI agents, Wed Nov 11 2026. No macro, syntax, notation, axiom, sorry.
-/
import Derived.Test.YtipklbjbgbbgpaaChecked
import GoSem.Claim
import GoSem.ClaimJoined
import GoSem.ClaimMapViews
import Derived.JoinedTies
import Derived.KernelRfl
namespace Go.Proofs.Ytipklbjbgbbgpaa
/- THE CELL 'sum', in the pinned program and in every row, IS THE sha256 OF THE DUMP (.gsa) THAT YtipklbjbgbbgpaaProg.lean LOADS. Nothing in Lean hashes anything: it is a label: what it is worth is what the hold of that sum in a sandbox is worth. -/
noncomputable def Try.pinned : Pinned := { name := "ytipklbjbgbbgpaa", sum := "eef22797015367e538ba6a685f17245ed60bd9ddfa3c811a0532dcc9d3feff60", checked := Try.checked }
namespace Rows
def none {H : Type} : Left H := { results := [], args := [] }

/-- 'laws.FnExactPassesVerifier': WHATEVER THE INPUT: true; the input reads as it did. -/
def fnExactPassesVerifierSpec : ChangeSpec := { name := "fnExactPassesVerifier", fn := fun _ => fun
  | [d1, d2, d3, d4, d5] => { results := [.lit (.bool true)], args := [d1, d2, d3, d4, d5] }
  | _ => none }
def fnExactPassesVerifierRow : OpenClaim := { program := "ytipklbjbgbbgpaa", sum := "eef22797015367e538ba6a685f17245ed60bd9ddfa3c811a0532dcc9d3feff60", func := "loop.example/g00949/laws.FnExactPassesVerifier", spec := "fnExactPassesVerifier", unfollowed := true, recurses := true, apart := false }
def FnExactPassesVerifierSaid : Prop := fnExactPassesVerifierRow.holds Try.pinned (OpenSpec.ofChange fnExactPassesVerifierSpec)

/-- ITS FALSE NEIGHBOUR: 'it returns false'. Refute it at one input. -/
def fnExactPassesVerifierWrong : ChangeSpec := { name := "fnExactPassesVerifier", fn := fun _ => fun
  | [d1, d2, d3, d4, d5] => { results := [.lit (.bool false)], args := [d1, d2, d3, d4, d5] }
  | _ => none }
def FnExactPassesVerifierWrongFalsely : Prop := fnExactPassesVerifierRow.holds Try.pinned (OpenSpec.ofChange fnExactPassesVerifierWrong)

/-- 'laws.FnExactLeastTolerance': WHATEVER THE INPUT: true; the input reads as it did. -/
def fnExactLeastToleranceSpec : ChangeSpec := { name := "fnExactLeastTolerance", fn := fun _ => fun
  | [d1, d2, d3, d4] => { results := [.lit (.bool true)], args := [d1, d2, d3, d4] }
  | _ => none }
def fnExactLeastToleranceRow : OpenClaim := { program := "ytipklbjbgbbgpaa", sum := "eef22797015367e538ba6a685f17245ed60bd9ddfa3c811a0532dcc9d3feff60", func := "loop.example/g00949/laws.FnExactLeastTolerance", spec := "fnExactLeastTolerance", unfollowed := true, recurses := true, apart := false }
def FnExactLeastToleranceSaid : Prop := fnExactLeastToleranceRow.holds Try.pinned (OpenSpec.ofChange fnExactLeastToleranceSpec)

/-- ITS FALSE NEIGHBOUR: 'it returns false'. Refute it at one input. -/
def fnExactLeastToleranceWrong : ChangeSpec := { name := "fnExactLeastTolerance", fn := fun _ => fun
  | [d1, d2, d3, d4] => { results := [.lit (.bool false)], args := [d1, d2, d3, d4] }
  | _ => none }
def FnExactLeastToleranceWrongFalsely : Prop := fnExactLeastToleranceRow.holds Try.pinned (OpenSpec.ofChange fnExactLeastToleranceWrong)

/-- 'laws.FnExactFaultsOf': WHATEVER THE INPUT: true; the input reads as it did. -/
def fnExactFaultsOfSpec : ChangeSpec := { name := "fnExactFaultsOf", fn := fun _ => fun
  | [d1, d2, d3, d4, d5] => { results := [.lit (.bool true)], args := [d1, d2, d3, d4, d5] }
  | _ => none }
def fnExactFaultsOfRow : OpenClaim := { program := "ytipklbjbgbbgpaa", sum := "eef22797015367e538ba6a685f17245ed60bd9ddfa3c811a0532dcc9d3feff60", func := "loop.example/g00949/laws.FnExactFaultsOf", spec := "fnExactFaultsOf", unfollowed := true, recurses := true, apart := false }
def FnExactFaultsOfSaid : Prop := fnExactFaultsOfRow.holds Try.pinned (OpenSpec.ofChange fnExactFaultsOfSpec)

/-- ITS FALSE NEIGHBOUR: 'it returns false'. Refute it at one input. -/
def fnExactFaultsOfWrong : ChangeSpec := { name := "fnExactFaultsOf", fn := fun _ => fun
  | [d1, d2, d3, d4, d5] => { results := [.lit (.bool false)], args := [d1, d2, d3, d4, d5] }
  | _ => none }
def FnExactFaultsOfWrongFalsely : Prop := fnExactFaultsOfRow.holds Try.pinned (OpenSpec.ofChange fnExactFaultsOfWrong)

/- THE SECOND FORM. 'bulk': how many values and letters a reading holds, each counted each time it is reached (what is shared counts as often as it is met; a slice's spare places count too). A statement '..UptoSaid' is the law's where the arguments, and the package variables that the reading takes, are together of bulk at most 1048576: NARROWER than '..Said'. Prove '..Said' where nothing that the law and all that it calls make is longer than what came in: it says more and counts as full. Else prove '..UptoSaid'. A law counts once. -/
mutual
def uptoBulk {H : Type} : DataW H → Nat
  | .lit (.string bytes) => bytes.length + 1
  | .lit _ => 1
  | .nil => 1
  | .ptr d => uptoBulk d + 1
  | .slice elems spare => uptoBulkAll elems + uptoBulkAll spare + 1
  | .agg parts => uptoBulkAll parts + 1
  | .iface _ d => uptoBulk d + 1
  | .map entries => uptoBulkEntries entries + 1
  | .held _ => 1
def uptoBulkAll {H : Type} : List (DataW H) → Nat
  | [] => 0
  | d :: r => uptoBulk d + uptoBulkAll r
def uptoBulkEntries {H : Type} : List (Lit × DataW H) → Nat
  | [] => 0
  | x :: r => uptoBulkEntry x + uptoBulkEntries r
def uptoBulkEntry {H : Type} : Lit × DataW H → Nat
  | (.string bytes, d) => bytes.length + uptoBulk d + 1
  | (_, d) => uptoBulk d + 1
 end
def uptoSmall : (H : Type) → List (DataW H) → Bool := fun _ ds => decide (uptoBulkAll ds ≤ 1048576)
def OpenSpec.upto (s : _root_.Go.ChangeSpec) : _root_.Go.OpenSpec := { _root_.Go.OpenSpec.ofChange s with cond := some uptoSmall }

/-- 'laws.FnExactPassesVerifier', WHERE WHAT IT READS IS OF BULK AT MOST 1048576: true; the input reads as it did. -/
def fnExactPassesVerifierUptoRow : OpenClaim := { program := "ytipklbjbgbbgpaa", sum := "eef22797015367e538ba6a685f17245ed60bd9ddfa3c811a0532dcc9d3feff60", func := "loop.example/g00949/laws.FnExactPassesVerifier", spec := "fnExactPassesVerifier", unfollowed := true, recurses := true, apart := false, narrowed := true }
def FnExactPassesVerifierUptoSaid : Prop := fnExactPassesVerifierUptoRow.holds Try.pinned (OpenSpec.upto fnExactPassesVerifierSpec)

/-- 'laws.FnExactLeastTolerance', WHERE WHAT IT READS IS OF BULK AT MOST 1048576: true; the input reads as it did. -/
def fnExactLeastToleranceUptoRow : OpenClaim := { program := "ytipklbjbgbbgpaa", sum := "eef22797015367e538ba6a685f17245ed60bd9ddfa3c811a0532dcc9d3feff60", func := "loop.example/g00949/laws.FnExactLeastTolerance", spec := "fnExactLeastTolerance", unfollowed := true, recurses := true, apart := false, narrowed := true }
def FnExactLeastToleranceUptoSaid : Prop := fnExactLeastToleranceUptoRow.holds Try.pinned (OpenSpec.upto fnExactLeastToleranceSpec)

/-- 'laws.FnExactFaultsOf', WHERE WHAT IT READS IS OF BULK AT MOST 1048576: true; the input reads as it did. -/
def fnExactFaultsOfUptoRow : OpenClaim := { program := "ytipklbjbgbbgpaa", sum := "eef22797015367e538ba6a685f17245ed60bd9ddfa3c811a0532dcc9d3feff60", func := "loop.example/g00949/laws.FnExactFaultsOf", spec := "fnExactFaultsOf", unfollowed := true, recurses := true, apart := false, narrowed := true }
def FnExactFaultsOfUptoSaid : Prop := fnExactFaultsOfUptoRow.holds Try.pinned (OpenSpec.upto fnExactFaultsOfSpec)

end Rows
end Go.Proofs.Ytipklbjbgbbgpaa
