/-
  No cell of these rows narrows 'for every input' (looked for: loops, veiled, ifaces, maps, wideKeys, modest, calm, conditions, laid).
  DERIVED. THE GIVEN ROWS OF THIS SEAT. 8 by the template 'for every input the law returns true; each argument reads behind the call as it read before'; 0 by the template 'total and deterministic' (their statements: YtjniaiobnbdhhabTotals.lean).
  GIVEN WITH THE SEED: the statements are not yours to turn. If you find one false, say at which input.
  Laid BY PROGRAM, IN A SANDBOX (cutbox-rows.mjs): the forced cells as the released guide's own fill.sh prints them over the translation 9d66aaeb24cc86ae… (all of the seat's roots in one cut). By AI agents, Wed Nov 11 2026. No macro, syntax, notation, axiom, sorry.
-/
import Derived.Test.YtjniaiobnbdhhabChecked
import GoSem.Claim
import GoSem.ClaimJoined
import GoSem.ClaimMapViews
import Derived.JoinedTies
import Derived.KernelRfl
namespace Go.Proofs.Ytjniaiobnbdhhab
/- THE CELL 'sum', in the pinned program and in every row, IS THE sha256 OF THE DUMP (.gsa) THAT YtjniaiobnbdhhabProg.lean LOADS. Nothing in Lean hashes anything: it is a label: what it is worth is what the hold of that sum in a sandbox is worth. -/
noncomputable def Try.pinned : Pinned := { name := "ytjniaiobnbdhhab", sum := "9d66aaeb24cc86aeef40679b1267c08a316f8e442a098e92f01c30538c6727ac", checked := Try.checked }
namespace Rows
def none {H : Type} : Left H := { results := [], args := [] }

/-- 'laws.FnExactCutsFor': WHATEVER THE INPUT: true; the input reads as it did. -/
def fnExactCutsForSpec : ChangeSpec := { name := "fnExactCutsFor", fn := fun _ => fun
  | [d1, d2, d3, d4] => { results := [.lit (.bool true)], args := [d1, d2, d3, d4] }
  | _ => none }
def fnExactCutsForRow : OpenClaim := { program := "ytjniaiobnbdhhab", sum := "9d66aaeb24cc86aeef40679b1267c08a316f8e442a098e92f01c30538c6727ac", func := "loop.example/g00949/laws.FnExactCutsFor", spec := "fnExactCutsFor", unfollowed := true, recurses := true, apart := false }
def FnExactCutsForSaid : Prop := fnExactCutsForRow.holds Try.pinned (OpenSpec.ofChange fnExactCutsForSpec)

/-- ITS FALSE NEIGHBOUR: 'it returns false'. Refute it at one input. -/
def fnExactCutsForWrong : ChangeSpec := { name := "fnExactCutsFor", fn := fun _ => fun
  | [d1, d2, d3, d4] => { results := [.lit (.bool false)], args := [d1, d2, d3, d4] }
  | _ => none }
def FnExactCutsForWrongFalsely : Prop := fnExactCutsForRow.holds Try.pinned (OpenSpec.ofChange fnExactCutsForWrong)

/-- 'laws.FnExactPatchesFor': WHATEVER THE INPUT: true; the input reads as it did. -/
def fnExactPatchesForSpec : ChangeSpec := { name := "fnExactPatchesFor", fn := fun _ => fun
  | [d1, d2, d3, d4] => { results := [.lit (.bool true)], args := [d1, d2, d3, d4] }
  | _ => none }
def fnExactPatchesForRow : OpenClaim := { program := "ytjniaiobnbdhhab", sum := "9d66aaeb24cc86aeef40679b1267c08a316f8e442a098e92f01c30538c6727ac", func := "loop.example/g00949/laws.FnExactPatchesFor", spec := "fnExactPatchesFor", unfollowed := true, recurses := true, apart := false }
def FnExactPatchesForSaid : Prop := fnExactPatchesForRow.holds Try.pinned (OpenSpec.ofChange fnExactPatchesForSpec)

/-- ITS FALSE NEIGHBOUR: 'it returns false'. Refute it at one input. -/
def fnExactPatchesForWrong : ChangeSpec := { name := "fnExactPatchesFor", fn := fun _ => fun
  | [d1, d2, d3, d4] => { results := [.lit (.bool false)], args := [d1, d2, d3, d4] }
  | _ => none }
def FnExactPatchesForWrongFalsely : Prop := fnExactPatchesForRow.holds Try.pinned (OpenSpec.ofChange fnExactPatchesForWrong)

/-- 'laws.FnExactPlaysAsPromised': WHATEVER THE INPUT: true; the input reads as it did. -/
def fnExactPlaysAsPromisedSpec : ChangeSpec := { name := "fnExactPlaysAsPromised", fn := fun _ => fun
  | [d1, d2, d3, d4, d5] => { results := [.lit (.bool true)], args := [d1, d2, d3, d4, d5] }
  | _ => none }
def fnExactPlaysAsPromisedRow : OpenClaim := { program := "ytjniaiobnbdhhab", sum := "9d66aaeb24cc86aeef40679b1267c08a316f8e442a098e92f01c30538c6727ac", func := "loop.example/g00949/laws.FnExactPlaysAsPromised", spec := "fnExactPlaysAsPromised", apart := false }
def FnExactPlaysAsPromisedSaid : Prop := fnExactPlaysAsPromisedRow.holds Try.pinned (OpenSpec.ofChange fnExactPlaysAsPromisedSpec)

/-- ITS FALSE NEIGHBOUR: 'it returns false'. Refute it at one input. -/
def fnExactPlaysAsPromisedWrong : ChangeSpec := { name := "fnExactPlaysAsPromised", fn := fun _ => fun
  | [d1, d2, d3, d4, d5] => { results := [.lit (.bool false)], args := [d1, d2, d3, d4, d5] }
  | _ => none }
def FnExactPlaysAsPromisedWrongFalsely : Prop := fnExactPlaysAsPromisedRow.holds Try.pinned (OpenSpec.ofChange fnExactPlaysAsPromisedWrong)

/-- 'laws.FnExactExtraHoles': WHATEVER THE INPUT: true; the input reads as it did. -/
def fnExactExtraHolesSpec : ChangeSpec := { name := "fnExactExtraHoles", fn := fun _ => fun
  | [d1, d2, d3] => { results := [.lit (.bool true)], args := [d1, d2, d3] }
  | _ => none }
def fnExactExtraHolesRow : OpenClaim := { program := "ytjniaiobnbdhhab", sum := "9d66aaeb24cc86aeef40679b1267c08a316f8e442a098e92f01c30538c6727ac", func := "loop.example/g00949/laws.FnExactExtraHoles", spec := "fnExactExtraHoles", apart := false }
def FnExactExtraHolesSaid : Prop := fnExactExtraHolesRow.holds Try.pinned (OpenSpec.ofChange fnExactExtraHolesSpec)

/-- ITS FALSE NEIGHBOUR: 'it returns false'. Refute it at one input. -/
def fnExactExtraHolesWrong : ChangeSpec := { name := "fnExactExtraHoles", fn := fun _ => fun
  | [d1, d2, d3] => { results := [.lit (.bool false)], args := [d1, d2, d3] }
  | _ => none }
def FnExactExtraHolesWrongFalsely : Prop := fnExactExtraHolesRow.holds Try.pinned (OpenSpec.ofChange fnExactExtraHolesWrong)

/-- 'laws.FnExactMatchHoles': WHATEVER THE INPUT: true; the input reads as it did. -/
def fnExactMatchHolesSpec : ChangeSpec := { name := "fnExactMatchHoles", fn := fun _ => fun
  | [d1, d2, d3] => { results := [.lit (.bool true)], args := [d1, d2, d3] }
  | _ => none }
def fnExactMatchHolesRow : OpenClaim := { program := "ytjniaiobnbdhhab", sum := "9d66aaeb24cc86aeef40679b1267c08a316f8e442a098e92f01c30538c6727ac", func := "loop.example/g00949/laws.FnExactMatchHoles", spec := "fnExactMatchHoles", apart := false }
def FnExactMatchHolesSaid : Prop := fnExactMatchHolesRow.holds Try.pinned (OpenSpec.ofChange fnExactMatchHolesSpec)

/-- ITS FALSE NEIGHBOUR: 'it returns false'. Refute it at one input. -/
def fnExactMatchHolesWrong : ChangeSpec := { name := "fnExactMatchHoles", fn := fun _ => fun
  | [d1, d2, d3] => { results := [.lit (.bool false)], args := [d1, d2, d3] }
  | _ => none }
def FnExactMatchHolesWrongFalsely : Prop := fnExactMatchHolesRow.holds Try.pinned (OpenSpec.ofChange fnExactMatchHolesWrong)

/-- 'laws.FnExactHoleErrors': WHATEVER THE INPUT: true; the input reads as it did. -/
def fnExactHoleErrorsSpec : ChangeSpec := { name := "fnExactHoleErrors", fn := fun _ => fun
  | [d1, d2, d3] => { results := [.lit (.bool true)], args := [d1, d2, d3] }
  | _ => none }
def fnExactHoleErrorsRow : OpenClaim := { program := "ytjniaiobnbdhhab", sum := "9d66aaeb24cc86aeef40679b1267c08a316f8e442a098e92f01c30538c6727ac", func := "loop.example/g00949/laws.FnExactHoleErrors", spec := "fnExactHoleErrors", apart := false }
def FnExactHoleErrorsSaid : Prop := fnExactHoleErrorsRow.holds Try.pinned (OpenSpec.ofChange fnExactHoleErrorsSpec)

/-- ITS FALSE NEIGHBOUR: 'it returns false'. Refute it at one input. -/
def fnExactHoleErrorsWrong : ChangeSpec := { name := "fnExactHoleErrors", fn := fun _ => fun
  | [d1, d2, d3] => { results := [.lit (.bool false)], args := [d1, d2, d3] }
  | _ => none }
def FnExactHoleErrorsWrongFalsely : Prop := fnExactHoleErrorsRow.holds Try.pinned (OpenSpec.ofChange fnExactHoleErrorsWrong)

/-- 'laws.FnExactTurnPattern': WHATEVER THE INPUT: true; the input reads as it did. -/
def fnExactTurnPatternSpec : ChangeSpec := { name := "fnExactTurnPattern", fn := fun _ => fun
  | [d1, d2] => { results := [.lit (.bool true)], args := [d1, d2] }
  | _ => none }
def fnExactTurnPatternRow : OpenClaim := { program := "ytjniaiobnbdhhab", sum := "9d66aaeb24cc86aeef40679b1267c08a316f8e442a098e92f01c30538c6727ac", func := "loop.example/g00949/laws.FnExactTurnPattern", spec := "fnExactTurnPattern", recurses := true, apart := false }
def FnExactTurnPatternSaid : Prop := fnExactTurnPatternRow.holds Try.pinned (OpenSpec.ofChange fnExactTurnPatternSpec)

/-- ITS FALSE NEIGHBOUR: 'it returns false'. Refute it at one input. -/
def fnExactTurnPatternWrong : ChangeSpec := { name := "fnExactTurnPattern", fn := fun _ => fun
  | [d1, d2] => { results := [.lit (.bool false)], args := [d1, d2] }
  | _ => none }
def FnExactTurnPatternWrongFalsely : Prop := fnExactTurnPatternRow.holds Try.pinned (OpenSpec.ofChange fnExactTurnPatternWrong)

/-- 'laws.FnExactLeastTurn': WHATEVER THE INPUT: true; the input reads as it did. -/
def fnExactLeastTurnSpec : ChangeSpec := { name := "fnExactLeastTurn", fn := fun _ => fun
  | [d1, d2] => { results := [.lit (.bool true)], args := [d1, d2] }
  | _ => none }
def fnExactLeastTurnRow : OpenClaim := { program := "ytjniaiobnbdhhab", sum := "9d66aaeb24cc86aeef40679b1267c08a316f8e442a098e92f01c30538c6727ac", func := "loop.example/g00949/laws.FnExactLeastTurn", spec := "fnExactLeastTurn", recurses := true, apart := false }
def FnExactLeastTurnSaid : Prop := fnExactLeastTurnRow.holds Try.pinned (OpenSpec.ofChange fnExactLeastTurnSpec)

/-- ITS FALSE NEIGHBOUR: 'it returns false'. Refute it at one input. -/
def fnExactLeastTurnWrong : ChangeSpec := { name := "fnExactLeastTurn", fn := fun _ => fun
  | [d1, d2] => { results := [.lit (.bool false)], args := [d1, d2] }
  | _ => none }
def FnExactLeastTurnWrongFalsely : Prop := fnExactLeastTurnRow.holds Try.pinned (OpenSpec.ofChange fnExactLeastTurnWrong)

/- THE SECOND FORM. 'bulk': how many values and letters a reading holds, each counted each time it is reached (what is shared counts as often as it is met; a slice's spare places count too). A statement '..UptoSaid' is the law's where the arguments, and the package variables that the reading takes, are together of bulk at most 1048576: NARROWER than '..Said'. Prove '..Said' where nothing that the law and all that it calls make is longer than what came in: it says more and counts as full. Else prove '..UptoSaid'. A law counts once. -/
mutual
def uptoBulk {H : Type} : DataW H → Nat
  | .lit (.string bytes) => bytes.length + 1
  | .lit _ => 1
  | .nil => 1
  | .ptr d => uptoBulk d + 1
  | .slice elems spare => uptoBulkAll elems + uptoBulkAll spare + 1
  | .agg parts => uptoBulkAll parts + 1
  | .iface _ d => uptoBulk d + 1
  | .map entries => uptoBulkEntries entries + 1
  | .held _ => 1
def uptoBulkAll {H : Type} : List (DataW H) → Nat
  | [] => 0
  | d :: r => uptoBulk d + uptoBulkAll r
def uptoBulkEntries {H : Type} : List (Lit × DataW H) → Nat
  | [] => 0
  | x :: r => uptoBulkEntry x + uptoBulkEntries r
def uptoBulkEntry {H : Type} : Lit × DataW H → Nat
  | (.string bytes, d) => bytes.length + uptoBulk d + 1
  | (_, d) => uptoBulk d + 1
 end
def uptoSmall : (H : Type) → List (DataW H) → Bool := fun _ ds => decide (uptoBulkAll ds ≤ 1048576)
def OpenSpec.upto (s : _root_.Go.ChangeSpec) : _root_.Go.OpenSpec := { _root_.Go.OpenSpec.ofChange s with cond := some uptoSmall }

/-- 'laws.FnExactCutsFor', WHERE WHAT IT READS IS OF BULK AT MOST 1048576: true; the input reads as it did. -/
def fnExactCutsForUptoRow : OpenClaim := { program := "ytjniaiobnbdhhab", sum := "9d66aaeb24cc86aeef40679b1267c08a316f8e442a098e92f01c30538c6727ac", func := "loop.example/g00949/laws.FnExactCutsFor", spec := "fnExactCutsFor", unfollowed := true, recurses := true, apart := false, narrowed := true }
def FnExactCutsForUptoSaid : Prop := fnExactCutsForUptoRow.holds Try.pinned (OpenSpec.upto fnExactCutsForSpec)

/-- 'laws.FnExactPatchesFor', WHERE WHAT IT READS IS OF BULK AT MOST 1048576: true; the input reads as it did. -/
def fnExactPatchesForUptoRow : OpenClaim := { program := "ytjniaiobnbdhhab", sum := "9d66aaeb24cc86aeef40679b1267c08a316f8e442a098e92f01c30538c6727ac", func := "loop.example/g00949/laws.FnExactPatchesFor", spec := "fnExactPatchesFor", unfollowed := true, recurses := true, apart := false, narrowed := true }
def FnExactPatchesForUptoSaid : Prop := fnExactPatchesForUptoRow.holds Try.pinned (OpenSpec.upto fnExactPatchesForSpec)

/-- 'laws.FnExactPlaysAsPromised', WHERE WHAT IT READS IS OF BULK AT MOST 1048576: true; the input reads as it did. -/
def fnExactPlaysAsPromisedUptoRow : OpenClaim := { program := "ytjniaiobnbdhhab", sum := "9d66aaeb24cc86aeef40679b1267c08a316f8e442a098e92f01c30538c6727ac", func := "loop.example/g00949/laws.FnExactPlaysAsPromised", spec := "fnExactPlaysAsPromised", apart := false, narrowed := true }
def FnExactPlaysAsPromisedUptoSaid : Prop := fnExactPlaysAsPromisedUptoRow.holds Try.pinned (OpenSpec.upto fnExactPlaysAsPromisedSpec)

/-- 'laws.FnExactExtraHoles', WHERE WHAT IT READS IS OF BULK AT MOST 1048576: true; the input reads as it did. -/
def fnExactExtraHolesUptoRow : OpenClaim := { program := "ytjniaiobnbdhhab", sum := "9d66aaeb24cc86aeef40679b1267c08a316f8e442a098e92f01c30538c6727ac", func := "loop.example/g00949/laws.FnExactExtraHoles", spec := "fnExactExtraHoles", apart := false, narrowed := true }
def FnExactExtraHolesUptoSaid : Prop := fnExactExtraHolesUptoRow.holds Try.pinned (OpenSpec.upto fnExactExtraHolesSpec)

/-- 'laws.FnExactMatchHoles', WHERE WHAT IT READS IS OF BULK AT MOST 1048576: true; the input reads as it did. -/
def fnExactMatchHolesUptoRow : OpenClaim := { program := "ytjniaiobnbdhhab", sum := "9d66aaeb24cc86aeef40679b1267c08a316f8e442a098e92f01c30538c6727ac", func := "loop.example/g00949/laws.FnExactMatchHoles", spec := "fnExactMatchHoles", apart := false, narrowed := true }
def FnExactMatchHolesUptoSaid : Prop := fnExactMatchHolesUptoRow.holds Try.pinned (OpenSpec.upto fnExactMatchHolesSpec)

/-- 'laws.FnExactHoleErrors', WHERE WHAT IT READS IS OF BULK AT MOST 1048576: true; the input reads as it did. -/
def fnExactHoleErrorsUptoRow : OpenClaim := { program := "ytjniaiobnbdhhab", sum := "9d66aaeb24cc86aeef40679b1267c08a316f8e442a098e92f01c30538c6727ac", func := "loop.example/g00949/laws.FnExactHoleErrors", spec := "fnExactHoleErrors", apart := false, narrowed := true }
def FnExactHoleErrorsUptoSaid : Prop := fnExactHoleErrorsUptoRow.holds Try.pinned (OpenSpec.upto fnExactHoleErrorsSpec)

/-- 'laws.FnExactTurnPattern', WHERE WHAT IT READS IS OF BULK AT MOST 1048576: true; the input reads as it did. -/
def fnExactTurnPatternUptoRow : OpenClaim := { program := "ytjniaiobnbdhhab", sum := "9d66aaeb24cc86aeef40679b1267c08a316f8e442a098e92f01c30538c6727ac", func := "loop.example/g00949/laws.FnExactTurnPattern", spec := "fnExactTurnPattern", recurses := true, apart := false, narrowed := true }
def FnExactTurnPatternUptoSaid : Prop := fnExactTurnPatternUptoRow.holds Try.pinned (OpenSpec.upto fnExactTurnPatternSpec)

/-- 'laws.FnExactLeastTurn', WHERE WHAT IT READS IS OF BULK AT MOST 1048576: true; the input reads as it did. -/
def fnExactLeastTurnUptoRow : OpenClaim := { program := "ytjniaiobnbdhhab", sum := "9d66aaeb24cc86aeef40679b1267c08a316f8e442a098e92f01c30538c6727ac", func := "loop.example/g00949/laws.FnExactLeastTurn", spec := "fnExactLeastTurn", recurses := true, apart := false, narrowed := true }
def FnExactLeastTurnUptoSaid : Prop := fnExactLeastTurnUptoRow.holds Try.pinned (OpenSpec.upto fnExactLeastTurnSpec)

end Rows
end Go.Proofs.Ytjniaiobnbdhhab
