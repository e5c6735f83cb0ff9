/-
  No cell of these rows narrows 'for every input' (looked for: loops, veiled, ifaces, maps, wideKeys, modest, calm, conditions, laid).
  DERIVED. THE GIVEN ROWS OF THIS SEAT. 10 by the template 'for every input the law returns true; each argument reads behind the call as it read before'; 0 by the template 'total and deterministic' (their statements: YtjniaiobnbdhhaaTotals.lean).
  GIVEN WITH THE SEED: the statements are not yours to turn. If you find one false, say at which input.
  Laid BY PROGRAM, IN A SANDBOX (cutbox-rows.mjs): the forced cells as the released guide's own fill.sh prints them over the translation 55e006b24e675351… (all of the seat's roots in one cut). By AI agents, Wed Nov 11 2026. No macro, syntax, notation, axiom, sorry.
-/
import Derived.Test.YtjniaiobnbdhhaaChecked
import GoSem.Claim
import GoSem.ClaimJoined
import GoSem.ClaimMapViews
import Derived.JoinedTies
import Derived.KernelRfl
namespace Go.Proofs.Ytjniaiobnbdhhaa
/- THE CELL 'sum', in the pinned program and in every row, IS THE sha256 OF THE DUMP (.gsa) THAT YtjniaiobnbdhhaaProg.lean LOADS. Nothing in Lean hashes anything: it is a label: what it is worth is what the hold of that sum in a sandbox is worth. -/
noncomputable def Try.pinned : Pinned := { name := "ytjniaiobnbdhhaa", sum := "55e006b24e675351fbc25eea55855911945d19cb40397e70510322a55ccc4eeb", checked := Try.checked }
namespace Rows
def none {H : Type} : Left H := { results := [], args := [] }

/-- 'laws.FnExactCutEdition': WHATEVER THE INPUT: true; the input reads as it did. -/
def fnExactCutEditionSpec : ChangeSpec := { name := "fnExactCutEdition", fn := fun _ => fun
  | [d1, d2, d3] => { results := [.lit (.bool true)], args := [d1, d2, d3] }
  | _ => none }
def fnExactCutEditionRow : OpenClaim := { program := "ytjniaiobnbdhhaa", sum := "55e006b24e675351fbc25eea55855911945d19cb40397e70510322a55ccc4eeb", func := "loop.example/g00949/laws.FnExactCutEdition", spec := "fnExactCutEdition", apart := false }
def FnExactCutEditionSaid : Prop := fnExactCutEditionRow.holds Try.pinned (OpenSpec.ofChange fnExactCutEditionSpec)

/-- ITS FALSE NEIGHBOUR: 'it returns false'. Refute it at one input. -/
def fnExactCutEditionWrong : ChangeSpec := { name := "fnExactCutEdition", fn := fun _ => fun
  | [d1, d2, d3] => { results := [.lit (.bool false)], args := [d1, d2, d3] }
  | _ => none }
def FnExactCutEditionWrongFalsely : Prop := fnExactCutEditionRow.holds Try.pinned (OpenSpec.ofChange fnExactCutEditionWrong)

/-- 'laws.FnExactInsertPart': WHATEVER THE INPUT: true; the input reads as it did. -/
def fnExactInsertPartSpec : ChangeSpec := { name := "fnExactInsertPart", fn := fun _ => fun
  | [d1, d2, d3] => { results := [.lit (.bool true)], args := [d1, d2, d3] }
  | _ => none }
def fnExactInsertPartRow : OpenClaim := { program := "ytjniaiobnbdhhaa", sum := "55e006b24e675351fbc25eea55855911945d19cb40397e70510322a55ccc4eeb", func := "loop.example/g00949/laws.FnExactInsertPart", spec := "fnExactInsertPart", apart := false }
def FnExactInsertPartSaid : Prop := fnExactInsertPartRow.holds Try.pinned (OpenSpec.ofChange fnExactInsertPartSpec)

/-- ITS FALSE NEIGHBOUR: 'it returns false'. Refute it at one input. -/
def fnExactInsertPartWrong : ChangeSpec := { name := "fnExactInsertPart", fn := fun _ => fun
  | [d1, d2, d3] => { results := [.lit (.bool false)], args := [d1, d2, d3] }
  | _ => none }
def FnExactInsertPartWrongFalsely : Prop := fnExactInsertPartRow.holds Try.pinned (OpenSpec.ofChange fnExactInsertPartWrong)

/-- 'laws.FnExactMostTogether': WHATEVER THE INPUT: true; the input reads as it did. -/
def fnExactMostTogetherSpec : ChangeSpec := { name := "fnExactMostTogether", fn := fun _ => fun
  | [d] => { results := [.lit (.bool true)], args := [d] }
  | _ => none }
def fnExactMostTogetherRow : OpenClaim := { program := "ytjniaiobnbdhhaa", sum := "55e006b24e675351fbc25eea55855911945d19cb40397e70510322a55ccc4eeb", func := "loop.example/g00949/laws.FnExactMostTogether", spec := "fnExactMostTogether", apart := false }
def FnExactMostTogetherSaid : Prop := fnExactMostTogetherRow.holds Try.pinned (OpenSpec.ofChange fnExactMostTogetherSpec)

/-- ITS FALSE NEIGHBOUR: 'it returns false'. Refute it at one input. -/
def fnExactMostTogetherWrong : ChangeSpec := { name := "fnExactMostTogether", fn := fun _ => fun
  | [d] => { results := [.lit (.bool false)], args := [d] }
  | _ => none }
def FnExactMostTogetherWrongFalsely : Prop := fnExactMostTogetherRow.holds Try.pinned (OpenSpec.ofChange fnExactMostTogetherWrong)

/-- 'laws.FnExactGreatestRest': WHATEVER THE INPUT: true; the input reads as it did. -/
def fnExactGreatestRestSpec : ChangeSpec := { name := "fnExactGreatestRest", fn := fun _ => fun
  | [d1, d2] => { results := [.lit (.bool true)], args := [d1, d2] }
  | _ => none }
def fnExactGreatestRestRow : OpenClaim := { program := "ytjniaiobnbdhhaa", sum := "55e006b24e675351fbc25eea55855911945d19cb40397e70510322a55ccc4eeb", func := "loop.example/g00949/laws.FnExactGreatestRest", spec := "fnExactGreatestRest", apart := false }
def FnExactGreatestRestSaid : Prop := fnExactGreatestRestRow.holds Try.pinned (OpenSpec.ofChange fnExactGreatestRestSpec)

/-- ITS FALSE NEIGHBOUR: 'it returns false'. Refute it at one input. -/
def fnExactGreatestRestWrong : ChangeSpec := { name := "fnExactGreatestRest", fn := fun _ => fun
  | [d1, d2] => { results := [.lit (.bool false)], args := [d1, d2] }
  | _ => none }
def FnExactGreatestRestWrongFalsely : Prop := fnExactGreatestRestRow.holds Try.pinned (OpenSpec.ofChange fnExactGreatestRestWrong)

/-- 'laws.FnExactTogetherAt': WHATEVER THE INPUT: true; the input reads as it did. -/
def fnExactTogetherAtSpec : ChangeSpec := { name := "fnExactTogetherAt", fn := fun _ => fun
  | [d] => { results := [.lit (.bool true)], args := [d] }
  | _ => none }
def fnExactTogetherAtRow : OpenClaim := { program := "ytjniaiobnbdhhaa", sum := "55e006b24e675351fbc25eea55855911945d19cb40397e70510322a55ccc4eeb", func := "loop.example/g00949/laws.FnExactTogetherAt", spec := "fnExactTogetherAt", apart := false }
def FnExactTogetherAtSaid : Prop := fnExactTogetherAtRow.holds Try.pinned (OpenSpec.ofChange fnExactTogetherAtSpec)

/-- ITS FALSE NEIGHBOUR: 'it returns false'. Refute it at one input. -/
def fnExactTogetherAtWrong : ChangeSpec := { name := "fnExactTogetherAt", fn := fun _ => fun
  | [d] => { results := [.lit (.bool false)], args := [d] }
  | _ => none }
def FnExactTogetherAtWrongFalsely : Prop := fnExactTogetherAtRow.holds Try.pinned (OpenSpec.ofChange fnExactTogetherAtWrong)

/-- 'laws.FnExactMustClose': WHATEVER THE INPUT: true; the input reads as it did. -/
def fnExactMustCloseSpec : ChangeSpec := { name := "fnExactMustClose", fn := fun _ => fun
  | [d1, d2] => { results := [.lit (.bool true)], args := [d1, d2] }
  | _ => none }
def fnExactMustCloseRow : OpenClaim := { program := "ytjniaiobnbdhhaa", sum := "55e006b24e675351fbc25eea55855911945d19cb40397e70510322a55ccc4eeb", func := "loop.example/g00949/laws.FnExactMustClose", spec := "fnExactMustClose", unfollowed := true, recurses := true, apart := false }
def FnExactMustCloseSaid : Prop := fnExactMustCloseRow.holds Try.pinned (OpenSpec.ofChange fnExactMustCloseSpec)

/-- ITS FALSE NEIGHBOUR: 'it returns false'. Refute it at one input. -/
def fnExactMustCloseWrong : ChangeSpec := { name := "fnExactMustClose", fn := fun _ => fun
  | [d1, d2] => { results := [.lit (.bool false)], args := [d1, d2] }
  | _ => none }
def FnExactMustCloseWrongFalsely : Prop := fnExactMustCloseRow.holds Try.pinned (OpenSpec.ofChange fnExactMustCloseWrong)

/-- 'laws.FnExactMustOpen': WHATEVER THE INPUT: true; the input reads as it did. -/
def fnExactMustOpenSpec : ChangeSpec := { name := "fnExactMustOpen", fn := fun _ => fun
  | [d1, d2] => { results := [.lit (.bool true)], args := [d1, d2] }
  | _ => none }
def fnExactMustOpenRow : OpenClaim := { program := "ytjniaiobnbdhhaa", sum := "55e006b24e675351fbc25eea55855911945d19cb40397e70510322a55ccc4eeb", func := "loop.example/g00949/laws.FnExactMustOpen", spec := "fnExactMustOpen", unfollowed := true, recurses := true, apart := false }
def FnExactMustOpenSaid : Prop := fnExactMustOpenRow.holds Try.pinned (OpenSpec.ofChange fnExactMustOpenSpec)

/-- ITS FALSE NEIGHBOUR: 'it returns false'. Refute it at one input. -/
def fnExactMustOpenWrong : ChangeSpec := { name := "fnExactMustOpen", fn := fun _ => fun
  | [d1, d2] => { results := [.lit (.bool false)], args := [d1, d2] }
  | _ => none }
def FnExactMustOpenWrongFalsely : Prop := fnExactMustOpenRow.holds Try.pinned (OpenSpec.ofChange fnExactMustOpenWrong)

/-- 'laws.FnExactRepairCost': WHATEVER THE INPUT: true; the input reads as it did. -/
def fnExactRepairCostSpec : ChangeSpec := { name := "fnExactRepairCost", fn := fun _ => fun
  | [d1, d2, d3, d4] => { results := [.lit (.bool true)], args := [d1, d2, d3, d4] }
  | _ => none }
def fnExactRepairCostRow : OpenClaim := { program := "ytjniaiobnbdhhaa", sum := "55e006b24e675351fbc25eea55855911945d19cb40397e70510322a55ccc4eeb", func := "loop.example/g00949/laws.FnExactRepairCost", spec := "fnExactRepairCost", unfollowed := true, recurses := true, apart := false }
def FnExactRepairCostSaid : Prop := fnExactRepairCostRow.holds Try.pinned (OpenSpec.ofChange fnExactRepairCostSpec)

/-- ITS FALSE NEIGHBOUR: 'it returns false'. Refute it at one input. -/
def fnExactRepairCostWrong : ChangeSpec := { name := "fnExactRepairCost", fn := fun _ => fun
  | [d1, d2, d3, d4] => { results := [.lit (.bool false)], args := [d1, d2, d3, d4] }
  | _ => none }
def FnExactRepairCostWrongFalsely : Prop := fnExactRepairCostRow.holds Try.pinned (OpenSpec.ofChange fnExactRepairCostWrong)

/-- 'laws.FnExactGiveTeeth': WHATEVER THE INPUT: true; the input reads as it did. -/
def fnExactGiveTeethSpec : ChangeSpec := { name := "fnExactGiveTeeth", fn := fun _ => fun
  | [d1, d2, d3] => { results := [.lit (.bool true)], args := [d1, d2, d3] }
  | _ => none }
def fnExactGiveTeethRow : OpenClaim := { program := "ytjniaiobnbdhhaa", sum := "55e006b24e675351fbc25eea55855911945d19cb40397e70510322a55ccc4eeb", func := "loop.example/g00949/laws.FnExactGiveTeeth", spec := "fnExactGiveTeeth", apart := false }
def FnExactGiveTeethSaid : Prop := fnExactGiveTeethRow.holds Try.pinned (OpenSpec.ofChange fnExactGiveTeethSpec)

/-- ITS FALSE NEIGHBOUR: 'it returns false'. Refute it at one input. -/
def fnExactGiveTeethWrong : ChangeSpec := { name := "fnExactGiveTeeth", fn := fun _ => fun
  | [d1, d2, d3] => { results := [.lit (.bool false)], args := [d1, d2, d3] }
  | _ => none }
def FnExactGiveTeethWrongFalsely : Prop := fnExactGiveTeethRow.holds Try.pinned (OpenSpec.ofChange fnExactGiveTeethWrong)

/-- 'laws.FnExactIsRepair': WHATEVER THE INPUT: true; the input reads as it did. -/
def fnExactIsRepairSpec : ChangeSpec := { name := "fnExactIsRepair", fn := fun _ => fun
  | [d1, d2, d3, d4] => { results := [.lit (.bool true)], args := [d1, d2, d3, d4] }
  | _ => none }
def fnExactIsRepairRow : OpenClaim := { program := "ytjniaiobnbdhhaa", sum := "55e006b24e675351fbc25eea55855911945d19cb40397e70510322a55ccc4eeb", func := "loop.example/g00949/laws.FnExactIsRepair", spec := "fnExactIsRepair", apart := false }
def FnExactIsRepairSaid : Prop := fnExactIsRepairRow.holds Try.pinned (OpenSpec.ofChange fnExactIsRepairSpec)

/-- ITS FALSE NEIGHBOUR: 'it returns false'. Refute it at one input. -/
def fnExactIsRepairWrong : ChangeSpec := { name := "fnExactIsRepair", fn := fun _ => fun
  | [d1, d2, d3, d4] => { results := [.lit (.bool false)], args := [d1, d2, d3, d4] }
  | _ => none }
def FnExactIsRepairWrongFalsely : Prop := fnExactIsRepairRow.holds Try.pinned (OpenSpec.ofChange fnExactIsRepairWrong)

/- THE SECOND FORM. 'bulk': how many values and letters a reading holds, each counted each time it is reached (what is shared counts as often as it is met; a slice's spare places count too). A statement '..UptoSaid' is the law's where the arguments, and the package variables that the reading takes, are together of bulk at most 1048576: NARROWER than '..Said'. Prove '..Said' where nothing that the law and all that it calls make is longer than what came in: it says more and counts as full. Else prove '..UptoSaid'. A law counts once. -/
mutual
def uptoBulk {H : Type} : DataW H → Nat
  | .lit (.string bytes) => bytes.length + 1
  | .lit _ => 1
  | .nil => 1
  | .ptr d => uptoBulk d + 1
  | .slice elems spare => uptoBulkAll elems + uptoBulkAll spare + 1
  | .agg parts => uptoBulkAll parts + 1
  | .iface _ d => uptoBulk d + 1
  | .map entries => uptoBulkEntries entries + 1
  | .held _ => 1
def uptoBulkAll {H : Type} : List (DataW H) → Nat
  | [] => 0
  | d :: r => uptoBulk d + uptoBulkAll r
def uptoBulkEntries {H : Type} : List (Lit × DataW H) → Nat
  | [] => 0
  | x :: r => uptoBulkEntry x + uptoBulkEntries r
def uptoBulkEntry {H : Type} : Lit × DataW H → Nat
  | (.string bytes, d) => bytes.length + uptoBulk d + 1
  | (_, d) => uptoBulk d + 1
 end
def uptoSmall : (H : Type) → List (DataW H) → Bool := fun _ ds => decide (uptoBulkAll ds ≤ 1048576)
def OpenSpec.upto (s : _root_.Go.ChangeSpec) : _root_.Go.OpenSpec := { _root_.Go.OpenSpec.ofChange s with cond := some uptoSmall }

/-- 'laws.FnExactCutEdition', WHERE WHAT IT READS IS OF BULK AT MOST 1048576: true; the input reads as it did. -/
def fnExactCutEditionUptoRow : OpenClaim := { program := "ytjniaiobnbdhhaa", sum := "55e006b24e675351fbc25eea55855911945d19cb40397e70510322a55ccc4eeb", func := "loop.example/g00949/laws.FnExactCutEdition", spec := "fnExactCutEdition", apart := false, narrowed := true }
def FnExactCutEditionUptoSaid : Prop := fnExactCutEditionUptoRow.holds Try.pinned (OpenSpec.upto fnExactCutEditionSpec)

/-- 'laws.FnExactInsertPart', WHERE WHAT IT READS IS OF BULK AT MOST 1048576: true; the input reads as it did. -/
def fnExactInsertPartUptoRow : OpenClaim := { program := "ytjniaiobnbdhhaa", sum := "55e006b24e675351fbc25eea55855911945d19cb40397e70510322a55ccc4eeb", func := "loop.example/g00949/laws.FnExactInsertPart", spec := "fnExactInsertPart", apart := false, narrowed := true }
def FnExactInsertPartUptoSaid : Prop := fnExactInsertPartUptoRow.holds Try.pinned (OpenSpec.upto fnExactInsertPartSpec)

/-- 'laws.FnExactMostTogether', WHERE WHAT IT READS IS OF BULK AT MOST 1048576: true; the input reads as it did. -/
def fnExactMostTogetherUptoRow : OpenClaim := { program := "ytjniaiobnbdhhaa", sum := "55e006b24e675351fbc25eea55855911945d19cb40397e70510322a55ccc4eeb", func := "loop.example/g00949/laws.FnExactMostTogether", spec := "fnExactMostTogether", apart := false, narrowed := true }
def FnExactMostTogetherUptoSaid : Prop := fnExactMostTogetherUptoRow.holds Try.pinned (OpenSpec.upto fnExactMostTogetherSpec)

/-- 'laws.FnExactGreatestRest', WHERE WHAT IT READS IS OF BULK AT MOST 1048576: true; the input reads as it did. -/
def fnExactGreatestRestUptoRow : OpenClaim := { program := "ytjniaiobnbdhhaa", sum := "55e006b24e675351fbc25eea55855911945d19cb40397e70510322a55ccc4eeb", func := "loop.example/g00949/laws.FnExactGreatestRest", spec := "fnExactGreatestRest", apart := false, narrowed := true }
def FnExactGreatestRestUptoSaid : Prop := fnExactGreatestRestUptoRow.holds Try.pinned (OpenSpec.upto fnExactGreatestRestSpec)

/-- 'laws.FnExactTogetherAt', WHERE WHAT IT READS IS OF BULK AT MOST 1048576: true; the input reads as it did. -/
def fnExactTogetherAtUptoRow : OpenClaim := { program := "ytjniaiobnbdhhaa", sum := "55e006b24e675351fbc25eea55855911945d19cb40397e70510322a55ccc4eeb", func := "loop.example/g00949/laws.FnExactTogetherAt", spec := "fnExactTogetherAt", apart := false, narrowed := true }
def FnExactTogetherAtUptoSaid : Prop := fnExactTogetherAtUptoRow.holds Try.pinned (OpenSpec.upto fnExactTogetherAtSpec)

/-- 'laws.FnExactMustClose', WHERE WHAT IT READS IS OF BULK AT MOST 1048576: true; the input reads as it did. -/
def fnExactMustCloseUptoRow : OpenClaim := { program := "ytjniaiobnbdhhaa", sum := "55e006b24e675351fbc25eea55855911945d19cb40397e70510322a55ccc4eeb", func := "loop.example/g00949/laws.FnExactMustClose", spec := "fnExactMustClose", unfollowed := true, recurses := true, apart := false, narrowed := true }
def FnExactMustCloseUptoSaid : Prop := fnExactMustCloseUptoRow.holds Try.pinned (OpenSpec.upto fnExactMustCloseSpec)

/-- 'laws.FnExactMustOpen', WHERE WHAT IT READS IS OF BULK AT MOST 1048576: true; the input reads as it did. -/
def fnExactMustOpenUptoRow : OpenClaim := { program := "ytjniaiobnbdhhaa", sum := "55e006b24e675351fbc25eea55855911945d19cb40397e70510322a55ccc4eeb", func := "loop.example/g00949/laws.FnExactMustOpen", spec := "fnExactMustOpen", unfollowed := true, recurses := true, apart := false, narrowed := true }
def FnExactMustOpenUptoSaid : Prop := fnExactMustOpenUptoRow.holds Try.pinned (OpenSpec.upto fnExactMustOpenSpec)

/-- 'laws.FnExactRepairCost', WHERE WHAT IT READS IS OF BULK AT MOST 1048576: true; the input reads as it did. -/
def fnExactRepairCostUptoRow : OpenClaim := { program := "ytjniaiobnbdhhaa", sum := "55e006b24e675351fbc25eea55855911945d19cb40397e70510322a55ccc4eeb", func := "loop.example/g00949/laws.FnExactRepairCost", spec := "fnExactRepairCost", unfollowed := true, recurses := true, apart := false, narrowed := true }
def FnExactRepairCostUptoSaid : Prop := fnExactRepairCostUptoRow.holds Try.pinned (OpenSpec.upto fnExactRepairCostSpec)

/-- 'laws.FnExactGiveTeeth', WHERE WHAT IT READS IS OF BULK AT MOST 1048576: true; the input reads as it did. -/
def fnExactGiveTeethUptoRow : OpenClaim := { program := "ytjniaiobnbdhhaa", sum := "55e006b24e675351fbc25eea55855911945d19cb40397e70510322a55ccc4eeb", func := "loop.example/g00949/laws.FnExactGiveTeeth", spec := "fnExactGiveTeeth", apart := false, narrowed := true }
def FnExactGiveTeethUptoSaid : Prop := fnExactGiveTeethUptoRow.holds Try.pinned (OpenSpec.upto fnExactGiveTeethSpec)

/-- 'laws.FnExactIsRepair', WHERE WHAT IT READS IS OF BULK AT MOST 1048576: true; the input reads as it did. -/
def fnExactIsRepairUptoRow : OpenClaim := { program := "ytjniaiobnbdhhaa", sum := "55e006b24e675351fbc25eea55855911945d19cb40397e70510322a55ccc4eeb", func := "loop.example/g00949/laws.FnExactIsRepair", spec := "fnExactIsRepair", apart := false, narrowed := true }
def FnExactIsRepairUptoSaid : Prop := fnExactIsRepairUptoRow.holds Try.pinned (OpenSpec.upto fnExactIsRepairSpec)

end Rows
end Go.Proofs.Ytjniaiobnbdhhaa
