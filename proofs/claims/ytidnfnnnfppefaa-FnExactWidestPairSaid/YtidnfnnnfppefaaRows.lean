/-
  No cell of these rows narrows 'for every input' (looked for: loops, veiled, ifaces, maps, wideKeys, modest, calm, conditions, laid).
  DERIVED. THE GIVEN ROWS OF THIS SEAT. 12 by the template 'for every input the law returns true; each argument reads behind the call as it read before'; 0 by the template 'total and deterministic' (their statements: YtidnfnnnfppefaaTotals.lean).
  GIVEN WITH THE SEED: the statements are not yours to turn. If you find one false, say at which input.
  Laid BY PROGRAM, IN A SANDBOX (cutbox-rows.mjs): the forced cells as the released guide's own fill.sh prints them over the translation d381da4934456a2b… (all of the seat's roots in one cut). By AI agents, Wed Nov 11 2026. No macro, syntax, notation, axiom, sorry.
-/
import Derived.Test.YtidnfnnnfppefaaChecked
import GoSem.Claim
import GoSem.ClaimJoined
import GoSem.ClaimMapViews
import Derived.JoinedTies
import Derived.KernelRfl
namespace Go.Proofs.Ytidnfnnnfppefaa
/- THE CELL 'sum', in the pinned program and in every row, IS THE sha256 OF THE DUMP (.gsa) THAT YtidnfnnnfppefaaProg.lean LOADS. Nothing in Lean hashes anything: it is a label: what it is worth is what the hold of that sum in a sandbox is worth. -/
noncomputable def Try.pinned : Pinned := { name := "ytidnfnnnfppefaa", sum := "d381da4934456a2b286aa138611cfd34052015eb7d4d946c732fa2eb245b2875", checked := Try.checked }
namespace Rows
def none {H : Type} : Left H := { results := [], args := [] }

/-- 'laws.FnExactAreStrikes': WHATEVER THE INPUT: true; the input reads as it did. -/
def fnExactAreStrikesSpec : ChangeSpec := { name := "fnExactAreStrikes", fn := fun _ => fun
  | [d] => { results := [.lit (.bool true)], args := [d] }
  | _ => none }
def fnExactAreStrikesRow : OpenClaim := { program := "ytidnfnnnfppefaa", sum := "d381da4934456a2b286aa138611cfd34052015eb7d4d946c732fa2eb245b2875", func := "loop.example/g00949/laws.FnExactAreStrikes", spec := "fnExactAreStrikes", apart := false }
def FnExactAreStrikesSaid : Prop := fnExactAreStrikesRow.holds Try.pinned (OpenSpec.ofChange fnExactAreStrikesSpec)

/-- ITS FALSE NEIGHBOUR: 'it returns false'. Refute it at one input. -/
def fnExactAreStrikesWrong : ChangeSpec := { name := "fnExactAreStrikes", fn := fun _ => fun
  | [d] => { results := [.lit (.bool false)], args := [d] }
  | _ => none }
def FnExactAreStrikesWrongFalsely : Prop := fnExactAreStrikesRow.holds Try.pinned (OpenSpec.ofChange fnExactAreStrikesWrong)

/-- 'laws.FnExactEvenPattern': WHATEVER THE INPUT: true; the input reads as it did. -/
def fnExactEvenPatternSpec : ChangeSpec := { name := "fnExactEvenPattern", fn := fun _ => fun
  | [d1, d2] => { results := [.lit (.bool true)], args := [d1, d2] }
  | _ => none }
def fnExactEvenPatternRow : OpenClaim := { program := "ytidnfnnnfppefaa", sum := "d381da4934456a2b286aa138611cfd34052015eb7d4d946c732fa2eb245b2875", func := "loop.example/g00949/laws.FnExactEvenPattern", spec := "fnExactEvenPattern", apart := false }
def FnExactEvenPatternSaid : Prop := fnExactEvenPatternRow.holds Try.pinned (OpenSpec.ofChange fnExactEvenPatternSpec)

/-- ITS FALSE NEIGHBOUR: 'it returns false'. Refute it at one input. -/
def fnExactEvenPatternWrong : ChangeSpec := { name := "fnExactEvenPattern", fn := fun _ => fun
  | [d1, d2] => { results := [.lit (.bool false)], args := [d1, d2] }
  | _ => none }
def FnExactEvenPatternWrongFalsely : Prop := fnExactEvenPatternRow.holds Try.pinned (OpenSpec.ofChange fnExactEvenPatternWrong)

/-- 'laws.FnExactIsPattern': WHATEVER THE INPUT: true; the input reads as it did. -/
def fnExactIsPatternSpec : ChangeSpec := { name := "fnExactIsPattern", fn := fun _ => fun
  | [d] => { results := [.lit (.bool true)], args := [d] }
  | _ => none }
def fnExactIsPatternRow : OpenClaim := { program := "ytidnfnnnfppefaa", sum := "d381da4934456a2b286aa138611cfd34052015eb7d4d946c732fa2eb245b2875", func := "loop.example/g00949/laws.FnExactIsPattern", spec := "fnExactIsPattern", apart := false }
def FnExactIsPatternSaid : Prop := fnExactIsPatternRow.holds Try.pinned (OpenSpec.ofChange fnExactIsPatternSpec)

/-- ITS FALSE NEIGHBOUR: 'it returns false'. Refute it at one input. -/
def fnExactIsPatternWrong : ChangeSpec := { name := "fnExactIsPattern", fn := fun _ => fun
  | [d] => { results := [.lit (.bool false)], args := [d] }
  | _ => none }
def FnExactIsPatternWrongFalsely : Prop := fnExactIsPatternRow.holds Try.pinned (OpenSpec.ofChange fnExactIsPatternWrong)

/-- 'laws.FnExactIsComb': WHATEVER THE INPUT: true; the input reads as it did. -/
def fnExactIsCombSpec : ChangeSpec := { name := "fnExactIsComb", fn := fun _ => fun
  | [d] => { results := [.lit (.bool true)], args := [d] }
  | _ => none }
def fnExactIsCombRow : OpenClaim := { program := "ytidnfnnnfppefaa", sum := "d381da4934456a2b286aa138611cfd34052015eb7d4d946c732fa2eb245b2875", func := "loop.example/g00949/laws.FnExactIsComb", spec := "fnExactIsComb", apart := false }
def FnExactIsCombSaid : Prop := fnExactIsCombRow.holds Try.pinned (OpenSpec.ofChange fnExactIsCombSpec)

/-- ITS FALSE NEIGHBOUR: 'it returns false'. Refute it at one input. -/
def fnExactIsCombWrong : ChangeSpec := { name := "fnExactIsComb", fn := fun _ => fun
  | [d] => { results := [.lit (.bool false)], args := [d] }
  | _ => none }
def FnExactIsCombWrongFalsely : Prop := fnExactIsCombRow.holds Try.pinned (OpenSpec.ofChange fnExactIsCombWrong)

/-- 'laws.FnExactParsePattern': WHATEVER THE INPUT: true; the input reads as it did. -/
def fnExactParsePatternSpec : ChangeSpec := { name := "fnExactParsePattern", fn := fun _ => fun
  | [d] => { results := [.lit (.bool true)], args := [d] }
  | _ => none }
def fnExactParsePatternRow : OpenClaim := { program := "ytidnfnnnfppefaa", sum := "d381da4934456a2b286aa138611cfd34052015eb7d4d946c732fa2eb245b2875", func := "loop.example/g00949/laws.FnExactParsePattern", spec := "fnExactParsePattern", apart := false }
def FnExactParsePatternSaid : Prop := fnExactParsePatternRow.holds Try.pinned (OpenSpec.ofChange fnExactParsePatternSpec)

/-- ITS FALSE NEIGHBOUR: 'it returns false'. Refute it at one input. -/
def fnExactParsePatternWrong : ChangeSpec := { name := "fnExactParsePattern", fn := fun _ => fun
  | [d] => { results := [.lit (.bool false)], args := [d] }
  | _ => none }
def FnExactParsePatternWrongFalsely : Prop := fnExactParsePatternRow.holds Try.pinned (OpenSpec.ofChange fnExactParsePatternWrong)

/-- 'laws.FnExactAreParts': WHATEVER THE INPUT: true; the input reads as it did. -/
def fnExactArePartsSpec : ChangeSpec := { name := "fnExactAreParts", fn := fun _ => fun
  | [d1, d2] => { results := [.lit (.bool true)], args := [d1, d2] }
  | _ => none }
def fnExactArePartsRow : OpenClaim := { program := "ytidnfnnnfppefaa", sum := "d381da4934456a2b286aa138611cfd34052015eb7d4d946c732fa2eb245b2875", func := "loop.example/g00949/laws.FnExactAreParts", spec := "fnExactAreParts", apart := false }
def FnExactArePartsSaid : Prop := fnExactArePartsRow.holds Try.pinned (OpenSpec.ofChange fnExactArePartsSpec)

/-- ITS FALSE NEIGHBOUR: 'it returns false'. Refute it at one input. -/
def fnExactArePartsWrong : ChangeSpec := { name := "fnExactAreParts", fn := fun _ => fun
  | [d1, d2] => { results := [.lit (.bool false)], args := [d1, d2] }
  | _ => none }
def FnExactArePartsWrongFalsely : Prop := fnExactArePartsRow.holds Try.pinned (OpenSpec.ofChange fnExactArePartsWrong)

/-- 'laws.FnExactCountBeats': WHATEVER THE INPUT: true; the input reads as it did. -/
def fnExactCountBeatsSpec : ChangeSpec := { name := "fnExactCountBeats", fn := fun _ => fun
  | [d1, d2] => { results := [.lit (.bool true)], args := [d1, d2] }
  | _ => none }
def fnExactCountBeatsRow : OpenClaim := { program := "ytidnfnnnfppefaa", sum := "d381da4934456a2b286aa138611cfd34052015eb7d4d946c732fa2eb245b2875", func := "loop.example/g00949/laws.FnExactCountBeats", spec := "fnExactCountBeats", apart := false }
def FnExactCountBeatsSaid : Prop := fnExactCountBeatsRow.holds Try.pinned (OpenSpec.ofChange fnExactCountBeatsSpec)

/-- ITS FALSE NEIGHBOUR: 'it returns false'. Refute it at one input. -/
def fnExactCountBeatsWrong : ChangeSpec := { name := "fnExactCountBeats", fn := fun _ => fun
  | [d1, d2] => { results := [.lit (.bool false)], args := [d1, d2] }
  | _ => none }
def FnExactCountBeatsWrongFalsely : Prop := fnExactCountBeatsRow.holds Try.pinned (OpenSpec.ofChange fnExactCountBeatsWrong)

/-- 'laws.FnExactLengthOfEdition': WHATEVER THE INPUT: true; the input reads as it did. -/
def fnExactLengthOfEditionSpec : ChangeSpec := { name := "fnExactLengthOfEdition", fn := fun _ => fun
  | [d] => { results := [.lit (.bool true)], args := [d] }
  | _ => none }
def fnExactLengthOfEditionRow : OpenClaim := { program := "ytidnfnnnfppefaa", sum := "d381da4934456a2b286aa138611cfd34052015eb7d4d946c732fa2eb245b2875", func := "loop.example/g00949/laws.FnExactLengthOfEdition", spec := "fnExactLengthOfEdition", apart := false }
def FnExactLengthOfEditionSaid : Prop := fnExactLengthOfEditionRow.holds Try.pinned (OpenSpec.ofChange fnExactLengthOfEditionSpec)

/-- ITS FALSE NEIGHBOUR: 'it returns false'. Refute it at one input. -/
def fnExactLengthOfEditionWrong : ChangeSpec := { name := "fnExactLengthOfEdition", fn := fun _ => fun
  | [d] => { results := [.lit (.bool false)], args := [d] }
  | _ => none }
def FnExactLengthOfEditionWrongFalsely : Prop := fnExactLengthOfEditionRow.holds Try.pinned (OpenSpec.ofChange fnExactLengthOfEditionWrong)

/-- 'laws.FnExactTuningCost': WHATEVER THE INPUT: true; the input reads as it did. -/
def fnExactTuningCostSpec : ChangeSpec := { name := "fnExactTuningCost", fn := fun _ => fun
  | [d] => { results := [.lit (.bool true)], args := [d] }
  | _ => none }
def fnExactTuningCostRow : OpenClaim := { program := "ytidnfnnnfppefaa", sum := "d381da4934456a2b286aa138611cfd34052015eb7d4d946c732fa2eb245b2875", func := "loop.example/g00949/laws.FnExactTuningCost", spec := "fnExactTuningCost", apart := false }
def FnExactTuningCostSaid : Prop := fnExactTuningCostRow.holds Try.pinned (OpenSpec.ofChange fnExactTuningCostSpec)

/-- ITS FALSE NEIGHBOUR: 'it returns false'. Refute it at one input. -/
def fnExactTuningCostWrong : ChangeSpec := { name := "fnExactTuningCost", fn := fun _ => fun
  | [d] => { results := [.lit (.bool false)], args := [d] }
  | _ => none }
def FnExactTuningCostWrongFalsely : Prop := fnExactTuningCostRow.holds Try.pinned (OpenSpec.ofChange fnExactTuningCostWrong)

/-- 'laws.FnExactBeatsAt': WHATEVER THE INPUT: true; the input reads as it did. -/
def fnExactBeatsAtSpec : ChangeSpec := { name := "fnExactBeatsAt", fn := fun _ => fun
  | [d1, d2] => { results := [.lit (.bool true)], args := [d1, d2] }
  | _ => none }
def fnExactBeatsAtRow : OpenClaim := { program := "ytidnfnnnfppefaa", sum := "d381da4934456a2b286aa138611cfd34052015eb7d4d946c732fa2eb245b2875", func := "loop.example/g00949/laws.FnExactBeatsAt", spec := "fnExactBeatsAt", apart := false }
def FnExactBeatsAtSaid : Prop := fnExactBeatsAtRow.holds Try.pinned (OpenSpec.ofChange fnExactBeatsAtSpec)

/-- ITS FALSE NEIGHBOUR: 'it returns false'. Refute it at one input. -/
def fnExactBeatsAtWrong : ChangeSpec := { name := "fnExactBeatsAt", fn := fun _ => fun
  | [d1, d2] => { results := [.lit (.bool false)], args := [d1, d2] }
  | _ => none }
def FnExactBeatsAtWrongFalsely : Prop := fnExactBeatsAtRow.holds Try.pinned (OpenSpec.ofChange fnExactBeatsAtWrong)

/-- 'laws.FnExactWidestPair': WHATEVER THE INPUT: true; the input reads as it did. -/
def fnExactWidestPairSpec : ChangeSpec := { name := "fnExactWidestPair", fn := fun _ => fun
  | [d] => { results := [.lit (.bool true)], args := [d] }
  | _ => none }
def fnExactWidestPairRow : OpenClaim := { program := "ytidnfnnnfppefaa", sum := "d381da4934456a2b286aa138611cfd34052015eb7d4d946c732fa2eb245b2875", func := "loop.example/g00949/laws.FnExactWidestPair", spec := "fnExactWidestPair", apart := false }
def FnExactWidestPairSaid : Prop := fnExactWidestPairRow.holds Try.pinned (OpenSpec.ofChange fnExactWidestPairSpec)

/-- ITS FALSE NEIGHBOUR: 'it returns false'. Refute it at one input. -/
def fnExactWidestPairWrong : ChangeSpec := { name := "fnExactWidestPair", fn := fun _ => fun
  | [d] => { results := [.lit (.bool false)], args := [d] }
  | _ => none }
def FnExactWidestPairWrongFalsely : Prop := fnExactWidestPairRow.holds Try.pinned (OpenSpec.ofChange fnExactWidestPairWrong)

/-- 'laws.FnExactSourceAt': WHATEVER THE INPUT: true; the input reads as it did. -/
def fnExactSourceAtSpec : ChangeSpec := { name := "fnExactSourceAt", fn := fun _ => fun
  | [d1, d2] => { results := [.lit (.bool true)], args := [d1, d2] }
  | _ => none }
def fnExactSourceAtRow : OpenClaim := { program := "ytidnfnnnfppefaa", sum := "d381da4934456a2b286aa138611cfd34052015eb7d4d946c732fa2eb245b2875", func := "loop.example/g00949/laws.FnExactSourceAt", spec := "fnExactSourceAt", apart := false }
def FnExactSourceAtSaid : Prop := fnExactSourceAtRow.holds Try.pinned (OpenSpec.ofChange fnExactSourceAtSpec)

/-- ITS FALSE NEIGHBOUR: 'it returns false'. Refute it at one input. -/
def fnExactSourceAtWrong : ChangeSpec := { name := "fnExactSourceAt", fn := fun _ => fun
  | [d1, d2] => { results := [.lit (.bool false)], args := [d1, d2] }
  | _ => none }
def FnExactSourceAtWrongFalsely : Prop := fnExactSourceAtRow.holds Try.pinned (OpenSpec.ofChange fnExactSourceAtWrong)

/- THE SECOND FORM. 'bulk': how many values and letters a reading holds, each counted each time it is reached (what is shared counts as often as it is met; a slice's spare places count too). A statement '..UptoSaid' is the law's where the arguments, and the package variables that the reading takes, are together of bulk at most 1048576: NARROWER than '..Said'. Prove '..Said' where nothing that the law and all that it calls make is longer than what came in: it says more and counts as full. Else prove '..UptoSaid'. A law counts once. -/
mutual
def uptoBulk {H : Type} : DataW H → Nat
  | .lit (.string bytes) => bytes.length + 1
  | .lit _ => 1
  | .nil => 1
  | .ptr d => uptoBulk d + 1
  | .slice elems spare => uptoBulkAll elems + uptoBulkAll spare + 1
  | .agg parts => uptoBulkAll parts + 1
  | .iface _ d => uptoBulk d + 1
  | .map entries => uptoBulkEntries entries + 1
  | .held _ => 1
def uptoBulkAll {H : Type} : List (DataW H) → Nat
  | [] => 0
  | d :: r => uptoBulk d + uptoBulkAll r
def uptoBulkEntries {H : Type} : List (Lit × DataW H) → Nat
  | [] => 0
  | x :: r => uptoBulkEntry x + uptoBulkEntries r
def uptoBulkEntry {H : Type} : Lit × DataW H → Nat
  | (.string bytes, d) => bytes.length + uptoBulk d + 1
  | (_, d) => uptoBulk d + 1
 end
def uptoSmall : (H : Type) → List (DataW H) → Bool := fun _ ds => decide (uptoBulkAll ds ≤ 1048576)
def OpenSpec.upto (s : _root_.Go.ChangeSpec) : _root_.Go.OpenSpec := { _root_.Go.OpenSpec.ofChange s with cond := some uptoSmall }

/-- 'laws.FnExactAreStrikes', WHERE WHAT IT READS IS OF BULK AT MOST 1048576: true; the input reads as it did. -/
def fnExactAreStrikesUptoRow : OpenClaim := { program := "ytidnfnnnfppefaa", sum := "d381da4934456a2b286aa138611cfd34052015eb7d4d946c732fa2eb245b2875", func := "loop.example/g00949/laws.FnExactAreStrikes", spec := "fnExactAreStrikes", apart := false, narrowed := true }
def FnExactAreStrikesUptoSaid : Prop := fnExactAreStrikesUptoRow.holds Try.pinned (OpenSpec.upto fnExactAreStrikesSpec)

/-- 'laws.FnExactEvenPattern', WHERE WHAT IT READS IS OF BULK AT MOST 1048576: true; the input reads as it did. -/
def fnExactEvenPatternUptoRow : OpenClaim := { program := "ytidnfnnnfppefaa", sum := "d381da4934456a2b286aa138611cfd34052015eb7d4d946c732fa2eb245b2875", func := "loop.example/g00949/laws.FnExactEvenPattern", spec := "fnExactEvenPattern", apart := false, narrowed := true }
def FnExactEvenPatternUptoSaid : Prop := fnExactEvenPatternUptoRow.holds Try.pinned (OpenSpec.upto fnExactEvenPatternSpec)

/-- 'laws.FnExactIsPattern', WHERE WHAT IT READS IS OF BULK AT MOST 1048576: true; the input reads as it did. -/
def fnExactIsPatternUptoRow : OpenClaim := { program := "ytidnfnnnfppefaa", sum := "d381da4934456a2b286aa138611cfd34052015eb7d4d946c732fa2eb245b2875", func := "loop.example/g00949/laws.FnExactIsPattern", spec := "fnExactIsPattern", apart := false, narrowed := true }
def FnExactIsPatternUptoSaid : Prop := fnExactIsPatternUptoRow.holds Try.pinned (OpenSpec.upto fnExactIsPatternSpec)

/-- 'laws.FnExactIsComb', WHERE WHAT IT READS IS OF BULK AT MOST 1048576: true; the input reads as it did. -/
def fnExactIsCombUptoRow : OpenClaim := { program := "ytidnfnnnfppefaa", sum := "d381da4934456a2b286aa138611cfd34052015eb7d4d946c732fa2eb245b2875", func := "loop.example/g00949/laws.FnExactIsComb", spec := "fnExactIsComb", apart := false, narrowed := true }
def FnExactIsCombUptoSaid : Prop := fnExactIsCombUptoRow.holds Try.pinned (OpenSpec.upto fnExactIsCombSpec)

/-- 'laws.FnExactParsePattern', WHERE WHAT IT READS IS OF BULK AT MOST 1048576: true; the input reads as it did. -/
def fnExactParsePatternUptoRow : OpenClaim := { program := "ytidnfnnnfppefaa", sum := "d381da4934456a2b286aa138611cfd34052015eb7d4d946c732fa2eb245b2875", func := "loop.example/g00949/laws.FnExactParsePattern", spec := "fnExactParsePattern", apart := false, narrowed := true }
def FnExactParsePatternUptoSaid : Prop := fnExactParsePatternUptoRow.holds Try.pinned (OpenSpec.upto fnExactParsePatternSpec)

/-- 'laws.FnExactAreParts', WHERE WHAT IT READS IS OF BULK AT MOST 1048576: true; the input reads as it did. -/
def fnExactArePartsUptoRow : OpenClaim := { program := "ytidnfnnnfppefaa", sum := "d381da4934456a2b286aa138611cfd34052015eb7d4d946c732fa2eb245b2875", func := "loop.example/g00949/laws.FnExactAreParts", spec := "fnExactAreParts", apart := false, narrowed := true }
def FnExactArePartsUptoSaid : Prop := fnExactArePartsUptoRow.holds Try.pinned (OpenSpec.upto fnExactArePartsSpec)

/-- 'laws.FnExactCountBeats', WHERE WHAT IT READS IS OF BULK AT MOST 1048576: true; the input reads as it did. -/
def fnExactCountBeatsUptoRow : OpenClaim := { program := "ytidnfnnnfppefaa", sum := "d381da4934456a2b286aa138611cfd34052015eb7d4d946c732fa2eb245b2875", func := "loop.example/g00949/laws.FnExactCountBeats", spec := "fnExactCountBeats", apart := false, narrowed := true }
def FnExactCountBeatsUptoSaid : Prop := fnExactCountBeatsUptoRow.holds Try.pinned (OpenSpec.upto fnExactCountBeatsSpec)

/-- 'laws.FnExactLengthOfEdition', WHERE WHAT IT READS IS OF BULK AT MOST 1048576: true; the input reads as it did. -/
def fnExactLengthOfEditionUptoRow : OpenClaim := { program := "ytidnfnnnfppefaa", sum := "d381da4934456a2b286aa138611cfd34052015eb7d4d946c732fa2eb245b2875", func := "loop.example/g00949/laws.FnExactLengthOfEdition", spec := "fnExactLengthOfEdition", apart := false, narrowed := true }
def FnExactLengthOfEditionUptoSaid : Prop := fnExactLengthOfEditionUptoRow.holds Try.pinned (OpenSpec.upto fnExactLengthOfEditionSpec)

/-- 'laws.FnExactTuningCost', WHERE WHAT IT READS IS OF BULK AT MOST 1048576: true; the input reads as it did. -/
def fnExactTuningCostUptoRow : OpenClaim := { program := "ytidnfnnnfppefaa", sum := "d381da4934456a2b286aa138611cfd34052015eb7d4d946c732fa2eb245b2875", func := "loop.example/g00949/laws.FnExactTuningCost", spec := "fnExactTuningCost", apart := false, narrowed := true }
def FnExactTuningCostUptoSaid : Prop := fnExactTuningCostUptoRow.holds Try.pinned (OpenSpec.upto fnExactTuningCostSpec)

/-- 'laws.FnExactBeatsAt', WHERE WHAT IT READS IS OF BULK AT MOST 1048576: true; the input reads as it did. -/
def fnExactBeatsAtUptoRow : OpenClaim := { program := "ytidnfnnnfppefaa", sum := "d381da4934456a2b286aa138611cfd34052015eb7d4d946c732fa2eb245b2875", func := "loop.example/g00949/laws.FnExactBeatsAt", spec := "fnExactBeatsAt", apart := false, narrowed := true }
def FnExactBeatsAtUptoSaid : Prop := fnExactBeatsAtUptoRow.holds Try.pinned (OpenSpec.upto fnExactBeatsAtSpec)

/-- 'laws.FnExactWidestPair', WHERE WHAT IT READS IS OF BULK AT MOST 1048576: true; the input reads as it did. -/
def fnExactWidestPairUptoRow : OpenClaim := { program := "ytidnfnnnfppefaa", sum := "d381da4934456a2b286aa138611cfd34052015eb7d4d946c732fa2eb245b2875", func := "loop.example/g00949/laws.FnExactWidestPair", spec := "fnExactWidestPair", apart := false, narrowed := true }
def FnExactWidestPairUptoSaid : Prop := fnExactWidestPairUptoRow.holds Try.pinned (OpenSpec.upto fnExactWidestPairSpec)

/-- 'laws.FnExactSourceAt', WHERE WHAT IT READS IS OF BULK AT MOST 1048576: true; the input reads as it did. -/
def fnExactSourceAtUptoRow : OpenClaim := { program := "ytidnfnnnfppefaa", sum := "d381da4934456a2b286aa138611cfd34052015eb7d4d946c732fa2eb245b2875", func := "loop.example/g00949/laws.FnExactSourceAt", spec := "fnExactSourceAt", apart := false, narrowed := true }
def FnExactSourceAtUptoSaid : Prop := fnExactSourceAtUptoRow.holds Try.pinned (OpenSpec.upto fnExactSourceAtSpec)

end Rows
end Go.Proofs.Ytidnfnnnfppefaa
