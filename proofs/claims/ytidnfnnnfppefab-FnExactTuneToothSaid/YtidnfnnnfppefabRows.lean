/-
  No cell of these rows narrows 'for every input' (looked for: loops, veiled, ifaces, maps, wideKeys, modest, calm, conditions, laid).
  DERIVED. THE GIVEN ROWS OF THIS SEAT. 8 by the template 'for every input the law returns true; each argument reads behind the call as it read before'; 0 by the template 'total and deterministic' (their statements: YtidnfnnnfppefabTotals.lean).
  GIVEN WITH THE SEED: the statements are not yours to turn. If you find one false, say at which input.
  Laid BY PROGRAM, IN A SANDBOX (cutbox-rows.mjs): the forced cells as the released guide's own fill.sh prints them over the translation 655394d027d4864b… (all of the seat's roots in one cut). By AI agents, Wed Nov 11 2026. No macro, syntax, notation, axiom, sorry.
-/
import Derived.Test.YtidnfnnnfppefabChecked
import GoSem.Claim
import GoSem.ClaimJoined
import GoSem.ClaimMapViews
import Derived.JoinedTies
import Derived.KernelRfl
namespace Go.Proofs.Ytidnfnnnfppefab
/- THE CELL 'sum', in the pinned program and in every row, IS THE sha256 OF THE DUMP (.gsa) THAT YtidnfnnnfppefabProg.lean LOADS. Nothing in Lean hashes anything: it is a label: what it is worth is what the hold of that sum in a sandbox is worth. -/
noncomputable def Try.pinned : Pinned := { name := "ytidnfnnnfppefab", sum := "655394d027d4864b00beb9c77a97ef2fed7cd879e8699039a8b97c2736d1849a", checked := Try.checked }
namespace Rows
def none {H : Type} : Left H := { results := [], args := [] }

/-- 'laws.FnExactPatternText': WHATEVER THE INPUT: true; the input reads as it did. -/
def fnExactPatternTextSpec : ChangeSpec := { name := "fnExactPatternText", fn := fun _ => fun
  | [d] => { results := [.lit (.bool true)], args := [d] }
  | _ => none }
def fnExactPatternTextRow : OpenClaim := { program := "ytidnfnnnfppefab", sum := "655394d027d4864b00beb9c77a97ef2fed7cd879e8699039a8b97c2736d1849a", func := "loop.example/g00949/laws.FnExactPatternText", spec := "fnExactPatternText", apart := false }
def FnExactPatternTextSaid : Prop := fnExactPatternTextRow.holds Try.pinned (OpenSpec.ofChange fnExactPatternTextSpec)

/-- ITS FALSE NEIGHBOUR: 'it returns false'. Refute it at one input. -/
def fnExactPatternTextWrong : ChangeSpec := { name := "fnExactPatternText", fn := fun _ => fun
  | [d] => { results := [.lit (.bool false)], args := [d] }
  | _ => none }
def FnExactPatternTextWrongFalsely : Prop := fnExactPatternTextRow.holds Try.pinned (OpenSpec.ofChange fnExactPatternTextWrong)

/-- 'laws.FnExactTuneTooth': WHATEVER THE INPUT: true; the input reads as it did. -/
def fnExactTuneToothSpec : ChangeSpec := { name := "fnExactTuneTooth", fn := fun _ => fun
  | [d1, d2, d3] => { results := [.lit (.bool true)], args := [d1, d2, d3] }
  | _ => none }
def fnExactTuneToothRow : OpenClaim := { program := "ytidnfnnnfppefab", sum := "655394d027d4864b00beb9c77a97ef2fed7cd879e8699039a8b97c2736d1849a", func := "loop.example/g00949/laws.FnExactTuneTooth", spec := "fnExactTuneTooth", apart := false }
def FnExactTuneToothSaid : Prop := fnExactTuneToothRow.holds Try.pinned (OpenSpec.ofChange fnExactTuneToothSpec)

/-- ITS FALSE NEIGHBOUR: 'it returns false'. Refute it at one input. -/
def fnExactTuneToothWrong : ChangeSpec := { name := "fnExactTuneTooth", fn := fun _ => fun
  | [d1, d2, d3] => { results := [.lit (.bool false)], args := [d1, d2, d3] }
  | _ => none }
def FnExactTuneToothWrongFalsely : Prop := fnExactTuneToothRow.holds Try.pinned (OpenSpec.ofChange fnExactTuneToothWrong)

/-- 'laws.FnExactStepsFrom': WHATEVER THE INPUT: true; the input reads as it did. -/
def fnExactStepsFromSpec : ChangeSpec := { name := "fnExactStepsFrom", fn := fun _ => fun
  | [d1, d2] => { results := [.lit (.bool true)], args := [d1, d2] }
  | _ => none }
def fnExactStepsFromRow : OpenClaim := { program := "ytidnfnnnfppefab", sum := "655394d027d4864b00beb9c77a97ef2fed7cd879e8699039a8b97c2736d1849a", func := "loop.example/g00949/laws.FnExactStepsFrom", spec := "fnExactStepsFrom", unfollowed := true, recurses := true, apart := false }
def FnExactStepsFromSaid : Prop := fnExactStepsFromRow.holds Try.pinned (OpenSpec.ofChange fnExactStepsFromSpec)

/-- ITS FALSE NEIGHBOUR: 'it returns false'. Refute it at one input. -/
def fnExactStepsFromWrong : ChangeSpec := { name := "fnExactStepsFrom", fn := fun _ => fun
  | [d1, d2] => { results := [.lit (.bool false)], args := [d1, d2] }
  | _ => none }
def FnExactStepsFromWrongFalsely : Prop := fnExactStepsFromRow.holds Try.pinned (OpenSpec.ofChange fnExactStepsFromWrong)

/-- 'laws.FnExactTeethNeeded': WHATEVER THE INPUT: true; the input reads as it did. -/
def fnExactTeethNeededSpec : ChangeSpec := { name := "fnExactTeethNeeded", fn := fun _ => fun
  | [d1, d2] => { results := [.lit (.bool true)], args := [d1, d2] }
  | _ => none }
def fnExactTeethNeededRow : OpenClaim := { program := "ytidnfnnnfppefab", sum := "655394d027d4864b00beb9c77a97ef2fed7cd879e8699039a8b97c2736d1849a", func := "loop.example/g00949/laws.FnExactTeethNeeded", spec := "fnExactTeethNeeded", apart := false }
def FnExactTeethNeededSaid : Prop := fnExactTeethNeededRow.holds Try.pinned (OpenSpec.ofChange fnExactTeethNeededSpec)

/-- ITS FALSE NEIGHBOUR: 'it returns false'. Refute it at one input. -/
def fnExactTeethNeededWrong : ChangeSpec := { name := "fnExactTeethNeeded", fn := fun _ => fun
  | [d1, d2] => { results := [.lit (.bool false)], args := [d1, d2] }
  | _ => none }
def FnExactTeethNeededWrongFalsely : Prop := fnExactTeethNeededRow.holds Try.pinned (OpenSpec.ofChange fnExactTeethNeededWrong)

/-- 'laws.FnExactTeethOf': WHATEVER THE INPUT: true; the input reads as it did. -/
def fnExactTeethOfSpec : ChangeSpec := { name := "fnExactTeethOf", fn := fun _ => fun
  | [d1, d2] => { results := [.lit (.bool true)], args := [d1, d2] }
  | _ => none }
def fnExactTeethOfRow : OpenClaim := { program := "ytidnfnnnfppefab", sum := "655394d027d4864b00beb9c77a97ef2fed7cd879e8699039a8b97c2736d1849a", func := "loop.example/g00949/laws.FnExactTeethOf", spec := "fnExactTeethOf", apart := false }
def FnExactTeethOfSaid : Prop := fnExactTeethOfRow.holds Try.pinned (OpenSpec.ofChange fnExactTeethOfSpec)

/-- ITS FALSE NEIGHBOUR: 'it returns false'. Refute it at one input. -/
def fnExactTeethOfWrong : ChangeSpec := { name := "fnExactTeethOf", fn := fun _ => fun
  | [d1, d2] => { results := [.lit (.bool false)], args := [d1, d2] }
  | _ => none }
def FnExactTeethOfWrongFalsely : Prop := fnExactTeethOfRow.holds Try.pinned (OpenSpec.ofChange fnExactTeethOfWrong)

/-- 'laws.FnExactShortParts': WHATEVER THE INPUT: true; the input reads as it did. -/
def fnExactShortPartsSpec : ChangeSpec := { name := "fnExactShortParts", fn := fun _ => fun
  | [d] => { results := [.lit (.bool true)], args := [d] }
  | _ => none }
def fnExactShortPartsRow : OpenClaim := { program := "ytidnfnnnfppefab", sum := "655394d027d4864b00beb9c77a97ef2fed7cd879e8699039a8b97c2736d1849a", func := "loop.example/g00949/laws.FnExactShortParts", spec := "fnExactShortParts", apart := false }
def FnExactShortPartsSaid : Prop := fnExactShortPartsRow.holds Try.pinned (OpenSpec.ofChange fnExactShortPartsSpec)

/-- ITS FALSE NEIGHBOUR: 'it returns false'. Refute it at one input. -/
def fnExactShortPartsWrong : ChangeSpec := { name := "fnExactShortParts", fn := fun _ => fun
  | [d] => { results := [.lit (.bool false)], args := [d] }
  | _ => none }
def FnExactShortPartsWrongFalsely : Prop := fnExactShortPartsRow.holds Try.pinned (OpenSpec.ofChange fnExactShortPartsWrong)

/-- 'laws.FnExactOtherBeats': WHATEVER THE INPUT: true; the input reads as it did. -/
def fnExactOtherBeatsSpec : ChangeSpec := { name := "fnExactOtherBeats", fn := fun _ => fun
  | [d] => { results := [.lit (.bool true)], args := [d] }
  | _ => none }
def fnExactOtherBeatsRow : OpenClaim := { program := "ytidnfnnnfppefab", sum := "655394d027d4864b00beb9c77a97ef2fed7cd879e8699039a8b97c2736d1849a", func := "loop.example/g00949/laws.FnExactOtherBeats", spec := "fnExactOtherBeats", apart := false }
def FnExactOtherBeatsSaid : Prop := fnExactOtherBeatsRow.holds Try.pinned (OpenSpec.ofChange fnExactOtherBeatsSpec)

/-- ITS FALSE NEIGHBOUR: 'it returns false'. Refute it at one input. -/
def fnExactOtherBeatsWrong : ChangeSpec := { name := "fnExactOtherBeats", fn := fun _ => fun
  | [d] => { results := [.lit (.bool false)], args := [d] }
  | _ => none }
def FnExactOtherBeatsWrongFalsely : Prop := fnExactOtherBeatsRow.holds Try.pinned (OpenSpec.ofChange fnExactOtherBeatsWrong)

/-- 'laws.FnExactCommonSteps': WHATEVER THE INPUT: true; the input reads as it did. -/
def fnExactCommonStepsSpec : ChangeSpec := { name := "fnExactCommonSteps", fn := fun _ => fun
  | [d] => { results := [.lit (.bool true)], args := [d] }
  | _ => none }
def fnExactCommonStepsRow : OpenClaim := { program := "ytidnfnnnfppefab", sum := "655394d027d4864b00beb9c77a97ef2fed7cd879e8699039a8b97c2736d1849a", func := "loop.example/g00949/laws.FnExactCommonSteps", spec := "fnExactCommonSteps", apart := false }
def FnExactCommonStepsSaid : Prop := fnExactCommonStepsRow.holds Try.pinned (OpenSpec.ofChange fnExactCommonStepsSpec)

/-- ITS FALSE NEIGHBOUR: 'it returns false'. Refute it at one input. -/
def fnExactCommonStepsWrong : ChangeSpec := { name := "fnExactCommonSteps", fn := fun _ => fun
  | [d] => { results := [.lit (.bool false)], args := [d] }
  | _ => none }
def FnExactCommonStepsWrongFalsely : Prop := fnExactCommonStepsRow.holds Try.pinned (OpenSpec.ofChange fnExactCommonStepsWrong)

/- THE SECOND FORM. 'bulk': how many values and letters a reading holds, each counted each time it is reached (what is shared counts as often as it is met; a slice's spare places count too). A statement '..UptoSaid' is the law's where the arguments, and the package variables that the reading takes, are together of bulk at most 1048576: NARROWER than '..Said'. Prove '..Said' where nothing that the law and all that it calls make is longer than what came in: it says more and counts as full. Else prove '..UptoSaid'. A law counts once. -/
mutual
def uptoBulk {H : Type} : DataW H → Nat
  | .lit (.string bytes) => bytes.length + 1
  | .lit _ => 1
  | .nil => 1
  | .ptr d => uptoBulk d + 1
  | .slice elems spare => uptoBulkAll elems + uptoBulkAll spare + 1
  | .agg parts => uptoBulkAll parts + 1
  | .iface _ d => uptoBulk d + 1
  | .map entries => uptoBulkEntries entries + 1
  | .held _ => 1
def uptoBulkAll {H : Type} : List (DataW H) → Nat
  | [] => 0
  | d :: r => uptoBulk d + uptoBulkAll r
def uptoBulkEntries {H : Type} : List (Lit × DataW H) → Nat
  | [] => 0
  | x :: r => uptoBulkEntry x + uptoBulkEntries r
def uptoBulkEntry {H : Type} : Lit × DataW H → Nat
  | (.string bytes, d) => bytes.length + uptoBulk d + 1
  | (_, d) => uptoBulk d + 1
 end
def uptoSmall : (H : Type) → List (DataW H) → Bool := fun _ ds => decide (uptoBulkAll ds ≤ 1048576)
def OpenSpec.upto (s : _root_.Go.ChangeSpec) : _root_.Go.OpenSpec := { _root_.Go.OpenSpec.ofChange s with cond := some uptoSmall }

/-- 'laws.FnExactPatternText', WHERE WHAT IT READS IS OF BULK AT MOST 1048576: true; the input reads as it did. -/
def fnExactPatternTextUptoRow : OpenClaim := { program := "ytidnfnnnfppefab", sum := "655394d027d4864b00beb9c77a97ef2fed7cd879e8699039a8b97c2736d1849a", func := "loop.example/g00949/laws.FnExactPatternText", spec := "fnExactPatternText", apart := false, narrowed := true }
def FnExactPatternTextUptoSaid : Prop := fnExactPatternTextUptoRow.holds Try.pinned (OpenSpec.upto fnExactPatternTextSpec)

/-- 'laws.FnExactTuneTooth', WHERE WHAT IT READS IS OF BULK AT MOST 1048576: true; the input reads as it did. -/
def fnExactTuneToothUptoRow : OpenClaim := { program := "ytidnfnnnfppefab", sum := "655394d027d4864b00beb9c77a97ef2fed7cd879e8699039a8b97c2736d1849a", func := "loop.example/g00949/laws.FnExactTuneTooth", spec := "fnExactTuneTooth", apart := false, narrowed := true }
def FnExactTuneToothUptoSaid : Prop := fnExactTuneToothUptoRow.holds Try.pinned (OpenSpec.upto fnExactTuneToothSpec)

/-- 'laws.FnExactStepsFrom', WHERE WHAT IT READS IS OF BULK AT MOST 1048576: true; the input reads as it did. -/
def fnExactStepsFromUptoRow : OpenClaim := { program := "ytidnfnnnfppefab", sum := "655394d027d4864b00beb9c77a97ef2fed7cd879e8699039a8b97c2736d1849a", func := "loop.example/g00949/laws.FnExactStepsFrom", spec := "fnExactStepsFrom", unfollowed := true, recurses := true, apart := false, narrowed := true }
def FnExactStepsFromUptoSaid : Prop := fnExactStepsFromUptoRow.holds Try.pinned (OpenSpec.upto fnExactStepsFromSpec)

/-- 'laws.FnExactTeethNeeded', WHERE WHAT IT READS IS OF BULK AT MOST 1048576: true; the input reads as it did. -/
def fnExactTeethNeededUptoRow : OpenClaim := { program := "ytidnfnnnfppefab", sum := "655394d027d4864b00beb9c77a97ef2fed7cd879e8699039a8b97c2736d1849a", func := "loop.example/g00949/laws.FnExactTeethNeeded", spec := "fnExactTeethNeeded", apart := false, narrowed := true }
def FnExactTeethNeededUptoSaid : Prop := fnExactTeethNeededUptoRow.holds Try.pinned (OpenSpec.upto fnExactTeethNeededSpec)

/-- 'laws.FnExactTeethOf', WHERE WHAT IT READS IS OF BULK AT MOST 1048576: true; the input reads as it did. -/
def fnExactTeethOfUptoRow : OpenClaim := { program := "ytidnfnnnfppefab", sum := "655394d027d4864b00beb9c77a97ef2fed7cd879e8699039a8b97c2736d1849a", func := "loop.example/g00949/laws.FnExactTeethOf", spec := "fnExactTeethOf", apart := false, narrowed := true }
def FnExactTeethOfUptoSaid : Prop := fnExactTeethOfUptoRow.holds Try.pinned (OpenSpec.upto fnExactTeethOfSpec)

/-- 'laws.FnExactShortParts', WHERE WHAT IT READS IS OF BULK AT MOST 1048576: true; the input reads as it did. -/
def fnExactShortPartsUptoRow : OpenClaim := { program := "ytidnfnnnfppefab", sum := "655394d027d4864b00beb9c77a97ef2fed7cd879e8699039a8b97c2736d1849a", func := "loop.example/g00949/laws.FnExactShortParts", spec := "fnExactShortParts", apart := false, narrowed := true }
def FnExactShortPartsUptoSaid : Prop := fnExactShortPartsUptoRow.holds Try.pinned (OpenSpec.upto fnExactShortPartsSpec)

/-- 'laws.FnExactOtherBeats', WHERE WHAT IT READS IS OF BULK AT MOST 1048576: true; the input reads as it did. -/
def fnExactOtherBeatsUptoRow : OpenClaim := { program := "ytidnfnnnfppefab", sum := "655394d027d4864b00beb9c77a97ef2fed7cd879e8699039a8b97c2736d1849a", func := "loop.example/g00949/laws.FnExactOtherBeats", spec := "fnExactOtherBeats", apart := false, narrowed := true }
def FnExactOtherBeatsUptoSaid : Prop := fnExactOtherBeatsUptoRow.holds Try.pinned (OpenSpec.upto fnExactOtherBeatsSpec)

/-- 'laws.FnExactCommonSteps', WHERE WHAT IT READS IS OF BULK AT MOST 1048576: true; the input reads as it did. -/
def fnExactCommonStepsUptoRow : OpenClaim := { program := "ytidnfnnnfppefab", sum := "655394d027d4864b00beb9c77a97ef2fed7cd879e8699039a8b97c2736d1849a", func := "loop.example/g00949/laws.FnExactCommonSteps", spec := "fnExactCommonSteps", apart := false, narrowed := true }
def FnExactCommonStepsUptoSaid : Prop := fnExactCommonStepsUptoRow.holds Try.pinned (OpenSpec.upto fnExactCommonStepsSpec)

end Rows
end Go.Proofs.Ytidnfnnnfppefab
