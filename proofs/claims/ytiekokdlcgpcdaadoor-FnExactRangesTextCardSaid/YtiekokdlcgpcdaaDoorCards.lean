/-
  DERIVED. GIVEN WITH THE SEED: THE CARDS: each row of YtiekokdlcgpcdaaDoorRows.lean that lists a variable, with what it lists TIED to the program's text (the seventh form; the later family's looks); each row that meets fmt, with fmt's text TOLD by the authors' own Lean function (tested against real Go, not proved from fmt's source: count such statements apart). THE CARD IS WHAT COUNTS. Prove the row's statement (the work); the ties are given (YtiekokdlcgpcdaaDoorTie.lean); close each card by the builder's one call (the guide's Derived/Test/ToyasCard.lean, 'card_holds'). Laid BY PROGRAM, IN A SANDBOX (cutbox-door.mjs). By AI agents, Wed Nov 11 2026. No macro, syntax, notation, axiom, sorry.
-/
import Derived.Test.YtiekokdlcgpcdaaDoorRows
import GoSem.ClaimSeven
namespace Go.Proofs.YtiekokdlcgpcdaaDoor
namespace Rows

/-- THE TIED CARD OF 'laws.FnExactCombText'. -/
def fnExactCombTextCard : Claim7 := { stood := { row := fnExactCombTextRow, standIns := [], harness := (true, "49a1385306a27939139e1bd5ffa7c3d97b3f2d18056113c22647801a34b919cf"), looks := false }, kinds := [], alts := [], laidByText := true, laidKinds := [.data, .data, .data], laidTests := true, laidLooks := .later }
def FnExactCombTextCardSaid : Prop := Claim7.holds Tryd.pinned (.plain (OpenSpec.ofChange fnExactCombTextSpec)) fnExactCombTextCard

/-- THE TIED CARD OF 'laws.FnExactRangesText'. -/
def fnExactRangesTextCard : Claim7 := { stood := { row := fnExactRangesTextRow, standIns := [], harness := (true, "49a1385306a27939139e1bd5ffa7c3d97b3f2d18056113c22647801a34b919cf"), looks := false }, kinds := [], alts := [], laidByText := true, laidKinds := [.data, .data, .data], laidTests := true, laidLooks := .later }
def FnExactRangesTextCardSaid : Prop := Claim7.holds Tryd.pinned (.plain (OpenSpec.ofChange fnExactRangesTextSpec)) fnExactRangesTextCard

/-- THE SECOND FORM's CARD OF 'laws.FnExactCombText'. -/
def fnExactCombTextUptoCard : Claim7 := { stood := { row := fnExactCombTextUptoRow, standIns := [], harness := (true, "49a1385306a27939139e1bd5ffa7c3d97b3f2d18056113c22647801a34b919cf"), looks := false }, kinds := [], alts := [], laidByText := true, laidKinds := [.data, .data, .data], laidTests := true, laidLooks := .later }
def FnExactCombTextUptoCardSaid : Prop := Claim7.holds Tryd.pinned (.plain (OpenSpec.upto fnExactCombTextSpec)) fnExactCombTextUptoCard

/-- THE SECOND FORM's CARD OF 'laws.FnExactRangesText'. -/
def fnExactRangesTextUptoCard : Claim7 := { stood := { row := fnExactRangesTextUptoRow, standIns := [], harness := (true, "49a1385306a27939139e1bd5ffa7c3d97b3f2d18056113c22647801a34b919cf"), looks := false }, kinds := [], alts := [], laidByText := true, laidKinds := [.data, .data, .data], laidTests := true, laidLooks := .later }
def FnExactRangesTextUptoCardSaid : Prop := Claim7.holds Tryd.pinned (.plain (OpenSpec.upto fnExactRangesTextSpec)) fnExactRangesTextUptoCard
end Rows
end Go.Proofs.YtiekokdlcgpcdaaDoor
