/- The walks of functions that FnExactLeastTurn reaches: what they return is what the plain functions of the same names say. Laid by a program of this session after the kit's print. No conditions beyond the arguments' being read. -/
import Derived.Test.YtjniaiobnbdhhabProg
import Derived.Below
import Derived.Deep.Draws
import Derived.Deep.AppendLies
import Derived.Maps.AppendAt
import Derived.OwnWalk
import Derived.Laws.BytesArg
import Derived.Laws.MakeOwn
import Derived.Laws.OwnMore
import Derived.Deep.OwnRows
import Derived.Tactics
import Derived.Lib.ConvBytes
import Derived.Laws.Slices
import Derived.WalkKit
import Derived.KernelRfl
import Derived.RowKit3
import Derived.Deep.LoopGhost
import Derived.Deep.QuietTactic
import Derived.BigQuiet
import Derived.WideLaws
import Derived.Deep.DeepCutAuto
import Derived.Deep.CutBlock
import Derived.Deep.RegionHeld3
import Derived.Laws.Rows
import Derived.Lib.AppendStr
import Derived.ArgAppend
import Derived.Laws.IdiomCopy
import Derived.OrdersHeld
import Derived.Laws.BitsLemmas
import Derived.RowKit
import Derived.Lib.SliceRun
import Derived.Shelf.Lay
import Derived.Shelf.Sort.Plain
import Derived.Shelf.Slices.In.SortNone
import Derived.Ground.NamesProg
import Derived.Sort.OwnSortedInts
import Derived.Test.YtjniaiobnbdhhabWWords
import Derived.Test.YtjniaiobnbdhhabWLast
import Derived.Test.YtjniaiobnbdhhabWTab
import Derived.Test.YtjniaiobnbdhhabWFour
import Derived.Test.YtjniaiobnbdhhabWQPut
import Derived.Test.YtjniaiobnbdhhabWApart
import Derived.Test.YtjniaiobnbdhhabWArr
import Derived.Test.YtjniaiobnbdhhabWZeros
import Derived.Test.YtjniaiobnbdhhabWFoot
import Derived.Test.YtjniaiobnbdhhabWKept
import Derived.Test.YtjniaiobnbdhhabWShare
import Derived.Test.YtjniaiobnbdhhabWN
import Derived.Test.YtjniaiobnbdhhabWFootNe
import Derived.Test.YtjniaiobnbdhhabWAt
import Derived.Test.YtjniaiobnbdhhabWEqStruct
import Derived.Test.YtjniaiobnbdhhabWRepsOne
import Derived.Test.YtjniaiobnbdhhabWInv
import Derived.Test.YtjniaiobnbdhhabWInvWords
import Derived.Test.YtjniaiobnbdhhabWGuard
import Derived.Test.YtjniaiobnbdhhabWNEv
import Derived.Test.YtjniaiobnbdhhabWMore
namespace Go.Proofs.Ytjniaiobnbdhhab.PFnExactLeastTurn
open Go.RowKit Go.Proofs.YtjniaiobnbdhhabW.PrintWords Go.Proofs.YtjniaiobnbdhhabW.PrintLast Go.Proofs.YtjniaiobnbdhhabW.PrintMore
attribute [local go_sem] max2_int min2_int max_two min_two max_three min_three max_four min_four   -- for this text's walks alone
set_option linter.unusedVariables false
set_option linter.unusedSimpArgs false



def errW : Option Int → Value
  | none => .nilIface
  | some c => .iface 0 (.int .i64 c)
theorem errW_none : errW none = .nilIface := rfl
theorem errW_some (c : Int) : errW (some c) = .iface 0 (.int .i64 c) := rfl

theorem info3 : (Try.prog.info? 3).map (fun i => (i.zero, i.size, i.bytes)) = some (some (.int .i64 0), 1, 8) := by kernel_rfl
-- the values' own types

end Go.Proofs.Ytjniaiobnbdhhab.PFnExactLeastTurn
