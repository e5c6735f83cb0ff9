-- PRINTED BY print.sh 35421559b90ae4d0a3588c463048766b98c2df88dd9212a6774a882060cdf62d: not written by this session
import Derived.Test.YtidnfnnnfppefaaProg
import Derived.Below
import Derived.Deep.Draws
import Derived.Deep.AppendLies
import Derived.Maps.AppendAt
import Derived.OwnWalk
import Derived.Laws.BytesArg
import Derived.Laws.MakeOwn
import Derived.Laws.OwnMore
import Derived.Deep.OwnRows
import Derived.Tactics
import Derived.Lib.ConvBytes
import Derived.Laws.Slices
import Derived.WalkKit
import Derived.KernelRfl
import Derived.RowKit3
import Derived.Deep.LoopGhost
import Derived.Deep.QuietTactic
import Derived.BigQuiet
import Derived.WideLaws
import Derived.Deep.DeepCutAuto
import Derived.Deep.CutBlock
import Derived.Deep.RegionHeld3
import Derived.Laws.Rows
import Derived.Lib.AppendStr
import Derived.ArgAppend
import Derived.Laws.IdiomCopy
import Derived.OrdersHeld
import Derived.Laws.BitsLemmas
import Derived.RowKit
import Derived.Test.YtidnfnnnfppefaaWWords
import Derived.Test.YtidnfnnnfppefaaWLast
import Derived.Test.YtidnfnnnfppefaaWTab
import Derived.Test.YtidnfnnnfppefaaWFour
import Derived.Test.YtidnfnnnfppefaaWQPut
import Derived.Test.YtidnfnnnfppefaaWApart
import Derived.Test.YtidnfnnnfppefaaWArr
import Derived.Test.YtidnfnnnfppefaaWZeros
import Derived.Test.YtidnfnnnfppefaaWFoot
import Derived.Test.YtidnfnnnfppefaaWKept
import Derived.Test.YtidnfnnnfppefaaWShare
import Derived.Test.YtidnfnnnfppefaaWN
import Derived.Test.YtidnfnnnfppefaaWFootNe
import Derived.Test.YtidnfnnnfppefaaWAt
import Derived.Test.YtidnfnnnfppefaaWEqStruct
import Derived.Test.YtidnfnnnfppefaaWRepsOne
import Derived.Test.YtidnfnnnfppefaaWInv
import Derived.Test.YtidnfnnnfppefaaWInvWords
import Derived.Test.YtidnfnnnfppefaaWGuard
import Derived.Test.YtidnfnnnfppefaaWNEv
import Derived.Test.YtidnfnnnfppefaaWMore
namespace Go.Proofs.Ytidnfnnnfppefaa.PFnExactEvenPattern
open Go.RowKit Go.Proofs.YtidnfnnnfppefaaW.PrintWords Go.Proofs.YtidnfnnnfppefaaW.PrintLast Go.Proofs.YtidnfnnnfppefaaW.PrintMore
attribute [local go_sem] max2_int min2_int max_two min_two max_three min_three max_four min_four   -- for this text's walks alone
set_option linter.unusedVariables false
set_option linter.unusedSimpArgs false



def errW : Option Int → Value
  | none => .nilIface
  | some c => .iface 0 (.int .i64 c)
theorem errW_none : errW none = .nilIface := rfl
theorem errW_some (c : Int) : errW (some c) = .iface 0 (.int .i64 c) := rfl

theorem info3 : (Try.prog.info? 3).map (fun i => (i.zero, i.size, i.bytes)) = some (some (.int .i64 0), 1, 8) := by kernel_rfl
-- the values' own types

end Go.Proofs.Ytidnfnnnfppefaa.PFnExactEvenPattern
