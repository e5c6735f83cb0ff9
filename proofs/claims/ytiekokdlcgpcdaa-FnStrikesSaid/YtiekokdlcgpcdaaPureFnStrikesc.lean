/- The plain statement of FnStrikes (lemmas): the law's function, over numbers and lists, answers true. No conditions beyond the arguments' own kinds. -/
import Derived.Test.YtiekokdlcgpcdaaSFnStrikes13
import Derived.Test.YtiekokdlcgpcdaaPureFnStrikesb
namespace Go.Proofs.Ytiekokdlcgpcdaa.PureFnStrikes
open Go Go.RowKit Go.Proofs.Ytiekokdlcgpcdaa.PFnStrikes Go.Proofs.YtiekokdlcgpcdaaW.PrintWords Go.Proofs.YtiekokdlcgpcdaaW.PrintLast Go.Proofs.YtiekokdlcgpcdaaW.PrintMore Go.Proofs.Ytiekokdlcgpcdaa.Lib
set_option linter.unusedVariables false
set_option linter.unusedSimpArgs false

end Go.Proofs.Ytiekokdlcgpcdaa.PureFnStrikes
