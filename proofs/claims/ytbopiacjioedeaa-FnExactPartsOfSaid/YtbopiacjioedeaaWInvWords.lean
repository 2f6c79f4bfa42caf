-- Cut by program (wip/gen/prune.py) out of a text that print.sh printed: what nothing names is struck; not written by this session.
import Derived.Test.YtbopiacjioedeaaWInv
import Derived.Test.YtbopiacjioedeaaWFootNe
namespace Go.Proofs.YtbopiacjioedeaaW.PrintWords
open Go.RowKit
end Go.Proofs.YtbopiacjioedeaaW.PrintWords
namespace Go.Proofs.YtbopiacjioedeaaW.PrintLast
section
variable {ops : Array Oper} {a : Act} {o og : Oper} {g : Nat} {t : Tmp} {u : Bool}
end
end Go.Proofs.YtbopiacjioedeaaW.PrintLast
