-- Cut by program (wip/gen/prune.py) out of a text that print.sh printed: what nothing names is struck; not written by this session.
import Derived.Test.YtbopiacjioedeaaWTab
/-! ### 56. Four, five, six operations that may come up next, in any order -/
namespace Go.Proofs.YtbopiacjioedeaaW.PrintLast
section
variable {P : Program} {ops : Array Oper} {Q : Exit → Act → World → Prop} {md : Region.Mode} {S : World → Prop} {ds : List Nat} {T : Bool × List (List Nat × List Nat)}
end
end Go.Proofs.YtbopiacjioedeaaW.PrintLast
