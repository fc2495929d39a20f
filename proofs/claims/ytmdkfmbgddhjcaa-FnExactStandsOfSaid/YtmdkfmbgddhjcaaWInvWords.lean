-- Cut down by a session's own program (wip/tools/shake.py) from the words that the kit's print.sh wrote. Not trusted: Lean checks it.
import Derived.Test.YtmdkfmbgddhjcaaWInv
import Derived.Test.YtmdkfmbgddhjcaaWFootNe
namespace Go.Proofs.YtmdkfmbgddhjcaaW.PrintWords
open Go.RowKit
end Go.Proofs.YtmdkfmbgddhjcaaW.PrintWords
namespace Go.Proofs.YtmdkfmbgddhjcaaW.PrintLast
section
variable {ops : Array Oper} {a : Act} {o og : Oper} {g : Nat} {t : Tmp} {u : Bool}
end
end Go.Proofs.YtmdkfmbgddhjcaaW.PrintLast
