-- Cut down by a session's own program (wip/tools/shake.py) from the words that the kit's print.sh wrote. Not trusted: Lean checks it.
import Derived.Test.YtannkhefallkhaaWInv
import Derived.Test.YtannkhefallkhaaWFootNe
namespace Go.Proofs.YtannkhefallkhaaW.PrintWords
open Go.RowKit
end Go.Proofs.YtannkhefallkhaaW.PrintWords
namespace Go.Proofs.YtannkhefallkhaaW.PrintLast
section
variable {ops : Array Oper} {a : Act} {o og : Oper} {g : Nat} {t : Tmp} {u : Bool}
end
end Go.Proofs.YtannkhefallkhaaW.PrintLast
