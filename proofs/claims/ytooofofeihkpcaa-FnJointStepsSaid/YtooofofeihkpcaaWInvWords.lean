-- Cut down by a session's own program (wip/tools/shake.py) from the words that the kit's print.sh wrote. Not trusted: Lean checks it.
import Derived.Test.YtooofofeihkpcaaWInv
import Derived.Test.YtooofofeihkpcaaWFootNe
namespace Go.Proofs.YtooofofeihkpcaaW.PrintWords
open Go.RowKit
end Go.Proofs.YtooofofeihkpcaaW.PrintWords
namespace Go.Proofs.YtooofofeihkpcaaW.PrintLast
section
variable {ops : Array Oper} {a : Act} {o og : Oper} {g : Nat} {t : Tmp} {u : Bool}
end
end Go.Proofs.YtooofofeihkpcaaW.PrintLast
