-- Cut down by a session's own program (wip/tools/shake.py) from the words that the kit's print.sh wrote. Not trusted: Lean checks it.
import Derived.Test.YtdebpmdbeogglaaWInv
import Derived.Test.YtdebpmdbeogglaaWFootNe
namespace Go.Proofs.YtdebpmdbeogglaaW.PrintWords
open Go.RowKit
end Go.Proofs.YtdebpmdbeogglaaW.PrintWords
namespace Go.Proofs.YtdebpmdbeogglaaW.PrintLast
section
variable {ops : Array Oper} {a : Act} {o og : Oper} {g : Nat} {t : Tmp} {u : Bool}
end
end Go.Proofs.YtdebpmdbeogglaaW.PrintLast
