-- Cut down by a session's own program (wip/tools/shake.py) from the words that the kit's print.sh wrote. Not trusted: Lean checks it.
import Derived.Test.YtkdemainohfgfaaWInv
import Derived.Test.YtkdemainohfgfaaWFootNe
namespace Go.Proofs.YtkdemainohfgfaaW.PrintWords
open Go.RowKit
end Go.Proofs.YtkdemainohfgfaaW.PrintWords
namespace Go.Proofs.YtkdemainohfgfaaW.PrintLast
section
variable {ops : Array Oper} {a : Act} {o og : Oper} {g : Nat} {t : Tmp} {u : Bool}
end
end Go.Proofs.YtkdemainohfgfaaW.PrintLast
