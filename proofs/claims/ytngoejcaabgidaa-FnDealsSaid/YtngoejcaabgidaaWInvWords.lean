-- Cut down by a session's own program (wip/tools/shake.py) from the words that the kit's print.sh wrote. Not trusted: Lean checks it.
import Derived.Test.YtngoejcaabgidaaWInv
import Derived.Test.YtngoejcaabgidaaWFootNe
namespace Go.Proofs.YtngoejcaabgidaaW.PrintWords
open Go.RowKit
end Go.Proofs.YtngoejcaabgidaaW.PrintWords
namespace Go.Proofs.YtngoejcaabgidaaW.PrintLast
section
variable {ops : Array Oper} {a : Act} {o og : Oper} {g : Nat} {t : Tmp} {u : Bool}
end
end Go.Proofs.YtngoejcaabgidaaW.PrintLast
