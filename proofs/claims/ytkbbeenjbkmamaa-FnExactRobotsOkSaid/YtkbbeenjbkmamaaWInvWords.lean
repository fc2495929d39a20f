-- Cut down by a session's own program (wip/tools/shake.py) from the words that the kit's print.sh wrote. Not trusted: Lean checks it.
import Derived.Test.YtkbbeenjbkmamaaWInv
import Derived.Test.YtkbbeenjbkmamaaWFootNe
namespace Go.Proofs.YtkbbeenjbkmamaaW.PrintWords
open Go.RowKit
end Go.Proofs.YtkbbeenjbkmamaaW.PrintWords
namespace Go.Proofs.YtkbbeenjbkmamaaW.PrintLast
section
variable {ops : Array Oper} {a : Act} {o og : Oper} {g : Nat} {t : Tmp} {u : Bool}
end
end Go.Proofs.YtkbbeenjbkmamaaW.PrintLast
