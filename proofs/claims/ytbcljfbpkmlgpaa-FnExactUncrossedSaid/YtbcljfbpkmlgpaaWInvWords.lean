-- Cut down by a session's own program (wip/tools/shake.py) from the words that the kit's print.sh wrote. Not trusted: Lean checks it.
import Derived.Test.YtbcljfbpkmlgpaaWInv
import Derived.Test.YtbcljfbpkmlgpaaWFootNe
namespace Go.Proofs.YtbcljfbpkmlgpaaW.PrintWords
open Go.RowKit
end Go.Proofs.YtbcljfbpkmlgpaaW.PrintWords
namespace Go.Proofs.YtbcljfbpkmlgpaaW.PrintLast
section
variable {ops : Array Oper} {a : Act} {o og : Oper} {g : Nat} {t : Tmp} {u : Bool}
end
end Go.Proofs.YtbcljfbpkmlgpaaW.PrintLast
