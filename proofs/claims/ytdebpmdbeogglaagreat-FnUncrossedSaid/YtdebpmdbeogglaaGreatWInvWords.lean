import Derived.Test.YtdebpmdbeogglaaGreatWInv
import Derived.Test.YtdebpmdbeogglaaGreatWFootNe
namespace Go.Proofs.YtdebpmdbeogglaaGreatW.PrintWords
open Go.RowKit
end Go.Proofs.YtdebpmdbeogglaaGreatW.PrintWords
namespace Go.Proofs.YtdebpmdbeogglaaGreatW.PrintLast
section
variable {ops : Array Oper} {a : Act} {o og : Oper} {g : Nat} {t : Tmp} {u : Bool}
end
end Go.Proofs.YtdebpmdbeogglaaGreatW.PrintLast
