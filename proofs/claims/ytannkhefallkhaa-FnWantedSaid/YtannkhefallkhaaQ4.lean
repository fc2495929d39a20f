-- Written by a session's own program (wip/tools/myprint.py) over the kit's printer, out of the translation. Not trusted: Lean checks it.
import Derived.Test.YtannkhefallkhaaQ0
import Derived.Test.YtannkhefallkhaaQ2
import Derived.Test.YtannkhefallkhaaQ3
namespace Go.Proofs.Ytannkhefallkhaa.Q
open Go.RowKit Go.Proofs.YtannkhefallkhaaW.PrintWords Go.Proofs.YtannkhefallkhaaW.PrintLast Go.Proofs.YtannkhefallkhaaW.PrintMore
attribute [local go_sem] max2_int min2_int max_two min_two max_three min_three max_four min_four   -- for this text's walks alone
set_option linter.unusedVariables false
set_option linter.unusedSimpArgs false

/-! ### spec_DealOf: function 24 -/
mutual
def spec_DealOf.l0 : Nat → List Int → List Int → List Int → List Bool → Int → Int → Int → List Int → Int → Option (List Int)
 | 0, _, _, _, _, _, _, _, _, _ => none
 | k + 1, x0, x1, x7, x8, x9, x10, x11, x12, x13 => if x13 < (x0.length : Int) then (if 0 ≤ x13 then (if x13 < (x8.length : Int) then (if rdOf false x8 x13 = true then (if x13 < (x1.length : Int) then (if x7.length < 17592186044416 then (if x12.length < 17592186044416 then (spec_DealOf.l0 k x0 x1 (x7 ++ [rd x1 x13]) x8 x9 x10 x11 (x12 ++ [(-1)]) (wrap64 (x13 + 1))) else (none)) else (none)) else (none)) else (if (rd x0 x13) > 0 then (if x10 = 0 then (none) else (if x7.length < 17592186044416 then (if x12.length < 17592186044416 then (spec_DealOf.l0 k x0 x1 (x7 ++ [wrap64 (Int.tdiv (wrap64 (x9 * (rd x0 x13))) x10)]) x8 x9 x10 (wrap64 (x11 - (wrap64 (Int.tdiv (wrap64 (x9 * (rd x0 x13))) x10)))) (x12 ++ [Int.tmod (wrap64 (x9 * (rd x0 x13))) x10]) (wrap64 (x13 + 1))) else (none)) else (none))) else (if x7.length < 17592186044416 then (if x12.length < 17592186044416 then (spec_DealOf.l0 k x0 x1 (x7 ++ [0]) x8 x9 x10 x11 (x12 ++ [(-1)]) (wrap64 (x13 + 1))) else (none)) else (none)))) else (none)) else (none)) else (spec_DealOf.l1 k x7 x11 x12)
def spec_DealOf.l1 : Nat → List Int → Int → List Int → Option (List Int)
 | 0, _, _, _ => none
 | k + 1, x7, x11, x12 => if x11 > 0 then (spec_DealOf.l2 k x7 x11 x12 (-1) 0) else (some x7)
def spec_DealOf.l2 : Nat → List Int → Int → List Int → Int → Int → Option (List Int)
 | 0, _, _, _, _, _ => none
 | k + 1, x7, x11, x12, x16, x17 => if x17 < (x12.length : Int) then (if 0 ≤ x17 then (if (rd x12 x17) ≥ 0 then (if x16 < 0 then (spec_DealOf.l2 k x7 x11 x12 x17 (wrap64 (x17 + 1))) else (if 0 ≤ x16 then (if x16 < (x12.length : Int) then (if (rd x12 x17) > (rd x12 x16) then (spec_DealOf.l2 k x7 x11 x12 x17 (wrap64 (x17 + 1))) else (spec_DealOf.l2 k x7 x11 x12 x16 (wrap64 (x17 + 1)))) else (none)) else (none))) else (spec_DealOf.l2 k x7 x11 x12 x16 (wrap64 (x17 + 1)))) else (none)) else (if x16 < 0 then (some x7) else (if 0 ≤ x16 then (if x16 < (x7.length : Int) then (if x16 < (x12.length : Int) then (spec_DealOf.l1 k (x7.set (x16 : Int).toNat (wrap64 ((rd x7 x16) + 1))) (wrap64 (x11 - 1)) (x12.set (x16 : Int).toNat (-1))) else (none)) else (none)) else (none)))
end
def spec_DealOf.f (k : Nat) (l0 : List Int) (l1 : List Int) (a2 : Int) : Option (List Int) := (some (([] : List Int) : List Int)).bind fun y159 => ((spec_DealOk.f k l0 l1 a2).bind fun t162 => (if t162 = true then ((spec_FullIn.f k l0 l1 a2).bind fun t163 => ((spec_l18Rest.f k l0 l1 a2 t163).bind fun bt166 => (spec_DealOf.l0 k l0 l1 y159 t163 bt166.1 bt166.2 bt166.1 (([] : List Int)) 0))) else (some y159)))
end Go.Proofs.Ytannkhefallkhaa.Q
