-- Written by a session's own program (wip/tools/myprint.py) over the kit's printer, out of the translation. Not trusted: Lean checks it.
import Derived.Test.YtannkhefallkhaaQ0
import Derived.Test.YtannkhefallkhaaQ2
namespace Go.Proofs.Ytannkhefallkhaa.Q
open Go.RowKit Go.Proofs.YtannkhefallkhaaW.PrintWords Go.Proofs.YtannkhefallkhaaW.PrintLast Go.Proofs.YtannkhefallkhaaW.PrintMore
attribute [local go_sem] max2_int min2_int max_two min_two max_three min_three max_four min_four   -- for this text's walks alone
set_option linter.unusedVariables false
set_option linter.unusedSimpArgs false

/-! ### spec_l18Rest: function 42 -/
def spec_l18Rest.l0 : Nat → List Int → List Int → List Bool → Int → Int → Int → Option (Int × Int)
 | 0, _, _, _, _, _, _ => none
 | k + 1, x0, x1, x3, x10, x11, x12 => if x12 < (x0.length : Int) then (if 0 ≤ x12 then (if x12 < (x3.length : Int) then (if rdOf false x3 x12 = true then (if x12 < (x1.length : Int) then (spec_l18Rest.l0 k x0 x1 x3 (wrap64 (x10 - (rd x1 x12))) x11 (wrap64 (x12 + 1))) else (none)) else (spec_l18Rest.l0 k x0 x1 x3 x10 (wrap64 (x11 + (rd x0 x12))) (wrap64 (x12 + 1)))) else (none)) else (none)) else (some (x10, x11))
def spec_l18Rest.f (k : Nat) (l0 : List Int) (l1 : List Int) (a2 : Int) (l3 : List Bool) : Option (Int × Int) := spec_l18Rest.l0 k l0 l1 l3 a2 0 0
/-! ### spec_FullIn: function 41 -/
mutual
def spec_FullIn.l0 : Nat → List Int → List Int → Int → List Bool → Int → Option (List Bool)
 | 0, _, _, _, _, _ => none
 | k + 1, x0, x1, x2, x7, x8 => if x8 ≤ (x0.length : Int) then ((spec_l18Rest.f k x0 x1 x2 x7).bind fun bt152 => (spec_FullIn.l1 k x0 x1 x2 x7 x8 bt152.1 bt152.2 0)) else (some x7)
def spec_FullIn.l1 : Nat → List Int → List Int → Int → List Bool → Int → Int → Int → Int → Option (List Bool)
 | 0, _, _, _, _, _, _, _, _ => none
 | k + 1, x0, x1, x2, x7, x8, x9, x10, x11 => if x11 < (x0.length : Int) then (if 0 ≤ x11 then (if x11 < (x7.length : Int) then (if rdOf false x7 x11 = true then (spec_FullIn.l1 k x0 x1 x2 x7 x8 x9 x10 (wrap64 (x11 + 1))) else (if (rd x0 x11) > 0 then (if x11 < (x1.length : Int) then (if (wrap64 (x9 * (rd x0 x11))) ≥ (wrap64 (x10 * (rd x1 x11))) then (spec_FullIn.l1 k x0 x1 x2 (x7.set (x11 : Int).toNat true) x8 x9 x10 (wrap64 (x11 + 1))) else (spec_FullIn.l1 k x0 x1 x2 x7 x8 x9 x10 (wrap64 (x11 + 1)))) else (none)) else (spec_FullIn.l1 k x0 x1 x2 x7 x8 x9 x10 (wrap64 (x11 + 1))))) else (none)) else (none)) else (spec_FullIn.l0 k x0 x1 x2 x7 (wrap64 (x8 + 1)))
end
def spec_FullIn.f (k : Nat) (l0 : List Int) (l1 : List Int) (a2 : Int) : Option (List Bool) := (spec_DealOk.f k l0 l1 a2).bind fun t145 => (if t145 = true then (if 0 ≤ (l0.length : Int) then (if ((l0.length : Int) : Int).toNat ≤ 281474976710656 then (spec_FullIn.l0 k l0 l1 a2 (List.replicate ((l0.length : Int) : Int).toNat false) 0) else (none)) else (none)) else (some (([] : List Bool))))
end Go.Proofs.Ytannkhefallkhaa.Q
