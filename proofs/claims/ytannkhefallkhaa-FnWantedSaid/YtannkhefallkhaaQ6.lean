-- Written by a session's own program (wip/tools/myprint.py) over the kit's printer, out of the translation. Not trusted: Lean checks it.
import Derived.Test.YtannkhefallkhaaQ0
import Derived.Test.YtannkhefallkhaaQ1
import Derived.Test.YtannkhefallkhaaQ2
import Derived.Test.YtannkhefallkhaaQ4
import Derived.Test.YtannkhefallkhaaQ5
namespace Go.Proofs.Ytannkhefallkhaa.Q
open Go.RowKit Go.Proofs.YtannkhefallkhaaW.PrintWords Go.Proofs.YtannkhefallkhaaW.PrintLast Go.Proofs.YtannkhefallkhaaW.PrintMore
attribute [local go_sem] max2_int min2_int max_two min_two max_three min_three max_four min_four   -- for this text's walks alone
set_option linter.unusedVariables false
set_option linter.unusedSimpArgs false

/-! ### spec_WantedOf: function 6 -/
mutual
def spec_WantedOf.j0 : Nat → List Int → List Int → Int → Bool → Int → Int → ByteArray → Option (List Int × Bool)
 | 0, _, _, _, _, _, _, _ => none
 | k + 1, x1, x2, x3, x34, x236000, x236001, x236002 => if x34 = true then (some ((([] : List Int)), false)) else ((spec_RoomsOf.f k x236000 x236001 x236002 x1).bind fun t241 => (spec_WantedOf.l0 k x1 x2 x3 t241 0 0 x236000 x236001 x236002))
def spec_WantedOf.l0 : Nat → List Int → List Int → Int → List Int → Int → Int → Int → Int → ByteArray → Option (List Int × Bool)
 | 0, _, _, _, _, _, _, _, _, _ => none
 | k + 1, x1, x2, x3, x10, x11, x12, x236000, x236001, x236002 => if x12 < 6 then (if 0 ≤ x12 then (if x12 < (x2.length : Int) then (if (rd x2 x12) > 0 then (if x12 < (x10.length : Int) then (spec_WantedOf.l0 k x1 x2 x3 x10 (wrap64 (x11 + (rd x10 x12))) (wrap64 (x12 + 1)) x236000 x236001 x236002) else (none)) else (spec_WantedOf.l0 k x1 x2 x3 x10 x11 (wrap64 (x12 + 1)) x236000 x236001 x236002)) else (none)) else (none)) else ((spec_Brought.f k x3 0 x11).bind fun t246 => (if t246 = 0 then (some ((([] : List Int)), false)) else ((spec_DealOf.f k x2 x10 t246).bind fun t250 => (spec_WantedOf.l1 k x1 t250 (([] : List Int)) 0 x236000 x236001 x236002))))
def spec_WantedOf.l1 : Nat → List Int → List Int → List Int → Int → Int → Int → ByteArray → Option (List Int × Bool)
 | 0, _, _, _, _, _, _, _ => none
 | k + 1, x1, x13, x14, x15, x236000, x236001, x236002 => if x15 < 6 then ((spec_ParksIn.f k x236000 x236001 x236002 x15).bind fun t259 => (spec_WantedOf.l2 k x1 x13 x14 x15 t259 0 x236000 x236001 x236002)) else ((spec_l11Sorted.f k x14).bind fun t256 => (some (t256, true)))
def spec_WantedOf.l2 : Nat → List Int → List Int → List Int → Int → List Int → Int → Int → Int → ByteArray → Option (List Int × Bool)
 | 0, _, _, _, _, _, _, _, _, _ => none
 | k + 1, x1, x13, x14, x15, x16, x17, x236000, x236001, x236002 => if x17 < (x16.length : Int) then (if 0 ≤ x17 then ((spec_l03Has.f k x1 (rd x16 x17)).bind fun t263 => (if t263 = true then (spec_WantedOf.l2 k x1 x13 x14 x15 x16 (wrap64 (x17 + 1)) x236000 x236001 x236002) else (if 0 ≤ x15 then (if x15 < (x13.length : Int) then (if (rd x13 x15) > 0 then (if x14.length < 17592186044416 then (spec_WantedOf.l2 k x1 (x13.set (x15 : Int).toNat (wrap64 ((rd x13 x15) - 1))) (x14 ++ [rd x16 x17]) x15 x16 (wrap64 (x17 + 1)) x236000 x236001 x236002) else (none)) else (spec_WantedOf.l2 k x1 x13 x14 x15 x16 (wrap64 (x17 + 1)) x236000 x236001 x236002)) else (none)) else (none)))) else (none)) else (spec_WantedOf.l1 k x1 x13 x14 (wrap64 (x15 + 1)) x236000 x236001 x236002)
end
def spec_WantedOf.f (k : Nat) (a0_0 : Int) (a0_1 : Int) (a0_2 : ByteArray) (l1 : List Int) (l2 : List Int) (a3 : Int) : Option (List Int × Bool) := (spec_GridOk.f k a0_0 a0_1 a0_2).bind fun t236 => (if t236 = true then (if (l2.length : Int) = 6 then ((spec_l18List.f k l2).bind fun t237 => (if t237 = true then (spec_WantedOf.j0 k l1 l2 a3 (decide (a3 < 0)) a0_0 a0_1 a0_2) else (spec_WantedOf.j0 k l1 l2 a3 true a0_0 a0_1 a0_2))) else (spec_WantedOf.j0 k l1 l2 a3 true a0_0 a0_1 a0_2)) else (spec_WantedOf.j0 k l1 l2 a3 true a0_0 a0_1 a0_2))
/-! ### laws_toGrid: function 7 -/
def laws_toGrid.f (a0_0 : Int) (a0_1 : Int) (a0_2 : ByteArray) : Option (Int × Int × ByteArray) := some (a0_0, a0_1, a0_2)
/-! ### laws_toIntS: function 8 -/
def laws_toIntS.l0 : Nat → List Int → List Int → Int → Option (List Int)
 | 0, _, _, _ => none
 | k + 1, x0, x3, x4 => if x4 < (x0.length : Int) then (if 0 ≤ x4 then (if x4 < (x3.length : Int) then (laws_toIntS.l0 k x0 (x3.set (x4 : Int).toNat (rd x0 x4)) (wrap64 (x4 + 1))) else (none)) else (none)) else (some x3)
def laws_toIntS.f (k : Nat) (l0 : List Int) : Option (List Int) := if 0 ≤ (l0.length : Int) then (if ((l0.length : Int) : Int).toNat ≤ 35184372088832 then (laws_toIntS.l0 k l0 (List.replicate ((l0.length : Int) : Int).toNat 0) 0) else (none)) else (none)
end Go.Proofs.Ytannkhefallkhaa.Q
