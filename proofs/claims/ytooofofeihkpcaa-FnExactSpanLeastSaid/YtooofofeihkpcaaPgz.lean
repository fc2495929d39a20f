/- What a grid weighs. -/
import Derived.Test.YtooofofeihkpcaaPgr
import Derived.Test.YtooofofeihkpcaaQ1
namespace Go.Proofs.Ytooofofeihkpcaa.Pure
open Go.RowKit Go.Proofs.Ytooofofeihkpcaa.Q Go.Proofs.YtooofofeihkpcaaW.PrintWords Go.Proofs.YtooofofeihkpcaaW.PrintLast
theorem szGrid_eq (a b : Int) (s : ByteArray) (hs : s.size ≤ maxLen) (m : Int) (hm0 : 0 ≤ m) (hm : m ≤ 1048576) : laws_szGrid.f a b s m = some (if (s.size : Int) ≤ m then m - (s.size : Int) else -1) := by
  unfold laws_szGrid.f
  unfold maxLen at hs
  rw [w64 (by omega) (by omega)]
  by_cases h : (s.size : Int) ≤ m
  · rw [if_neg (by omega), if_pos h]
  · rw [if_pos (by omega), if_neg h]
end Go.Proofs.Ytooofofeihkpcaa.Pure
