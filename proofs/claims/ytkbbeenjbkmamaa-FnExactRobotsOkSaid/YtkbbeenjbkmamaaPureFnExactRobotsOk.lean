/- The program's RobotsOk answers what the reference's answers, for all grids and lists of robots; its argument stays. -/
import Derived.Test.YtkbbeenjbkmamaaPAllFnExactRobotsOk
import Derived.Test.YtkbbeenjbkmamaaQ9
set_option linter.unusedSimpArgs false
namespace Go.Proofs.Ytkbbeenjbkmamaa.Pure
open Go.RowKit Go.Proofs.Ytkbbeenjbkmamaa.Q Go.Proofs.YtkbbeenjbkmamaaW.PrintWords Go.Proofs.YtkbbeenjbkmamaaW.PrintLast
theorem szRm_eq (l : List RL) (hn : l.length ≤ 9223372036854775807) (m : Int) (h0 : 0 ≤ m) (hm : m ≤ 1048576) : laws_szRobotS.f l m = some (if (l.length : Int) ≤ m then m - (l.length : Int) else -1) := by
  unfold laws_szRobotS.f
  rw [w64 (by omega) (by omega)]
  by_cases h : (l.length : Int) ≤ m
  · rw [if_neg (by omega), if_pos h]
  · rw [if_pos (by omega), if_neg h]
theorem FnExactRobotsOk : laws_FnExactRobotsOk.Pure := by
  intro a b s l _ _ hs hn hwf
  by_cases hz : s.size ≤ 1048576
  · by_cases hl : (l.length : Int) ≤ 1048576 - (s.size : Int)
    · obtain ⟨K1, h1⟩ := toRobotS_ev l (by omega)
      have hfit : ∀ x ∈ l.map toR, apFits x = true := by
        intro x hx
        obtain ⟨y, hy, rfl⟩ := List.mem_map.mp hx
        have := hwf y hy
        unfold apFits toR
        rw [Bool.and_eq_true]
        exact ⟨this.2.1, this.2.2.1⟩
      obtain ⟨g, K2, h2⟩ := robotsOk_ev a b s hz (l.map toR) hfit
      obtain ⟨K3, h3⟩ := eqRobotS_ev (l.map toR) (by simp; omega)
      have hS := fun k hk => (h2 k hk).1
      have hI := fun k hk => (h2 k hk).2
      refine ⟨K1 + K2 + K3, ?_⟩
      unfold laws_FnExactRobotsOk.f
      rw [szGrid_eq a b s hs 1048576 (by omega) (by omega), if_pos (by omega), Option.bind_some, if_neg (by omega), szRm_eq l hn (1048576 - (s.size : Int)) (by omega) (by omega), Option.bind_some, if_pos hl, if_neg (by omega)]
      simp (disch := omega) only [laws_toGrid.f, h1, hS, hI, h3, Option.bind_some, reduceIte, bne_self_eq_false, Bool.false_eq_true]
    · refine ⟨0, ?_⟩
      unfold laws_FnExactRobotsOk.f
      rw [szGrid_eq a b s hs 1048576 (by omega) (by omega), if_pos (by omega), Option.bind_some, if_neg (by omega), szRm_eq l hn (1048576 - (s.size : Int)) (by omega) (by omega), Option.bind_some, if_neg hl, if_pos (by decide)]
  · refine ⟨0, ?_⟩
    unfold laws_FnExactRobotsOk.f
    rw [szGrid_eq a b s hs 1048576 (by omega) (by omega), if_neg (by omega), Option.bind_some, if_pos (by decide)]
end Go.Proofs.Ytkbbeenjbkmamaa.Pure
