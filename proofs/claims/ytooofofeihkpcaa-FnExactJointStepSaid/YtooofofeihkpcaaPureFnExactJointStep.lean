/- The program's JointStep answers what the reference's answers, for all grids and stands. -/
import Derived.Test.YtooofofeihkpcaaPAllFnExactJointStep
import Derived.Test.YtooofofeihkpcaaQ11
set_option linter.unusedSimpArgs false
namespace Go.Proofs.Ytooofofeihkpcaa.Pure
open Go.RowKit Go.Proofs.Ytooofofeihkpcaa.Q Go.Proofs.YtooofofeihkpcaaW.PrintWords Go.Proofs.YtooofofeihkpcaaW.PrintLast
theorem FnExactJointStep : laws_FnExactJointStep.Pure := by
  intro a b s l w _ _ hs _ _ _ _
  by_cases hl : l.length ≤ 1048576
  · by_cases hw : w.length ≤ 1048576
    · by_cases hz : s.size ≤ 1048576
      · obtain ⟨K1, h1⟩ := toIntS_ev l (by omega)
        obtain ⟨K2, h2⟩ := toIntS_ev w (by omega)
        obtain ⟨v, K3, h3⟩ := jointStep_ev a b s hz l w hl hw
        obtain ⟨K4, h4⟩ := eqIntS_ev l l (by omega)
        obtain ⟨K5, h5⟩ := eqIntS_ev w w (by omega)
        have hS := fun k hk => (h3 k hk).1
        have hI := fun k hk => (h3 k hk).2
        refine ⟨K1 + K2 + K3 + K4 + K5 + 4, ?_⟩
        unfold laws_FnExactJointStep.f
        rw [if_neg (by omega), if_neg (by omega), szGrid_eq a b s hs 1048576 (by omega) (by omega), if_pos (by omega), Option.bind_some, if_neg (by omega)]
        simp (disch := omega) only [laws_toGrid.f, h1, h2, hS, hI, h4, h5, Option.bind_some, reduceIte, and_self, decide_true, Bool.not_true, Bool.false_eq_true, bne_self_eq_false]
      · refine ⟨0, ?_⟩
        unfold laws_FnExactJointStep.f
        rw [if_neg (by omega), if_neg (by omega), szGrid_eq a b s hs 1048576 (by omega) (by omega), if_neg (by omega), Option.bind_some, if_pos (by decide)]
    · refine ⟨0, ?_⟩
      unfold laws_FnExactJointStep.f
      rw [if_neg (by omega), if_pos (by omega)]
  · refine ⟨0, ?_⟩
    unfold laws_FnExactJointStep.f
    rw [if_pos (by omega)]
end Go.Proofs.Ytooofofeihkpcaa.Pure
