/- The program's SpanSure answers what the reference's answers, for all grids and goals. -/
import Derived.Test.YtooofofeihkpcaaPgz
import Derived.Test.YtooofofeihkpcaaQ11
set_option linter.unusedSimpArgs false
namespace Go.Proofs.Ytooofofeihkpcaa.Pure
open Go.RowKit Go.Proofs.Ytooofofeihkpcaa.Q Go.Proofs.YtooofofeihkpcaaW.PrintWords Go.Proofs.YtooofofeihkpcaaW.PrintLast
theorem FnExactSpanSure : laws_FnExactSpanSure.Pure := by
  intro a b s l _ _ hs hl _
  by_cases hn : l.length ≤ 1048576
  · by_cases hz : s.size ≤ 1048576
    · obtain ⟨K1, h1⟩ := specFree_ev a b s hz
      obtain ⟨K2, h2⟩ := implFree_ev a b s hz
      obtain ⟨K3, h3⟩ := toIntS_ev l (by omega)
      obtain ⟨K4, h4⟩ := eqIntS_ev l l (by omega)
      refine ⟨K1 + K2 + K3 + K4, ?_⟩
      unfold laws_FnExactSpanSure.f
      rw [if_neg (by omega), szGrid_eq a b s hs 1048576 (by omega) (by omega), if_pos (by omega), Option.bind_some, if_neg (by omega)]
      simp (disch := omega) only [laws_toGrid.f, Option.bind_some, h3, spec_SpanSure.f, impl_SpanSure.f, h1, h2]
      by_cases c : ((frees a b s).length : Int) = 0
      · simp (disch := omega) only [c, reduceIte, Option.bind_some, h3, h4, decide_true]
      · simp (disch := omega) only [c, reduceIte, Option.bind_some, h3, h4, decide_true]
    · refine ⟨0, ?_⟩
      unfold laws_FnExactSpanSure.f
      rw [if_neg (by omega), szGrid_eq a b s hs 1048576 (by omega) (by omega), if_neg (by omega), Option.bind_some, if_pos (by decide)]
  · refine ⟨0, ?_⟩
    unfold laws_FnExactSpanSure.f
    rw [if_pos (by omega)]
end Go.Proofs.Ytooofofeihkpcaa.Pure
