/- The program's Crossings answers what the reference's answers, for all ways. -/
import Derived.Test.YtbcljfbpkmlgpaaPcr
import Derived.Test.YtbcljfbpkmlgpaaQ24
set_option linter.unusedSimpArgs false
namespace Go.Proofs.Ytbcljfbpkmlgpaa.Pure
open Go.RowKit Go.Proofs.Ytbcljfbpkmlgpaa.Q Go.Proofs.YtbcljfbpkmlgpaaW.PrintWords Go.Proofs.YtbcljfbpkmlgpaaW.PrintLast
theorem FnExactCrossings : laws_FnExactCrossings.Pure := by
  intro l hn hw
  obtain ⟨s, K0, h0, hs⟩ := szWayS_ev l hn (fun x hx => (hw x hx).1)
  by_cases hsz : s < 0
  · refine ⟨K0, ?_⟩
    unfold laws_FnExactCrossings.f
    rw [h0 K0 (by omega), Option.bind_some, if_pos hsz]
  · obtain ⟨hl, _⟩ := hs (by omega)
    obtain ⟨K1, h1⟩ := toWayS_ev l hl
    obtain ⟨v, K2, h2⟩ := cross_ev _ hl
    obtain ⟨K3, h3⟩ := eqWayS_ev _ hl
    obtain ⟨h4, h5⟩ := h2 (K0 + K1 + K2 + K3) (by omega)
    refine ⟨K0 + K1 + K2 + K3, ?_⟩
    unfold laws_FnExactCrossings.f
    simp (disch := omega) only [h0, h1, h4, h5, h3, hsz, Option.bind_some, reduceIte]
end Go.Proofs.Ytbcljfbpkmlgpaa.Pure
