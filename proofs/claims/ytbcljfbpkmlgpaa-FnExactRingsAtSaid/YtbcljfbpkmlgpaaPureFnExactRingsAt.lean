/- The program's RingsAt answers what the reference's answers, for all ways and times. -/
import Derived.Test.YtbcljfbpkmlgpaaPg
import Derived.Test.YtbcljfbpkmlgpaaQ20
set_option linter.unusedSimpArgs false
namespace Go.Proofs.Ytbcljfbpkmlgpaa.Pure
open Go.RowKit Go.Proofs.Ytbcljfbpkmlgpaa.Q Go.Proofs.YtbcljfbpkmlgpaaW.PrintWords Go.Proofs.YtbcljfbpkmlgpaaW.PrintLast
theorem FnExactRingsAt : laws_FnExactRingsAt.Pure := by
  intro l t hn hw wt
  obtain ⟨s, K0, h0, hs⟩ := szWayS_ev l hn (fun x hx => (hw x hx).1)
  by_cases hsz : s < 0
  · refine ⟨K0, ?_⟩
    unfold laws_FnExactRingsAt.f
    rw [h0 K0 (by omega), Option.bind_some, if_pos hsz]
  · obtain ⟨hl, _⟩ := hs (by omega)
    obtain ⟨K1, h1⟩ := toWayS_ev l hl
    have hev : ∃ v K, ∀ k, K ≤ k → spec_RingsAt.f k (l.map toW) t = some v ∧ impl_RingsAt.f k (l.map toW) t = some v := rings_ev _ t hl
    obtain ⟨v, K2, h2⟩ := hev
    obtain ⟨K3, h3⟩ := eqWayS_ev _ hl
    obtain ⟨h4, h5⟩ := h2 (K0 + K1 + K2 + K3) (by omega)
    refine ⟨K0 + K1 + K2 + K3, ?_⟩
    unfold laws_FnExactRingsAt.f
    simp (disch := omega) only [h0, h1, h4, h5, h3, hsz, Option.bind_some, reduceIte, bne_self_eq_false, Bool.false_eq_true]
end Go.Proofs.Ytbcljfbpkmlgpaa.Pure
