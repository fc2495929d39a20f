/- The program's MeetAt answers what the reference's answers, for all ways and times. -/
import Derived.Test.YtbcljfbpkmlgpaaPl
import Derived.Test.YtbcljfbpkmlgpaaQ14
set_option linter.unusedSimpArgs false
namespace Go.Proofs.Ytbcljfbpkmlgpaa.Pure
open Go.RowKit Go.Proofs.Ytbcljfbpkmlgpaa.Q Go.Proofs.YtbcljfbpkmlgpaaW.PrintWords Go.Proofs.YtbcljfbpkmlgpaaW.PrintLast
theorem FnExactMeetAt : laws_FnExactMeetAt.Pure := by
  intro l t hn hw wt
  obtain ⟨s, K0, h0, hs⟩ := szWayS_ev l hn (fun x hx => (hw x hx).1)
  by_cases hsz : s < 0
  · refine ⟨K0, ?_⟩
    unfold laws_FnExactMeetAt.f
    rw [h0 K0 (by omega), Option.bind_some, if_pos hsz]
  · obtain ⟨hl, _⟩ := hs (by omega)
    obtain ⟨K1, h1⟩ := toWayS_ev l hl
    have hev : ∃ v K, ∀ k, K ≤ k → spec_MeetAt.f k (l.map toW) t = some v ∧ impl_MeetAt.f k (l.map toW) t = some v := by obtain ⟨b, K, h, _⟩ := meet_ev _ t hl; exact ⟨b, K, h⟩
    obtain ⟨v, K2, h2⟩ := hev
    obtain ⟨K3, h3⟩ := eqWayS_ev _ hl
    obtain ⟨h4, h5⟩ := h2 (K0 + K1 + K2 + K3) (by omega)
    refine ⟨K0 + K1 + K2 + K3, ?_⟩
    unfold laws_FnExactMeetAt.f
    simp (disch := omega) only [h0, h1, h4, h5, h3, hsz, Option.bind_some, reduceIte, bne_self_eq_false, Bool.false_eq_true]
end Go.Proofs.Ytbcljfbpkmlgpaa.Pure
