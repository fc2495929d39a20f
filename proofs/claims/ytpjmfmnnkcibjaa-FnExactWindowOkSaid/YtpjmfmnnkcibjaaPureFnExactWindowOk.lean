/- The program's WindowOk answers what the reference's answers, for every window: the bounds of the fields, the length of the counts, each count. -/
import Derived.Test.YtpjmfmnnkcibjaaPw
import Derived.Test.YtpjmfmnnkcibjaaQ4
namespace Go.Proofs.Ytpjmfmnnkcibjaa.Pure
open Go.RowKit Go.Proofs.Ytpjmfmnnkcibjaa.Q Go.Proofs.YtpjmfmnnkcibjaaW.PrintWords Go.Proofs.YtpjmfmnnkcibjaaW.PrintLast
theorem FnExactWindowOk : laws_FnExactWindowOk.Pure := by
  intro a b l wa wb hn wl
  by_cases hl : l.length ≤ 1048576
  · obtain ⟨K1, h1⟩ := toW_ev a b l hl
    obtain ⟨K2, h2⟩ := specOk_ev a b l hn
    obtain ⟨K3, h3⟩ := eqW_ev a b l a b l hn
    refine ⟨K1 + K2 + K3, ?_⟩
    have h1 := h1 (K1 + K2 + K3) (by omega)
    have h2 := h2 (K1 + K2 + K3) (by omega)
    have h3 := h3 (K1 + K2 + K3) (by omega)
    unfold laws_FnExactWindowOk.f
    rw [szW_eq a b l hn, Option.bind_some, if_pos hl, if_neg (by omega), h1]
    simp only [Option.bind_some]
    rw [h2]
    simp only [Option.bind_some]
    rw [implOk_eq]
    simp only [Option.bind_some]
    rw [if_neg (by simp), h3]
    simp
  · refine ⟨0, ?_⟩
    unfold laws_FnExactWindowOk.f
    rw [szW_eq a b l hn, Option.bind_some, if_neg hl, if_pos (by omega)]
end Go.Proofs.Ytpjmfmnnkcibjaa.Pure
