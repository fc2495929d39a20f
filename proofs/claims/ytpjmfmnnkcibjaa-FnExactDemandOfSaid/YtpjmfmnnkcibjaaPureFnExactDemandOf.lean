/- The program's DemandOf answers what the reference's answers, for every window and every zone. -/
import Derived.Test.YtpjmfmnnkcibjaaPw2
import Derived.Test.YtpjmfmnnkcibjaaQ5
set_option linter.unusedSimpArgs false
namespace Go.Proofs.Ytpjmfmnnkcibjaa.Pure
open Go.RowKit Go.Proofs.Ytpjmfmnnkcibjaa.Q Go.Proofs.YtpjmfmnnkcibjaaW.PrintWords Go.Proofs.YtpjmfmnnkcibjaaW.PrintLast
theorem FnExactDemandOf : laws_FnExactDemandOf.Pure := by
  intro a b l z wa wb hn wl wz
  by_cases hl : l.length ≤ 1048576
  · obtain ⟨K1, h1⟩ := toW_ev a b l hl
    obtain ⟨K2, h2⟩ := specDem_ev a b l hn
    obtain ⟨K3, h3⟩ := implDem_ev a b l
    obtain ⟨K4, h4⟩ := eqW_ev a b l a b l hn
    refine ⟨K1 + K2 + K3 + K4, ?_⟩
    unfold laws_FnExactDemandOf.f
    have hs : ¬ (1048576 - (l.length : Int)) < 0 := by omega
    simp (disch := omega) only [szW_eq a b l hn, hl, h1, h2, h3, h4, hs, Option.bind_some, reduceIte, and_self, decide_true, Bool.not_true, Bool.false_eq_true, bne_self_eq_false]
  · refine ⟨0, ?_⟩
    unfold laws_FnExactDemandOf.f
    rw [szW_eq a b l hn, Option.bind_some, if_neg hl, if_pos (by omega)]
end Go.Proofs.Ytpjmfmnnkcibjaa.Pure
