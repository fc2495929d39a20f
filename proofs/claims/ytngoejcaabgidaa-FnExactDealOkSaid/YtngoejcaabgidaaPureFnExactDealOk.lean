/- The program's DealOk answers what the reference's answers, for all arguments. -/
import Derived.Test.YtngoejcaabgidaaPd
import Derived.Test.YtngoejcaabgidaaQ7
set_option linter.unusedSimpArgs false
namespace Go.Proofs.Ytngoejcaabgidaa.Pure
open Go.RowKit Go.Proofs.Ytngoejcaabgidaa.Q Go.Proofs.YtngoejcaabgidaaW.PrintWords Go.Proofs.YtngoejcaabgidaaW.PrintLast
theorem FnExactDealOk : laws_FnExactDealOk.Pure := by
  intro w r t _ hw8 _ _ hr8 _ _
  by_cases hw : w.length ≤ 1048576
  · by_cases hr : r.length ≤ 1048576
    · obtain ⟨K1, h1⟩ := toIntS_ev w (by omega)
      obtain ⟨K2, h2⟩ := toIntS_ev r (by omega)
      have h3 := specDealOk_ev w r t hw hr
      have h4 := implDealOk_ev w r t hw
      obtain ⟨K5, h5⟩ := eqIntS_ev w w (by omega)
      obtain ⟨K6, h6⟩ := eqIntS_ev r r (by omega)
      refine ⟨K1 + K2 + K5 + K6 + (w.length + r.length + 2), ?_⟩
      unfold laws_FnExactDealOk.f
      have hs : ¬ (w.length : Int) > 1048576 := by omega
      have hq : ¬ (r.length : Int) > 1048576 := by omega
      simp (disch := omega) only [h1, h2, h3, h4, h5, h6, hs, hq, Option.bind_some, reduceIte, decide_true, bne_self_eq_false, Bool.false_eq_true]
    · refine ⟨0, ?_⟩
      unfold laws_FnExactDealOk.f
      rw [if_neg (by omega), if_pos (by omega)]
  · refine ⟨0, ?_⟩
    unfold laws_FnExactDealOk.f
    rw [if_pos (by omega)]
end Go.Proofs.Ytngoejcaabgidaa.Pure
