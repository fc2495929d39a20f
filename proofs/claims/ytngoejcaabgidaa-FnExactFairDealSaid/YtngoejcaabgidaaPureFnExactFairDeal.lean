/- The program's FairDeal answers what the reference's answers, for all arguments. -/
import Derived.Test.YtngoejcaabgidaaPd3
import Derived.Test.YtngoejcaabgidaaQ17
set_option linter.unusedSimpArgs false
namespace Go.Proofs.Ytngoejcaabgidaa.Pure
open Go.RowKit Go.Proofs.Ytngoejcaabgidaa.Q Go.Proofs.YtngoejcaabgidaaW.PrintWords Go.Proofs.YtngoejcaabgidaaW.PrintLast
theorem FnExactFairDeal : laws_FnExactFairDeal.Pure := by
  intro w r t p _ hw8 _ _ hr8 _ _ _ hp8 _
  by_cases hw : w.length ≤ 1048576
  · by_cases hr : r.length ≤ 1048576
    · by_cases hp : p.length ≤ 1048576
      · obtain ⟨K1, h1⟩ := toIntS_ev w (by omega)
        obtain ⟨K2, h2⟩ := toIntS_ev r (by omega)
        obtain ⟨K3, h3⟩ := toIntS_ev p (by omega)
        obtain ⟨v, K4, h4⟩ := fair_ev w r t p hw hr
        obtain ⟨K5, h5⟩ := eqIntS_ev w w (by omega)
        obtain ⟨K6, h6⟩ := eqIntS_ev r r (by omega)
        obtain ⟨K7, h7⟩ := eqIntS_ev p p (by omega)
        refine ⟨K1 + K2 + K3 + K4 + K5 + K6 + K7 + 1, ?_⟩
        unfold laws_FnExactFairDeal.f
        have hs : ¬ (w.length : Int) > 1048576 := by omega
        have hq : ¬ (r.length : Int) > 1048576 := by omega
        have hu : ¬ (p.length : Int) > 1048576 := by omega
        obtain ⟨h8, h9⟩ := h4 (K1 + K2 + K3 + K4 + K5 + K6 + K7 + 1) (by omega)
        simp (disch := omega) only [h1, h2, h3, h8, h9, h5, h6, h7, hs, hq, hu, Option.bind_some, reduceIte, decide_true, Bool.false_eq_true, bne_self_eq_false]
      · refine ⟨0, ?_⟩
        unfold laws_FnExactFairDeal.f
        rw [if_neg (by omega), if_neg (by omega), if_pos (by omega)]
    · refine ⟨0, ?_⟩
      unfold laws_FnExactFairDeal.f
      rw [if_neg (by omega), if_pos (by omega)]
  · refine ⟨0, ?_⟩
    unfold laws_FnExactFairDeal.f
    rw [if_pos (by omega)]
end Go.Proofs.Ytngoejcaabgidaa.Pure
