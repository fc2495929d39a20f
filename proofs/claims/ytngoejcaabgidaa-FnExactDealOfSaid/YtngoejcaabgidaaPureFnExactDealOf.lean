/- The program's DealOf answers what the reference's answers, for all arguments; the answer is new memory. -/
import Derived.Test.YtngoejcaabgidaaPd7
import Derived.Test.YtngoejcaabgidaaPim
import Derived.Test.YtngoejcaabgidaaQ21
set_option linter.unusedSimpArgs false
namespace Go.Proofs.Ytngoejcaabgidaa.Pure
open Go.RowKit Go.Proofs.Ytngoejcaabgidaa.Q Go.Proofs.YtngoejcaabgidaaW.PrintWords Go.Proofs.YtngoejcaabgidaaW.PrintLast
theorem FnExactDealOf : laws_FnExactDealOf.Pure := by
  intro w r t _ hw8 _ _ hr8 _ _
  by_cases hw : w.length ≤ 1048576
  · by_cases hr : r.length ≤ 1048576
    · have hf : (dealL w r t).length ≤ 16 := dealL_le w r t
      obtain ⟨K1, h1⟩ := toIntS_ev w (by omega)
      obtain ⟨K2, h2⟩ := toIntS_ev r (by omega)
      obtain ⟨K3, h3⟩ := deal_ev w r t hw hr
      obtain ⟨K5, h5⟩ := eqIntS_ev w w (by omega)
      obtain ⟨K6, h6⟩ := eqIntS_ev r r (by omega)
      obtain ⟨K7, h7⟩ := eqIntS_ev (dealL w r t) (dealL w r t) (by omega)
      obtain ⟨K8, h8⟩ := markIntS_ev w 1 (by omega) (by omega) (by omega)
      obtain ⟨K9, h9⟩ := markIntS_ev r (1 + w.length) (by omega) (by omega) (by omega)
      obtain ⟨K10, h10⟩ := markIntS_ev (dealL w r t) 1 (by omega) (by omega) (by omega)
      obtain ⟨K11, h11⟩ := heldIntS_ev (dealL w r t).length 1 (by omega) (by omega) (by omega)
      have hs := fun k hk => (h3 k hk).1
      have hi := fun k hk => (h3 k hk).2
      refine ⟨K1 + K2 + K3 + K5 + K6 + K7 + K8 + K9 + K10 + K11 + 1, ?_⟩
      have hm : ¬ (1 + (w.length : Int) + (r.length : Int)) < 0 := by omega
      have hq : ¬ (1 + ((dealL w r t).length : Int)) < 0 := by omega
      unfold laws_FnExactDealOf.f
      rw [if_neg (by omega), if_neg (by omega)]
      simp (disch := omega) only [h1, h2, hs, hi, h5, h6, h7, h8, h9, h10, h11, hm, hq, Option.bind_some, reduceIte, and_self, decide_true, Bool.not_true, Bool.false_eq_true, bne_self_eq_false]
      simp only [laws_FnExactDealOf.j0]
      simp (disch := omega) only [h1, h2, hs, hi, h5, h6, h7, h8, h9, h10, h11, hm, hq, Option.bind_some, reduceIte, and_self, decide_true, Bool.not_true, Bool.false_eq_true, bne_self_eq_false]
    · refine ⟨0, ?_⟩
      unfold laws_FnExactDealOf.f
      rw [if_neg (by omega), if_pos (by omega)]
  · refine ⟨0, ?_⟩
    unfold laws_FnExactDealOf.f
    rw [if_pos (by omega)]
end Go.Proofs.Ytngoejcaabgidaa.Pure
