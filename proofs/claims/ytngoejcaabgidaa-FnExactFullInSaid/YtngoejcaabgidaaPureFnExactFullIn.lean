/- The program's FullIn answers what the reference's answers, for all arguments; the answer is new memory. -/
import Derived.Test.YtngoejcaabgidaaPd2
import Derived.Test.YtngoejcaabgidaaPib
import Derived.Test.YtngoejcaabgidaaQ14
set_option linter.unusedSimpArgs false
namespace Go.Proofs.Ytngoejcaabgidaa.Pure
open Go.RowKit Go.Proofs.Ytngoejcaabgidaa.Q Go.Proofs.YtngoejcaabgidaaW.PrintWords Go.Proofs.YtngoejcaabgidaaW.PrintLast
theorem FnExactFullIn : laws_FnExactFullIn.Pure := by
  intro w r t _ hw8 _ _ hr8 _ _
  by_cases hw : w.length ≤ 1048576
  · by_cases hr : r.length ≤ 1048576
    · have hf : (fullL w r t).length ≤ 16 := fullL_le w r t
      obtain ⟨K1, h1⟩ := toIntS_ev w (by omega)
      obtain ⟨K2, h2⟩ := toIntS_ev r (by omega)
      obtain ⟨K3, h3⟩ := specFull_ev w r t hw hr
      obtain ⟨K4, h4⟩ := implFull_ev w r t hw
      obtain ⟨K5, h5⟩ := eqIntS_ev w w (by omega)
      obtain ⟨K6, h6⟩ := eqIntS_ev r r (by omega)
      obtain ⟨K7, h7⟩ := eqBoolS_ev (fullL w r t) (fullL w r t) (by omega)
      obtain ⟨K8, h8⟩ := markIntS_ev w 1 (by omega) (by omega) (by omega)
      obtain ⟨K9, h9⟩ := markIntS_ev r (1 + w.length) (by omega) (by omega) (by omega)
      obtain ⟨K10, h10⟩ := markBoolS_ev (fullL w r t) 1 (by omega) (by omega) (by omega)
      obtain ⟨K11, h11⟩ := heldBoolS_ev (fullL w r t).length 1 (by omega) (by omega) (by omega)
      refine ⟨K1 + K2 + K3 + K4 + K5 + K6 + K7 + K8 + K9 + K10 + K11 + 1, ?_⟩
      unfold laws_FnExactFullIn.f
      have hs : ¬ (w.length : Int) > 1048576 := by omega
      have hq : ¬ (r.length : Int) > 1048576 := by omega
      have hm : ¬ (1 + (w.length : Int) + (r.length : Int)) < 0 := by omega
      have hm2 : ¬ (1 + ((fullL w r t).length : Int)) < 0 := by omega
      simp (disch := omega) only [h1, h2, h3, h4, h5, h6, h7, h8, h9, h10, h11, hs, hq, hm, hm2, Option.bind_some, reduceIte, and_self, decide_true, Bool.not_true, Bool.false_eq_true, bne_self_eq_false]
      simp only [laws_FnExactFullIn.j0]
      simp (disch := omega) only [h1, h2, h3, h4, h5, h6, h7, h8, h9, h10, h11, hs, hq, hm, hm2, Option.bind_some, reduceIte, and_self, decide_true, Bool.not_true, Bool.false_eq_true, bne_self_eq_false]
    · refine ⟨0, ?_⟩
      unfold laws_FnExactFullIn.f
      rw [if_neg (by omega), if_pos (by omega)]
  · refine ⟨0, ?_⟩
    unfold laws_FnExactFullIn.f
    rw [if_pos (by omega)]
end Go.Proofs.Ytngoejcaabgidaa.Pure
