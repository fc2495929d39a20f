/- The program's DemandsOf answers what the reference's answers, for every window; the answer is new memory. -/
import Derived.Test.YtpjmfmnnkcibjaaPw2
import Derived.Test.YtpjmfmnnkcibjaaQ6
set_option linter.unusedSimpArgs false
namespace Go.Proofs.Ytpjmfmnnkcibjaa.Pure
open Go.RowKit Go.Proofs.Ytpjmfmnnkcibjaa.Q Go.Proofs.YtpjmfmnnkcibjaaW.PrintWords Go.Proofs.YtpjmfmnnkcibjaaW.PrintLast
theorem FnExactDemandsOf : laws_FnExactDemandsOf.Pure := by
  intro a b l wa wb hn wl
  by_cases hl : l.length ≤ 1048576
  · have hd := demsOf_length a b l
    obtain ⟨K1, h1⟩ := toW_ev a b l hl
    obtain ⟨K2, h2⟩ := specDems_ev a b l hn
    obtain ⟨K3, h3⟩ := implDems_ev a b l
    obtain ⟨K4, h4⟩ := eqW_ev a b l a b l hn
    obtain ⟨K5, h5⟩ := eqIntS_ev (demsOf a b l) (demsOf a b l) (by omega)
    obtain ⟨K6, h6⟩ := markW_ev a b l 1 hl (by omega) (by omega)
    obtain ⟨K7, h7⟩ := markIntS_ev (demsOf a b l) 1 (by omega) (by omega) (by omega)
    obtain ⟨K8, h8⟩ := heldIntS_ev (demsOf a b l).length 1 (by omega) (by omega) (by omega)
    refine ⟨K1 + K2 + K3 + K4 + K5 + K6 + K7 + K8 + 1, ?_⟩
    unfold laws_FnExactDemandsOf.f
    have hs : ¬ (1048576 - (l.length : Int)) < 0 := by omega
    have hm : ¬ (1 + (l.length : Int)) < 0 := by omega
    have hq : ¬ (1 + ((demsOf a b l).length : Int)) < 0 := by omega
    simp (disch := omega) only [szW_eq a b l hn, hl, h1, h2, h3, h4, h5, h6, h7, h8, hs, hm, hq, Option.bind_some, reduceIte, and_self, decide_true, Bool.not_true, Bool.false_eq_true, bne_self_eq_false]
    simp only [laws_FnExactDemandsOf.j0]
    simp (disch := omega) only [szW_eq a b l hn, hl, h1, h2, h3, h4, h5, h6, h7, h8, hs, hm, hq, Option.bind_some, reduceIte, and_self, decide_true, Bool.not_true, Bool.false_eq_true, bne_self_eq_false]
  · refine ⟨0, ?_⟩
    unfold laws_FnExactDemandsOf.f
    rw [szW_eq a b l hn, Option.bind_some, if_neg hl, if_pos (by omega)]
end Go.Proofs.Ytpjmfmnnkcibjaa.Pure
