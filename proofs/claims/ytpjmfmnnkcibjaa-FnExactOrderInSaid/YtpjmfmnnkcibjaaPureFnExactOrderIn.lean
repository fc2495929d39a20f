/- The program's OrderIn answers what the reference's answers, for every window and every zone; the answer is new memory. -/
import Derived.Test.YtpjmfmnnkcibjaaPw3
import Derived.Test.YtpjmfmnnkcibjaaQ24
set_option linter.unusedSimpArgs false
namespace Go.Proofs.Ytpjmfmnnkcibjaa.Pure
open Go.RowKit Go.Proofs.Ytpjmfmnnkcibjaa.Q Go.Proofs.YtpjmfmnnkcibjaaW.PrintWords Go.Proofs.YtpjmfmnnkcibjaaW.PrintLast
theorem FnExactOrderIn : laws_FnExactOrderIn.Pure := by
  intro a b l z wa wb hn wl wz
  by_cases hl : l.length ≤ 1048576
  · have ht := orderL_length a b l z
    obtain ⟨K1, h1⟩ := toW_ev a b l hl
    obtain ⟨K2, h2⟩ := specOrder_ev a b l z hl
    have h3 := implOrder_eq a b l z hl
    obtain ⟨K4, h4⟩ := eqW_ev a b l a b l hn
    obtain ⟨K5, h5⟩ := eqW_ev a b (orderL a b l z) a b (orderL a b l z) (by omega)
    obtain ⟨K6, h6⟩ := markW_ev a b l 1 hl (by omega) (by omega)
    obtain ⟨K7, h7⟩ := markW_ev a b (orderL a b l z) 1 (by omega) (by omega) (by omega)
    obtain ⟨K8, h8⟩ := heldW_ev a b (orderL a b l z).length 1 (by omega) (by omega) (by omega)
    refine ⟨K1 + K2 + K4 + K5 + K6 + K7 + K8 + 3, ?_⟩
    unfold laws_FnExactOrderIn.f
    have hs : ¬ (1048576 - (l.length : Int)) < 0 := by omega
    have hm : ¬ (1 + (l.length : Int)) < 0 := by omega
    have hq : ¬ (1 + ((orderL a b l z).length : Int)) < 0 := by omega
    simp (disch := omega) only [szW_eq a b l hn, hl, h1, h2, h3, h4, h5, h6, h7, h8, hs, hm, hq, Option.bind_some, reduceIte, and_self, decide_true, Bool.not_true, Bool.false_eq_true, bne_self_eq_false]
    simp only [laws_FnExactOrderIn.j0]
    simp (disch := omega) only [szW_eq a b l hn, hl, h1, h2, h3, h4, h5, h6, h7, h8, hs, hm, hq, Option.bind_some, reduceIte, and_self, decide_true, Bool.not_true, Bool.false_eq_true, bne_self_eq_false]
    simp only [laws_FnExactOrderIn.j1]
    simp (disch := omega) only [szW_eq a b l hn, hl, h1, h2, h3, h4, h5, h6, h7, h8, hs, hm, hq, Option.bind_some, reduceIte, and_self, decide_true, Bool.not_true, Bool.false_eq_true, bne_self_eq_false]
    simp only [laws_FnExactOrderIn.j2]
    simp (disch := omega) only [szW_eq a b l hn, hl, h1, h2, h3, h4, h5, h6, h7, h8, hs, hm, hq, Option.bind_some, reduceIte, and_self, decide_true, Bool.not_true, Bool.false_eq_true, bne_self_eq_false]
  · refine ⟨0, ?_⟩
    unfold laws_FnExactOrderIn.f
    rw [szW_eq a b l hn, Option.bind_some, if_neg hl, if_pos (by omega)]
end Go.Proofs.Ytpjmfmnnkcibjaa.Pure
