/- The program's WantedOf answers what the reference's answers, for all arguments; the answer is new memory. -/
import Derived.Test.YtannkhefallkhaaPAllFnExactWantedOf
import Derived.Test.YtannkhefallkhaaQ12
set_option linter.unusedSimpArgs false
namespace Go.Proofs.Ytannkhefallkhaa.Pure
open Go.RowKit Go.Proofs.Ytannkhefallkhaa.Q Go.Proofs.YtannkhefallkhaaW.PrintWords Go.Proofs.YtannkhefallkhaaW.PrintLast
theorem FnExactWantedOf : laws_FnExactWantedOf.Pure := by
  intro a b s l w t _ _ hs _ _ _ _ _
  by_cases hl : l.length ≤ 1048576
  · by_cases hw : w.length ≤ 1048576
    · by_cases hz : s.size ≤ 1048576
      · have hr := wantedL_len a b s l w t
        obtain ⟨K1, h1⟩ := toIntS_ev l (by omega)
        obtain ⟨K2, h2⟩ := toIntS_ev w (by omega)
        obtain ⟨K3, h3⟩ := wanted_ev a b s hz l hl w hw t
        obtain ⟨K4, h4⟩ := eqIntS_ev l l (by omega)
        obtain ⟨K5, h5⟩ := eqIntS_ev w w (by omega)
        have hS := fun k hk => (h3 k hk).1
        have hI := fun k hk => (h3 k hk).2
        generalize wantedL a b s l w t = v at *
        obtain ⟨v, ok⟩ := v
        simp only at hr
        obtain ⟨K6, h6⟩ := eqIntS_ev v v (by omega)
        obtain ⟨K7, h7⟩ := markIntS_ev l 1 (by omega) (by omega) (by omega)
        obtain ⟨K8, h8⟩ := markIntS_ev w (1 + l.length) (by omega) (by omega) (by omega)
        obtain ⟨K9, h9⟩ := markIntS_ev v 1 (by omega) (by omega) (by omega)
        obtain ⟨K10, h10⟩ := heldIntS_ev v.length 1 (by omega) (by omega) (by omega)
        refine ⟨K1 + K2 + K3 + K4 + K5 + K6 + K7 + K8 + K9 + K10 + 4, ?_⟩
        have hm : ¬ (1 + (l.length : Int) + (w.length : Int)) < 0 := by omega
        have hq : ¬ (1 + (v.length : Int)) < 0 := by omega
        unfold laws_FnExactWantedOf.f
        rw [if_neg (by omega), if_neg (by omega), szGrid_eq a b s hs 1048576 (by omega) (by omega), if_pos (by omega), Option.bind_some, if_neg (by omega)]
        simp (disch := omega) only [laws_toGrid.f, h1, h2, hS, hI, h4, h5, h6, h7, h8, h9, h10, hm, hq, Option.bind_some, reduceIte, and_self, decide_true, Bool.not_true, Bool.false_eq_true, bne_self_eq_false]
        simp only [laws_FnExactWantedOf.j0]
        simp (disch := omega) only [laws_toGrid.f, h1, h2, hS, hI, h4, h5, h6, h7, h8, h9, h10, hm, hq, Option.bind_some, reduceIte, and_self, decide_true, Bool.not_true, Bool.false_eq_true, bne_self_eq_false]
        simp only [laws_FnExactWantedOf.j1]
        simp (disch := omega) only [laws_toGrid.f, h1, h2, hS, hI, h4, h5, h6, h7, h8, h9, h10, hm, hq, Option.bind_some, reduceIte, and_self, decide_true, Bool.not_true, Bool.false_eq_true, bne_self_eq_false]
        simp only [laws_FnExactWantedOf.j2]
        simp (disch := omega) only [laws_toGrid.f, h1, h2, hS, hI, h4, h5, h6, h7, h8, h9, h10, hm, hq, Option.bind_some, reduceIte, and_self, decide_true, Bool.not_true, Bool.false_eq_true, bne_self_eq_false]
      · refine ⟨0, ?_⟩
        unfold laws_FnExactWantedOf.f
        rw [if_neg (by omega), if_neg (by omega), szGrid_eq a b s hs 1048576 (by omega) (by omega), if_neg (by omega), Option.bind_some, if_pos (by decide)]
    · refine ⟨0, ?_⟩
      unfold laws_FnExactWantedOf.f
      rw [if_neg (by omega), if_pos (by omega)]
  · refine ⟨0, ?_⟩
    unfold laws_FnExactWantedOf.f
    rw [if_pos (by omega)]
end Go.Proofs.Ytannkhefallkhaa.Pure
