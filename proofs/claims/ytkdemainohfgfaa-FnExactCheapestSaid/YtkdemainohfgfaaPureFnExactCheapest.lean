/- The program's Cheapest answers what the reference's answers, for all nets and sizes; the answer is new memory. -/
import Derived.Test.YtkdemainohfgfaaPAllFnExactCheapest
import Derived.Test.YtkdemainohfgfaaQ12
set_option linter.unusedSimpArgs false
namespace Go.Proofs.Ytkdemainohfgfaa.Pure
open Go.RowKit Go.Proofs.Ytkdemainohfgfaa.Q Go.Proofs.YtkdemainohfgfaaW.PrintWords Go.Proofs.YtkdemainohfgfaaW.PrintLast
theorem FnExactCheapest : laws_FnExactCheapest.Pure := by
  intro n l sz _ hl _ _
  by_cases hz : l.length ≤ 1048576
  · obtain ⟨⟨v, c, ok⟩, K0, hv, h0⟩ := cheapest_ev n (l.map toA) (by simpa using hz) sz
    simp only at hv
    have hS := fun k hk => (h0 k hk).1
    have hI := fun k hk => (h0 k hk).2
    clear h0
    obtain ⟨K4, h4⟩ := eqIntS_ev v v (by omega)
    have h5 := toNet_ev n l hz
    have h6 : ∀ k, l.length < k → laws_eqNet.f k n (l.map toA) n (l.map toA) = some true := fun k hk => eqNet_ev n (l.map toA) (by simpa using hz) k (by simpa using hk)
    obtain ⟨x, K7, h7⟩ := markNet_ev n (l.map toA) (by simpa using hz)
    rw [List.length_map] at h7
    obtain ⟨K9, h9⟩ := markIntS_ev v 1 (by omega) (by omega) (by omega)
    obtain ⟨K10, h10⟩ := heldIntS_ev v.length 1 (by omega) (by omega) (by omega)
    refine ⟨K0 + K4 + K7 + K9 + K10 + l.length + 5, ?_⟩
    have hm : ¬ (1 + 4 * (l.length : Int)) < 0 := by omega
    have hq : ¬ (1 + (v.length : Int)) < 0 := by omega
    unfold laws_FnExactCheapest.f
    rw [szNet_eq n l hl, if_pos hz, Option.bind_some, if_neg (by omega)]
    simp (disch := omega) only [h5, hS, hI, h4, h6, h7, h9, h10, hm, hq, Option.bind_some, bne_self_eq_false, Bool.false_eq_true, reduceIte, decide_true]
    simp only [laws_FnExactCheapest.j0]
    simp (disch := omega) only [h5, hS, hI, h4, h6, h7, h9, h10, hm, hq, Option.bind_some, bne_self_eq_false, Bool.false_eq_true, reduceIte, decide_true]
    simp only [laws_FnExactCheapest.j1]
    simp (disch := omega) only [h5, hS, hI, h4, h6, h7, h9, h10, hm, hq, Option.bind_some, bne_self_eq_false, Bool.false_eq_true, reduceIte, decide_true]
    simp only [laws_FnExactCheapest.j2]
    simp (disch := omega) only [h5, hS, hI, h4, h6, h7, h9, h10, hm, hq, Option.bind_some, bne_self_eq_false, Bool.false_eq_true, reduceIte, decide_true]
  · refine ⟨0, ?_⟩
    unfold laws_FnExactCheapest.f
    rw [szNet_eq n l hl, if_neg hz, Option.bind_some, if_pos (by decide)]
end Go.Proofs.Ytkdemainohfgfaa.Pure
