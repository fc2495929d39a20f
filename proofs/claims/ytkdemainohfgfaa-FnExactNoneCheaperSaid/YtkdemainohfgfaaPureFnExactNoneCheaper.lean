/- The program's NoneCheaper answers what the reference's answers, for all nets and flows. -/
import Derived.Test.YtkdemainohfgfaaPAllFnExactNoneCheaper
import Derived.Test.YtkdemainohfgfaaQ12
set_option linter.unusedSimpArgs false
namespace Go.Proofs.Ytkdemainohfgfaa.Pure
open Go.RowKit Go.Proofs.Ytkdemainohfgfaa.Q Go.Proofs.YtkdemainohfgfaaW.PrintWords Go.Proofs.YtkdemainohfgfaaW.PrintLast
theorem FnExactNoneCheaper : laws_FnExactNoneCheaper.Pure := by
  intro n l f _ hl _ _ _
  by_cases hf : f.length ≤ 1048576
  · by_cases hz : l.length ≤ 1048576
    · obtain ⟨v, K0, hv, h0⟩ := pricesOf_ev n (l.map toA) f (by simpa using hz)
      obtain ⟨v, ok⟩ := v
      have hS : ∀ k, K0 ≤ k → spec_NoneCheaper.f k n (l.map toA) f = some ok := fun k hk => by unfold spec_NoneCheaper.f; rw [(h0 k hk).1]; rfl
      have hI : ∀ k, K0 ≤ k → impl_NoneCheaper.f k n (l.map toA) f = some ok := fun k hk => by unfold impl_NoneCheaper.f; rw [(h0 k hk).2]; rfl
      clear h0
      obtain ⟨K1, h1⟩ := toIntS_ev f (by omega)
      obtain ⟨K3, h3⟩ := eqIntS_ev f f (by omega)
      have h5 := toNet_ev n l hz
      have h6 : ∀ k, l.length < k → laws_eqNet.f k n (l.map toA) n (l.map toA) = some true := fun k hk => eqNet_ev n (l.map toA) (by simpa using hz) k (by simpa using hk)
      refine ⟨K0 + K1 + K3 + l.length + 5, ?_⟩
      unfold laws_FnExactNoneCheaper.f
      rw [if_neg (by omega), szNet_eq n l hl, if_pos hz, Option.bind_some, if_neg (by omega)]
      simp (disch := omega) only [h5, h1, hS, hI, h3, h6, Option.bind_some, bne_self_eq_false, Bool.false_eq_true, reduceIte, decide_true]
    · refine ⟨0, ?_⟩
      unfold laws_FnExactNoneCheaper.f
      rw [if_neg (by omega), szNet_eq n l hl, if_neg hz, Option.bind_some, if_pos (by decide)]
  · refine ⟨0, ?_⟩
    unfold laws_FnExactNoneCheaper.f
    rw [if_pos (by omega)]
end Go.Proofs.Ytkdemainohfgfaa.Pure
