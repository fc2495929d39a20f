/- The program's PlanFault answers what the reference's answers, for all grids, starts, goals and plans. -/
import Derived.Test.YtdebpmdbeogglaaPAllFnExactPlanFault
import Derived.Test.YtdebpmdbeogglaaQ17
import Derived.Test.YtdebpmdbeogglaaQ8
import Derived.Test.YtdebpmdbeogglaaQ16
set_option linter.unusedSimpArgs false
namespace Go.Proofs.Ytdebpmdbeogglaa.Pure
open Go.RowKit Go.Proofs.Ytdebpmdbeogglaa.Q Go.Proofs.YtdebpmdbeogglaaW.PrintWords Go.Proofs.YtdebpmdbeogglaaW.PrintLast
theorem szWayS_more (l : List WL) (a : Int) (h0 : 0 ≤ a) (ha : a ≤ 1048576) (hn : l.length ≤ 9223372036854775807) (hx : ∀ x ∈ l, x.f0.length ≤ 9223372036854775807) : ∃ v K, (∀ k, K ≤ k → laws_szWayS.f k l a = some v) ∧ (0 ≤ v → SzOk (l.map toW)) := by
  by_cases h : (l.length : Int) ≤ a
  · obtain ⟨v, K, hK, hv⟩ := szWayS_l0 l l.length 0 (a - l.length) (by omega) (by omega) (by omega) (by omega) hx
    refine ⟨v, K, fun k hk => ?_, fun h0 => ?_⟩
    · unfold laws_szWayS.f
      rw [w64 (by omega) (by omega), if_neg (by omega)]
      exact hK k hk
    · have := hv h0
      simp only [List.drop_zero] at this
      unfold SzOk
      simp only [List.length_map]
      omega
  · refine ⟨-1, 0, fun k _ => ?_, fun h => absurd h (by decide)⟩
    unfold laws_szWayS.f
    rw [w64 (by omega) (by omega), if_pos (by omega)]
theorem FnExactPlanFault : laws_FnExactPlanFault.Pure := by
  intro a b s l w sp mv ways _ _ hs _ _ _ _ _ _ hn hx
  by_cases hl : l.length ≤ 1048576
  · by_cases hw : w.length ≤ 1048576
    · by_cases hz : s.size ≤ 1048576
      · obtain ⟨v, K0, h0, hv⟩ := szWayS_more ways (1048576 - (s.size : Int)) (by omega) (by omega) hn (fun x h => (hx x h).1)
        by_cases c : v < 0
        · refine ⟨K0, ?_⟩
          unfold laws_FnExactPlanFault.f
          rw [if_neg (by omega), if_neg (by omega), szGrid_eq a b s hs 1048576 (by omega) (by omega), if_pos (by omega), Option.bind_some, if_neg (by omega)]
          unfold laws_szPlan.f
          rw [h0 K0 (Nat.le_refl _), Option.bind_some, if_pos c, Option.bind_some, if_pos (by decide)]
        · have hW := hv (by omega)
          obtain ⟨K6, h6⟩ := toWayS_ev ways hW
          generalize ways.map toW = L at hW h6
          obtain ⟨K1, h1⟩ := toIntS_ev l (by omega)
          obtain ⟨K2, h2⟩ := toIntS_ev w (by omega)
          obtain ⟨r, K3, h3⟩ := plan_ev a b s hz l w hl hw sp mv L hW
          obtain ⟨K4, h4⟩ := eqIntS_ev l l (by omega)
          obtain ⟨K5, h5⟩ := eqIntS_ev w w (by omega)
          obtain ⟨K7, h7⟩ := eqWayS_ev L hW
          obtain ⟨k, hk⟩ : ∃ k, k = K0 + K1 + K2 + K3 + K4 + K5 + K6 + K7 := ⟨_, rfl⟩
          have e0 := h0 k (by omega)
          have e1 := h1 k (by omega)
          have e2 := h2 k (by omega)
          have e3 := (h3 k (by omega)).1
          have e3' := (h3 k (by omega)).2
          have e4 := h4 k (by omega)
          have e5 := h5 k (by omega)
          have e6 := h6 k (by omega)
          have e7 := h7 k (by omega)
          have ez : laws_szPlan.f k sp mv ways (1048576 - (s.size : Int)) = some v := by
            unfold laws_szPlan.f
            rw [e0, Option.bind_some, if_neg c]
          have et : laws_toPlan.f k sp mv ways = some (sp, mv, L) := by
            unfold laws_toPlan.f
            rw [e6, Option.bind_some]
          have eq : laws_eqPlan.f k sp mv L sp mv L = some true := by
            unfold laws_eqPlan.f
            rw [if_pos rfl, if_pos rfl, e7, Option.bind_some, if_pos rfl]
          refine ⟨k, ?_⟩
          unfold laws_FnExactPlanFault.f
          rw [if_neg (by omega), if_neg (by omega), szGrid_eq a b s hs 1048576 (by omega) (by omega), if_pos (by omega), Option.bind_some, if_neg (by omega), ez, Option.bind_some, if_neg c]
          simp only [laws_toGrid.f, e1, e2, e3, e3', e4, e5, et, eq, Option.bind_some, reduceIte, decide_true]
      · refine ⟨0, ?_⟩
        unfold laws_FnExactPlanFault.f
        rw [if_neg (by omega), if_neg (by omega), szGrid_eq a b s hs 1048576 (by omega) (by omega), if_neg (by omega), Option.bind_some, if_pos (by decide)]
    · refine ⟨0, ?_⟩
      unfold laws_FnExactPlanFault.f
      rw [if_neg (by omega), if_pos (by omega)]
  · refine ⟨0, ?_⟩
    unfold laws_FnExactPlanFault.f
    rw [if_pos (by omega)]
end Go.Proofs.Ytdebpmdbeogglaa.Pure
