/- The program's AskFault answers what the reference's answers, for all grids, starts, goals and horizons. -/
import Derived.Test.YtmdkfmbgddhjcaaPAllFnExactAskFault
import Derived.Test.YtmdkfmbgddhjcaaQ15
import Derived.Test.YtmdkfmbgddhjcaaQ8
import Derived.Test.YtmdkfmbgddhjcaaQ14
set_option linter.unusedSimpArgs false
namespace Go.Proofs.Ytmdkfmbgddhjcaa.Pure
open Go.RowKit Go.Proofs.Ytmdkfmbgddhjcaa.Q Go.Proofs.YtmdkfmbgddhjcaaW.PrintWords Go.Proofs.YtmdkfmbgddhjcaaW.PrintLast
theorem askFault_ev (a b : Int) (s : ByteArray) (hs : s.size ≤ 1048576) (l m : List Int) (hl : l.length ≤ 1048576) (hm : m.length ≤ 1048576) (t : Int) : ∃ (v : Int) (K : Nat), ∀ k, K ≤ k → spec_AskFault.f k a b s l m t = some v ∧ impl_AskFault.f k a b s l m t = some v := by
  obtain ⟨ga, K0, h0, qa⟩ := isAsked_ev a b s hs l m hl hm
  obtain ⟨g, K1, h1, hg⟩ := gridOk_ev a b s hs
  have jS : ∀ k, spec_AskFault.j0 (k + 1) l m t true a b s = some 1 := fun k => by rw [spec_AskFault.j0, if_pos rfl]
  have jI : ∀ k, impl_AskFault.j0 (k + 1) l m t true a b s = some 1 := fun k => by rw [impl_AskFault.j0, if_pos rfl]
  -- the program, where the question is bad
  have badI : ¬ (Asked a b s l m ∧ 0 ≤ t ∧ t ≤ 20) → ∀ k, K0 + 1 ≤ k → impl_AskFault.f k a b s l m t = some 1 := fun hb k hk => by
    obtain ⟨k, rfl⟩ : ∃ m, k = m + 1 := ⟨k - 1, by omega⟩
    unfold impl_AskFault.f
    rw [h0 _ (by omega), Option.bind_some]
    cases ga with
    | false => rw [if_neg (by decide)]; exact jI k
    | true =>
      rw [if_pos rfl]
      by_cases c : t < 0
      · rw [if_pos c]; exact jI k
      · rw [if_neg c, decide_eq_true (Int.not_le.mp (fun h => hb ⟨qa.mp rfl, by omega, h⟩))]; exact jI k
  by_cases hG : Gok a b s
  · obtain rfl := hg.mpr hG
    obtain ⟨g1, K2, h2, hg1⟩ := specCells_l0 a b s hs hG l hl l.length 0 (by omega)
    obtain ⟨g2, K3, h3, hg2⟩ := specCells_l0 a b s hs hG m hm m.length 0 (by omega)
    rw [show ((0 : Nat) : Int) = 0 from rfl] at h2 h3
    by_cases c1 : 1 ≤ l.length ∧ l.length ≤ 10
    · have d1 : (1 : Int) ≤ (l.length : Int) ∧ (l.length : Int) ≤ 10 := by omega
      by_cases c2 : m.length ≤ l.length
      · by_cases c3 : 0 ≤ t ∧ t ≤ 20
        · by_cases c4 : g1 = true
          · by_cases c5 : g2 = true
            · subst c4
              subst c5
              obtain ⟨hf1, ha1⟩ := hg1.mp rfl
              obtain ⟨hf2, ha2⟩ := hg2.mp rfl
              have hA : Asked a b s l m := ⟨hG, hf1, hf2, c1.1, c1.2, ha1, ha2, c2⟩
              obtain rfl := qa.mpr hA
              obtain ⟨K4, h4⟩ := specFree_ev a b s hs
              obtain ⟨K5, h5⟩ := implFree_ev a b s hs
              obtain ⟨e, K6, h6⟩ := enough_ev a b s hs hG l m hl hm hf1 hf2
              refine ⟨if (wrap64 (((frees a b s).length : Int) * (wrap64 (t + 1)))) > 240 then 2 else if e = true then 0 else 3, K0 + K1 + K2 + K3 + K4 + K5 + K6 + 2, fun k hk => ?_⟩
              obtain ⟨k, rfl⟩ : ∃ m, k = m + 1 := ⟨k - 1, by omega⟩
              have hml : ¬ (m.length : Int) > (l.length : Int) := by omega
              have ht0 : ¬ t < 0 := by omega
              have ht1 : decide (t > 20) = false := decide_eq_false (by omega)
              have a1 := (h1 (k + 1) (by omega)).1
              have a2 := h2 (k + 1) (by omega)
              have a3 := h3 (k + 1) (by omega)
              have a0 := h0 (k + 1) (by omega)
              have a4 := h4 k (by omega)
              have a5 := h5 k (by omega)
              obtain ⟨a6, a7⟩ := h6 k (by omega)
              have hff : ¬ (false = true) := by decide
              constructor
              · unfold spec_AskFault.f
                rw [a1, Option.bind_some, if_pos rfl, l01In_eq, Option.bind_some, decide_eq_true d1, if_pos rfl, if_neg hml, l01In_eq, Option.bind_some, decide_eq_true c3, if_pos rfl]
                unfold spec_l10Cells.f
                rw [a2, Option.bind_some, if_pos rfl, a3, Option.bind_some, Bool.not_true, spec_AskFault.j0, if_neg hff, a4, Option.bind_some, a6, Option.bind_some]
                split
                · rfl
                · split <;> rfl
              · unfold impl_AskFault.f
                rw [a0, Option.bind_some, if_pos rfl, if_neg ht0, ht1, impl_AskFault.j0, if_neg hff, a5, Option.bind_some, a7, Option.bind_some]
                split
                · rfl
                · split <;> rfl
            · refine ⟨1, K0 + K1 + K2 + K3 + 2, fun k hk => ⟨?_, badI (fun h => c5 (hg2.mpr ⟨h.1.2.2.1, h.1.2.2.2.2.2.2.1⟩)) k (by omega)⟩⟩
              obtain ⟨k, rfl⟩ : ∃ m, k = m + 1 := ⟨k - 1, by omega⟩
              have c5' : g2 = false := by simpa using c5
              unfold spec_AskFault.f
              rw [(h1 _ (by omega)).1, Option.bind_some, if_pos rfl, l01In_eq, Option.bind_some, decide_eq_true d1, if_pos rfl, if_neg (by omega), l01In_eq, Option.bind_some, decide_eq_true c3, if_pos rfl]
              unfold spec_l10Cells.f
              rw [h2 _ (by omega), Option.bind_some, if_pos c4, h3 _ (by omega), Option.bind_some, c5']
              exact jS k
          · refine ⟨1, K0 + K1 + K2 + 2, fun k hk => ⟨?_, badI (fun h => c4 (hg1.mpr ⟨h.1.2.1, h.1.2.2.2.2.2.1⟩)) k (by omega)⟩⟩
            obtain ⟨k, rfl⟩ : ∃ m, k = m + 1 := ⟨k - 1, by omega⟩
            unfold spec_AskFault.f
            rw [(h1 _ (by omega)).1, Option.bind_some, if_pos rfl, l01In_eq, Option.bind_some, decide_eq_true d1, if_pos rfl, if_neg (by omega), l01In_eq, Option.bind_some, decide_eq_true c3, if_pos rfl]
            unfold spec_l10Cells.f
            rw [h2 _ (by omega), Option.bind_some, if_neg c4]
            exact jS k
        · refine ⟨1, K0 + K1 + 2, fun k hk => ⟨?_, badI (fun h => c3 h.2) k (by omega)⟩⟩
          obtain ⟨k, rfl⟩ : ∃ m, k = m + 1 := ⟨k - 1, by omega⟩
          unfold spec_AskFault.f
          rw [(h1 _ (by omega)).1, Option.bind_some, if_pos rfl, l01In_eq, Option.bind_some, decide_eq_true d1, if_pos rfl, if_neg (by omega), l01In_eq, Option.bind_some, decide_eq_false c3, if_neg (by decide)]
          exact jS k
      · refine ⟨1, K0 + K1 + 2, fun k hk => ⟨?_, badI (fun h => c2 h.1.2.2.2.2.2.2.2) k (by omega)⟩⟩
        obtain ⟨k, rfl⟩ : ∃ m, k = m + 1 := ⟨k - 1, by omega⟩
        unfold spec_AskFault.f
        rw [(h1 _ (by omega)).1, Option.bind_some, if_pos rfl, l01In_eq, Option.bind_some, decide_eq_true d1, if_pos rfl, if_pos (by omega)]
        exact jS k
    · have d1 : ¬ ((1 : Int) ≤ (l.length : Int) ∧ (l.length : Int) ≤ 10) := by omega
      refine ⟨1, K0 + K1 + 2, fun k hk => ⟨?_, badI (fun h => c1 ⟨h.1.2.2.2.1, h.1.2.2.2.2.1⟩) k (by omega)⟩⟩
      obtain ⟨k, rfl⟩ : ∃ m, k = m + 1 := ⟨k - 1, by omega⟩
      unfold spec_AskFault.f
      rw [(h1 _ (by omega)).1, Option.bind_some, if_pos rfl, l01In_eq, Option.bind_some, decide_eq_false d1, if_neg (by decide)]
      exact jS k
  · have hgf : g = false := by
      cases g with
      | false => rfl
      | true => exact absurd (hg.mp rfl) hG
    subst hgf
    refine ⟨1, K0 + K1 + 2, fun k hk => ⟨?_, badI (fun h => hG h.1.1) k (by omega)⟩⟩
    obtain ⟨k, rfl⟩ : ∃ m, k = m + 1 := ⟨k - 1, by omega⟩
    unfold spec_AskFault.f
    rw [(h1 _ (by omega)).1, Option.bind_some, if_neg (by decide)]
    exact jS k
theorem FnExactAskFault : laws_FnExactAskFault.Pure := by
  intro a b s l w t _ _ hs _ _ _ _ _
  by_cases hl : l.length ≤ 1048576
  · by_cases hw : w.length ≤ 1048576
    · by_cases hz : s.size ≤ 1048576
      · obtain ⟨K1, h1⟩ := toIntS_ev l (by omega)
        obtain ⟨K2, h2⟩ := toIntS_ev w (by omega)
        obtain ⟨v, K3, h3⟩ := askFault_ev a b s hz l w hl hw t
        obtain ⟨K4, h4⟩ := eqIntS_ev l l (by omega)
        obtain ⟨K5, h5⟩ := eqIntS_ev w w (by omega)
        have hS := fun k hk => (h3 k hk).1
        have hI := fun k hk => (h3 k hk).2
        refine ⟨K1 + K2 + K3 + K4 + K5 + 4, ?_⟩
        unfold laws_FnExactAskFault.f
        rw [if_neg (by omega), if_neg (by omega), szGrid_eq a b s hs 1048576 (by omega) (by omega), if_pos (by omega), Option.bind_some, if_neg (by omega)]
        simp (disch := omega) only [laws_toGrid.f, h1, h2, hS, hI, h4, h5, Option.bind_some, reduceIte, and_self, decide_true, Bool.not_true, Bool.false_eq_true, bne_self_eq_false]
      · refine ⟨0, ?_⟩
        unfold laws_FnExactAskFault.f
        rw [if_neg (by omega), if_neg (by omega), szGrid_eq a b s hs 1048576 (by omega) (by omega), if_neg (by omega), Option.bind_some, if_pos (by decide)]
    · refine ⟨0, ?_⟩
      unfold laws_FnExactAskFault.f
      rw [if_neg (by omega), if_pos (by omega)]
  · refine ⟨0, ?_⟩
    unfold laws_FnExactAskFault.f
    rw [if_pos (by omega)]
end Go.Proofs.Ytmdkfmbgddhjcaa.Pure
