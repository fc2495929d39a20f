/- Starts and goals that may be asked: the program and the reference answer alike. -/
import Derived.Test.YtooofofeihkpcaaPask
import Derived.Test.YtooofofeihkpcaaPgz
import Derived.Test.YtooofofeihkpcaaQ4
import Derived.Test.YtooofofeihkpcaaQ8
set_option linter.unusedSimpArgs false
namespace Go.Proofs.Ytooofofeihkpcaa.Pure
open Go.RowKit Go.Proofs.Ytooofofeihkpcaa.Q Go.Proofs.YtooofofeihkpcaaW.PrintWords Go.Proofs.YtooofofeihkpcaaW.PrintLast
/-- What is asked of starts and goals. -/
def Asked (a b : Int) (s : ByteArray) (l m : List Int) : Prop := Gok a b s ∧ FrFrom s l 0 ∧ FrFrom s m 0 ∧ 1 ≤ l.length ∧ l.length ≤ 10 ∧ AscFrom l 0 ∧ AscFrom m 0 ∧ m.length ≤ l.length
theorem isAsked_ev (a b : Int) (s : ByteArray) (hs : s.size ≤ 1048576) (l m : List Int) (hl : l.length ≤ 1048576) (hm : m.length ≤ 1048576) : ∃ g K, (∀ k, K ≤ k → impl_isAsked.f k a b s l m = some g) ∧ (g = true ↔ Asked a b s l m) := by
  obtain ⟨g1, K1, h1, q1⟩ := areFree_ev a b s hs l
  obtain ⟨g2, K2, h2, q2⟩ := areFree_ev a b s hs m
  obtain ⟨g3, K3, h3, q3⟩ := implAsc_ev l hl
  obtain ⟨g4, K4, h4, q4⟩ := implAsc_ev m hm
  have hj : ∀ k, impl_isAsked.j0 (k + 1) l m true = some false := fun k => by simp only [impl_isAsked.j0, reduceIte]
  by_cases hA : Asked a b s l m
  · obtain ⟨x1, x2, x3, x4, x5, x6, x7, x8⟩ := id hA
    obtain rfl := q1.mpr ⟨x1, x2⟩
    obtain rfl := q2.mpr ⟨x1, x3⟩
    obtain rfl := q3.mpr x6
    obtain rfl := q4.mpr x7
    refine ⟨true, K1 + K2 + K3 + K4 + 1, fun k hk => ?_, ⟨fun _ => hA, fun _ => rfl⟩⟩
    obtain ⟨k, rfl⟩ : ∃ m, k = m + 1 := ⟨k - 1, by omega⟩
    unfold impl_isAsked.f
    rw [h1 (k + 1) (by omega), Option.bind_some, if_pos rfl, h2 (k + 1) (by omega), Option.bind_some, if_pos rfl, if_neg (by omega), decide_eq_false (by omega)]
    simp only [impl_isAsked.j0, Bool.false_eq_true, reduceIte]
    rw [h3 k (by omega), Option.bind_some, if_pos rfl, h4 k (by omega), Option.bind_some, if_pos rfl, decide_eq_true (by omega)]
  · refine ⟨false, K1 + K2 + K3 + K4 + 1, fun k hk => ?_, ⟨fun h => (by cases h), fun h => absurd h hA⟩⟩
    obtain ⟨k, rfl⟩ : ∃ m, k = m + 1 := ⟨k - 1, by omega⟩
    unfold impl_isAsked.f
    rw [h1 (k + 1) (by omega), Option.bind_some]
    cases g1 with
    | false => rw [if_neg (by decide), hj]
    | true =>
      rw [if_pos rfl, h2 (k + 1) (by omega), Option.bind_some]
      cases g2 with
      | false => rw [if_neg (by decide), hj]
      | true =>
        rw [if_pos rfl]
        by_cases c1 : (l.length : Int) < 1
        · rw [if_pos c1, hj]
        · rw [if_neg c1]
          by_cases c2 : (l.length : Int) > 10
          · rw [decide_eq_true c2, hj]
          · rw [decide_eq_false c2]
            simp only [impl_isAsked.j0, Bool.false_eq_true, reduceIte]
            rw [h3 k (by omega), Option.bind_some]
            cases g3 with
            | false => rw [if_neg (by decide)]
            | true =>
              rw [if_pos rfl, h4 k (by omega), Option.bind_some]
              cases g4 with
              | false => rw [if_neg (by decide)]
              | true =>
                rw [if_pos rfl, decide_eq_false]
                intro c3
                exact hA ⟨(q1.mp rfl).1, (q1.mp rfl).2, (q2.mp rfl).2, by omega, by omega, q3.mp rfl, q4.mp rfl, by omega⟩
theorem askOk_ev (a b : Int) (s : ByteArray) (hs : s.size ≤ 1048576) (l m : List Int) (hl : l.length ≤ 1048576) (hm : m.length ≤ 1048576) (t : Int) : ∃ v K, (∀ k, K ≤ k → spec_AskOk.f k a b s l m t = some v ∧ impl_AskOk.f k a b s l m t = some v) ∧ (v = true → Asked a b s l m) := by
  obtain ⟨g, K1, h1, q1⟩ := isAsked_ev a b s hs l m hl hm
  obtain ⟨g0, K0, h0, q0⟩ := gridOk_ev a b s hs
  obtain ⟨K2, h2⟩ := specFree_ev a b s hs
  obtain ⟨K3, h3⟩ := implFree_ev a b s hs
  have hj : ∀ k, spec_AskOk.j0 (k + 1) l m t true a b s = some false := fun k => by simp only [spec_AskOk.j0, reduceIte]
  have himpl : ∀ k, K1 + K3 ≤ k → impl_AskOk.f k a b s l m t = some (decide (g = true ∧ 0 ≤ t ∧ t ≤ 20 ∧ wrap64 (((frees a b s).length : Int) * wrap64 (t + 1)) ≤ 240)) := fun k hk => by
    unfold impl_AskOk.f
    rw [h1 k (by omega), Option.bind_some]
    cases g with
    | false => rw [if_neg (by decide), decide_eq_false (fun h => absurd h.1 (by decide))]
    | true =>
      rw [if_pos rfl]
      by_cases c1 : t ≥ 0
      · by_cases c2 : t ≤ 20
        · rw [if_pos c1, if_pos c2, h3 k (by omega), Option.bind_some]
          congr 1
          exact decide_eq_decide.mpr ⟨fun h => ⟨rfl, c1, c2, h⟩, fun h => h.2.2.2⟩
        · rw [if_pos c1, if_neg c2, decide_eq_false (fun h => c2 h.2.2.1)]
      · rw [if_neg c1, decide_eq_false (fun h => c1 h.2.1)]
  cases g0 with
  | false =>
    have hg : g = false := by
      cases g with
      | false => rfl
      | true => exact absurd (q0.mpr (q1.mp rfl).1) (by decide)
    refine ⟨false, K0 + K1 + K3 + 1, fun k hk => ⟨?_, ?_⟩, fun h => by cases h⟩
    · obtain ⟨k, rfl⟩ : ∃ m, k = m + 1 := ⟨k - 1, by omega⟩
      unfold spec_AskOk.f
      rw [(h0 (k + 1) (by omega)).1, Option.bind_some, if_neg (by decide), hj]
    · rw [himpl k (by omega), hg, decide_eq_false (fun h => absurd h.1 (by decide))]
  | true =>
    have hG := q0.mp rfl
    obtain ⟨c1, K4, h4, q4⟩ := specCells_l0 a b s hs hG l hl l.length 0 (by omega)
    obtain ⟨c2, K5, h5, q5⟩ := specCells_l0 a b s hs hG m hm m.length 0 (by omega)
    refine ⟨_, K0 + K1 + K2 + K3 + K4 + K5 + 1, fun k hk => ⟨?_, himpl k (by omega)⟩, fun h => q1.mp (of_decide_eq_true h).1⟩
    obtain ⟨k, rfl⟩ : ∃ m, k = m + 1 := ⟨k - 1, by omega⟩
    unfold spec_AskOk.f
    rw [(h0 (k + 1) (by omega)).1, Option.bind_some, if_pos rfl, l01In_eq, Option.bind_some]
    by_cases d1 : 1 ≤ (l.length : Int) ∧ (l.length : Int) ≤ 10
    · rw [decide_eq_true d1, if_pos rfl]
      by_cases d2 : (m.length : Int) > (l.length : Int)
      · rw [if_pos d2, hj, decide_eq_false]
        rintro ⟨h, _⟩
        have := (q1.mp h).2.2.2.2.2.2.2
        omega
      · rw [if_neg d2, l01In_eq, Option.bind_some]
        by_cases d3 : 0 ≤ t ∧ t ≤ 20
        · rw [decide_eq_true d3]
          simp only [Bool.not_true, spec_AskOk.j0, Bool.false_eq_true, reduceIte, spec_l10Cells.f]
          have h4' := h4 k (by omega)
          have h5' := h5 k (by omega)
          rw [show ((0 : Nat) : Int) = 0 from rfl] at h4' h5'
          rw [h4', Option.bind_some]
          cases c1 with
          | false =>
            rw [if_neg (by decide), decide_eq_false]
            rintro ⟨h, _⟩
            exact absurd (q4.mpr ⟨(q1.mp h).2.1, (q1.mp h).2.2.2.2.2.1⟩) (by decide)
          | true =>
            rw [if_pos rfl, h5', Option.bind_some]
            cases c2 with
            | false =>
              rw [if_neg (by decide), decide_eq_false]
              rintro ⟨h, _⟩
              exact absurd (q5.mpr ⟨(q1.mp h).2.2.1, (q1.mp h).2.2.2.2.2.2.1⟩) (by decide)
            | true =>
              rw [if_pos rfl, h2 k (by omega), Option.bind_some]
              congr 1
              refine decide_eq_decide.mpr ⟨fun h => ⟨q1.mpr ⟨hG, (q4.mp rfl).1, (q5.mp rfl).1, by omega, by omega, (q4.mp rfl).2, (q5.mp rfl).2, by omega⟩, d3.1, d3.2, h⟩, fun h => h.2.2.2⟩
        · rw [decide_eq_false d3]
          simp only [Bool.not_false]
          rw [hj, decide_eq_false]
          rintro ⟨_, x1, x2, _⟩
          exact d3 ⟨x1, x2⟩
    · rw [decide_eq_false d1, if_neg (by decide), hj, decide_eq_false]
      rintro ⟨h, _⟩
      have x1 := (q1.mp h).2.2.2.1
      have x2 := (q1.mp h).2.2.2.2.1
      exact d1 ⟨by omega, by omega⟩
end Go.Proofs.Ytooofofeihkpcaa.Pure
