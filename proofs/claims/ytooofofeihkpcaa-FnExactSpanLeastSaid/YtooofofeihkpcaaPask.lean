/- Starts and goals: what the program and the reference ask of them. -/
import Derived.Test.YtooofofeihkpcaaPgr
import Derived.Test.YtooofofeihkpcaaQ3
import Derived.Test.YtooofofeihkpcaaQ8
set_option linter.unusedSimpArgs false
namespace Go.Proofs.Ytooofofeihkpcaa.Pure
open Go.RowKit Go.Proofs.Ytooofofeihkpcaa.Q Go.Proofs.YtooofofeihkpcaaW.PrintWords Go.Proofs.YtooofofeihkpcaaW.PrintLast
/-- From place i on the list goes up. -/
def AscFrom (l : List Int) (i : Nat) : Prop := ∀ j : Nat, i ≤ j → j < l.length → 0 < j → rd l ((j : Int) - 1) < rd l (j : Int)
def FrFrom (s : ByteArray) (l : List Int) (i : Nat) : Prop := ∀ j : Nat, i ≤ j → j < l.length → Fr s (rd l (j : Int))
theorem AscFrom_step (l : List Int) (i : Nat) (hi : i < l.length) : AscFrom l i ↔ (0 < i → rd l ((i : Int) - 1) < rd l (i : Int)) ∧ AscFrom l (i + 1) := by
  constructor
  · exact fun h => ⟨h i (Nat.le_refl _) hi, fun j h1 => h j (by omega)⟩
  · rintro ⟨h0, h⟩ j h1 h2 h3
    rcases Nat.eq_or_lt_of_le h1 with e | e
    · subst e; exact h0 h3
    · exact h j e h2 h3
theorem FrFrom_step (s : ByteArray) (l : List Int) (i : Nat) (hi : i < l.length) : FrFrom s l i ↔ Fr s (rd l (i : Int)) ∧ FrFrom s l (i + 1) := by
  constructor
  · exact fun h => ⟨h i (Nat.le_refl _) hi, fun j h1 => h j (by omega)⟩
  · rintro ⟨h0, h⟩ j h1 h2
    rcases Nat.eq_or_lt_of_le h1 with e | e
    · subst e; exact h0
    · exact h j e h2
theorem specCells_l0 (a b : Int) (s : ByteArray) (hs : s.size ≤ 1048576) (hG : Gok a b s) (l : List Int) (hl : l.length ≤ 1048576) : ∀ (d i : Nat), i + d = l.length → ∃ g K, (∀ k, K ≤ k → spec_l10Cells.l0 k l (i : Int) a b s = some g) ∧ (g = true ↔ FrFrom s l i ∧ AscFrom l i)
  | 0, i, hi => by
    refine ⟨true, 1, fun k hk => ?_, ⟨fun _ => ⟨fun j h1 h2 => by omega, fun j h1 h2 => by omega⟩, fun _ => rfl⟩⟩
    obtain ⟨k, rfl⟩ : ∃ m, k = m + 1 := ⟨k - 1, by omega⟩
    simp only [spec_l10Cells.l0]
    rw [if_neg (by omega)]
  | d + 1, i, hi => by
    obtain ⟨g, K, h, hg⟩ := specCells_l0 a b s hs hG l hl d (i + 1) (by omega)
    obtain ⟨q, K1, h1, hq⟩ := specFreeAt_ev a b s hs (rd l (i : Int))
    rw [FrFrom_step s l i (by omega), AscFrom_step l i (by omega)]
    have e9 : wrap64 ((i : Int) + 1) = ((i + 1 : Nat) : Int) := by rw [w64 (by omega) (by omega)]; rfl
    have e8 : wrap64 ((i : Int) - 1) = (i : Int) - 1 := w64 (by omega) (by omega)
    cases q with
    | false =>
      refine ⟨false, K1 + 1, fun k hk => ?_, ⟨fun h => (by cases h), fun h => absurd (hq.mpr ⟨hG, h.1.1⟩) (by decide)⟩⟩
      obtain ⟨k, rfl⟩ : ∃ m, k = m + 1 := ⟨k - 1, by omega⟩
      simp only [spec_l10Cells.l0]
      rw [if_pos (by omega), if_pos (by omega), h1 k (by omega), Option.bind_some, if_neg (by decide)]
    | true =>
      have hfr := (hq.mp rfl).2
      by_cases c : 0 < i
      · by_cases c2 : rd l ((i : Int) - 1) ≥ rd l (i : Int)
        · refine ⟨false, K1 + 1, fun k hk => ?_, ⟨fun h => (by cases h), fun h => absurd (h.2.1 c) (by omega)⟩⟩
          obtain ⟨k, rfl⟩ : ∃ m, k = m + 1 := ⟨k - 1, by omega⟩
          simp only [spec_l10Cells.l0]
          rw [if_pos (by omega), if_pos (by omega), h1 k (by omega), Option.bind_some, if_pos rfl, if_pos (by omega), e8, if_pos (by omega), if_pos (by omega), if_pos c2]
        · refine ⟨g, K1 + K + 1, fun k hk => ?_, by rw [hg]; exact ⟨fun h => ⟨⟨hfr, h.1⟩, ⟨fun _ => by omega, h.2⟩⟩, fun h => ⟨h.1.2, h.2.2⟩⟩⟩
          obtain ⟨k, rfl⟩ : ∃ m, k = m + 1 := ⟨k - 1, by omega⟩
          simp only [spec_l10Cells.l0]
          rw [if_pos (by omega), if_pos (by omega), h1 k (by omega), Option.bind_some, if_pos rfl, if_pos (by omega), e8, if_pos (by omega), if_pos (by omega), if_neg c2, e9]
          exact h k (by omega)
      · refine ⟨g, K1 + K + 1, fun k hk => ?_, by rw [hg]; exact ⟨fun h => ⟨⟨hfr, h.1⟩, ⟨fun h2 => absurd h2 c, h.2⟩⟩, fun h => ⟨h.1.2, h.2.2⟩⟩⟩
        obtain ⟨k, rfl⟩ : ∃ m, k = m + 1 := ⟨k - 1, by omega⟩
        simp only [spec_l10Cells.l0]
        rw [if_pos (by omega), if_pos (by omega), h1 k (by omega), Option.bind_some, if_pos rfl, if_neg (by omega), e9]
        exact h k (by omega)
theorem implAsc_l0 (l : List Int) (hl : l.length ≤ 1048576) : ∀ (d i : Nat), 1 ≤ i → (i + d = l.length ∨ (d = 0 ∧ l.length ≤ i)) → ∃ g K, (∀ k, K ≤ k → impl_isAscending.l0 k l (i : Int) = some g) ∧ (g = true ↔ AscFrom l i)
  | 0, i, h1, hi => by
    refine ⟨true, 1, fun k hk => ?_, ⟨fun _ j h1 h2 => by omega, fun _ => rfl⟩⟩
    obtain ⟨k, rfl⟩ : ∃ m, k = m + 1 := ⟨k - 1, by omega⟩
    simp only [impl_isAscending.l0]
    rw [if_neg (by omega)]
  | d + 1, i, h1, hi => by
    obtain ⟨g, K, h, hg⟩ := implAsc_l0 l hl d (i + 1) (by omega) (by omega)
    rw [AscFrom_step l i (by omega)]
    have e9 : wrap64 ((i : Int) + 1) = ((i + 1 : Nat) : Int) := by rw [w64 (by omega) (by omega)]; rfl
    have e8 : wrap64 ((i : Int) - 1) = (i : Int) - 1 := w64 (by omega) (by omega)
    by_cases c2 : rd l ((i : Int) - 1) ≥ rd l (i : Int)
    · refine ⟨false, 1, fun k hk => ?_, ⟨fun h => (by cases h), fun h => absurd (h.1 (by omega)) (by omega)⟩⟩
      obtain ⟨k, rfl⟩ : ∃ m, k = m + 1 := ⟨k - 1, by omega⟩
      simp only [impl_isAscending.l0]
      rw [if_pos (by omega), e8, if_pos (by omega), if_pos (by omega), if_pos (by omega), if_pos c2]
    · refine ⟨g, K + 1, fun k hk => ?_, by rw [hg]; exact ⟨fun h => ⟨fun _ => by omega, h⟩, fun h => h.2⟩⟩
      obtain ⟨k, rfl⟩ : ∃ m, k = m + 1 := ⟨k - 1, by omega⟩
      simp only [impl_isAscending.l0]
      rw [if_pos (by omega), e8, if_pos (by omega), if_pos (by omega), if_pos (by omega), if_neg c2, e9]
      exact h k (by omega)
theorem AscFrom_one (l : List Int) : AscFrom l 1 ↔ AscFrom l 0 := ⟨fun h j _ h2 h3 => h j (by omega) h2 h3, fun h j _ h2 h3 => h j (by omega) h2 h3⟩
theorem implAsc_ev (l : List Int) (hl : l.length ≤ 1048576) : ∃ g K, (∀ k, K ≤ k → impl_isAscending.f k l = some g) ∧ (g = true ↔ AscFrom l 0) := by
  obtain ⟨D, hD⟩ : ∃ D, 1 + D = l.length ∨ (D = 0 ∧ l.length ≤ 1) := ⟨l.length - 1, by omega⟩
  obtain ⟨g, K, h, hg⟩ := implAsc_l0 l hl D 1 (by omega) hD
  exact ⟨g, K, fun k hk => h k hk, by rw [hg, AscFrom_one]⟩
theorem FrFrom_all (s : ByteArray) (l : List Int) : FrFrom s l 0 ↔ ∀ x ∈ l, Fr s x := by
  constructor
  · intro h x hx
    obtain ⟨i, hi, e⟩ := List.getElem_of_mem hx
    have := h i (Nat.zero_le _) hi
    rwa [rd_get l i hi, e] at this
  · intro h j _ hj
    rw [rd_get l j hj]
    exact h _ (List.getElem_mem _)
theorem areFree_ev (a b : Int) (s : ByteArray) (hs : s.size ≤ 1048576) (l : List Int) : ∃ g K, (∀ k, K ≤ k → impl_areFree.f k a b s l = some g) ∧ (g = true ↔ Gok a b s ∧ FrFrom s l 0) := by
  obtain ⟨q, K, h, hq⟩ := gridOk_ev a b s hs
  cases q with
  | false =>
    refine ⟨false, K, fun k hk => ?_, ⟨fun h => (by cases h), fun h => absurd (hq.mpr h.1) (by decide)⟩⟩
    unfold impl_areFree.f
    rw [(h k hk).2, Option.bind_some, if_neg (by decide)]
  | true =>
    refine ⟨!(l.any (hof_areFree.p s)), K, fun k hk => ?_, ?_⟩
    · unfold impl_areFree.f hof_areFree.f
      rw [(h k hk).2, Option.bind_some, if_pos rfl, Option.bind_some]
    · rw [FrFrom_all, Bool.not_eq_true', List.any_eq_false]
      have hp : ∀ x, ¬ (hof_areFree.p s x = true) ↔ Fr s x := fun x => by
        unfold hof_areFree.p Fr
        simp
      exact ⟨fun h => ⟨hq.mp rfl, fun x hx => (hp x).mp (h x hx)⟩, fun h x hx => (hp x).mpr (h.2 x hx)⟩
end Go.Proofs.Ytooofofeihkpcaa.Pure
