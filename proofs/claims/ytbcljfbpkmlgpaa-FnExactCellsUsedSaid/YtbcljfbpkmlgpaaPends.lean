/- The cells that paths use, and those at which they end: what the program and the reference answer. -/
import Derived.Test.YtbcljfbpkmlgpaaPso
import Derived.Test.YtbcljfbpkmlgpaaPim
import Derived.Test.YtbcljfbpkmlgpaaPway
import Derived.Test.YtbcljfbpkmlgpaaQ8
import Derived.Test.YtbcljfbpkmlgpaaQ9
import Derived.Test.YtbcljfbpkmlgpaaQ12
import Derived.Test.YtbcljfbpkmlgpaaQ6
set_option linter.unusedSimpArgs false
namespace Go.Proofs.Ytbcljfbpkmlgpaa.Pure
open Go.RowKit Go.Proofs.Ytbcljfbpkmlgpaa.Q Go.Proofs.YtbcljfbpkmlgpaaW.PrintWords Go.Proofs.YtbcljfbpkmlgpaaW.PrintLast
/-- The last cells. -/
def lasts : List WI → List Int
  | [] => []
  | x :: xs => if (x.f0.length : Int) > 0 then rd x.f0 ((x.f0.length - 1 : Nat) : Int) :: lasts xs else lasts xs
theorem lasts_len : ∀ l : List WI, (lasts l).length ≤ l.length
  | [] => Nat.le_refl _
  | x :: xs => by
    unfold lasts
    have := lasts_len xs
    split <;> simp <;> omega
/-- All cells. -/
def alls : List WI → List Int
  | [] => []
  | x :: xs => x.f0 ++ alls xs
theorem alls_len : ∀ l : List WI, (alls l).length = tot l
  | [] => rfl
  | x :: xs => by simp [alls, tot, alls_len xs]
theorem specEnds_l0 (l : List WI) (hl : SzOk l) : ∀ (d i : Nat) (acc : List Int), i + d = l.length → acc.length ≤ i → ∃ K, ∀ k, K ≤ k → spec_EndsOf.l0 k l acc (i : Int) = some (asc (acc ++ lasts (l.drop i))) ∧ impl_EndsOf.l0 k acc l (l.length : Int) (i : Int) = some (asc (acc ++ lasts (l.drop i)))
  | 0, i, acc, hi, ha => by
    have hn := SzOk_len hl
    obtain ⟨K, h⟩ := specSorted_ev acc (by omega)
    refine ⟨K + 1, fun k hk => ?_⟩
    obtain ⟨k, rfl⟩ : ∃ m, k = m + 1 := ⟨k - 1, by omega⟩
    have h1 : ¬ (i : Int) < (l.length : Int) := by omega
    rw [List.drop_of_length_le (by omega), lasts, List.append_nil, spec_EndsOf.l0, impl_EndsOf.l0, if_neg h1, if_neg h1, h k (by omega), implOrdered_eq acc (by omega)]
    exact ⟨rfl, rfl⟩
  | d + 1, i, acc, hi, ha => by
    have hn := SzOk_len hl
    have hlt : i < l.length := by omega
    have h1 : (i : Int) < (l.length : Int) := by omega
    have h2 : (0 : Int) ≤ i := by omega
    have e9 : wrap64 ((i : Int) + 1) = ((i + 1 : Nat) : Int) := by rw [w64 (by omega) (by omega)]; rfl
    have hw := SzOk_way hl (List.getElem_mem hlt)
    rw [drop_cons l i hlt, lasts]
    by_cases c : ((l[i]).f0.length : Int) > 0
    · have e8 : wrap64 (((l[i]).f0.length : Int) - 1) = (((l[i]).f0.length - 1 : Nat) : Int) := by rw [w64 (by omega) (by omega)]; omega
      have h3 : (0 : Int) ≤ (((l[i]).f0.length - 1 : Nat) : Int) := by omega
      have h4 : (((l[i]).f0.length - 1 : Nat) : Int) < ((l[i]).f0.length : Int) := by omega
      have h5 : acc.length < 17592186044416 := by omega
      obtain ⟨K, h⟩ := specEnds_l0 l hl d (i + 1) (acc ++ [rd (l[i]).f0 (((l[i]).f0.length - 1 : Nat) : Int)]) (by omega) (by simp; omega)
      refine ⟨K + 1, fun k hk => ?_⟩
      obtain ⟨k, rfl⟩ : ∃ m, k = m + 1 := ⟨k - 1, by omega⟩
      obtain ⟨q1, q2⟩ := h k (by omega)
      rw [spec_EndsOf.l0, impl_EndsOf.l0, if_pos h1, if_pos h1, if_pos h2, if_pos h2, if_pos h1, rdWI_get l i hlt, if_pos c, if_pos c, if_pos c, e8, if_pos h3, if_pos h3, if_pos h4, if_pos h4, if_pos h5, if_pos h5, e9, q1, q2, List.append_assoc, List.singleton_append]
      exact ⟨rfl, rfl⟩
    · obtain ⟨K, h⟩ := specEnds_l0 l hl d (i + 1) acc (by omega) (by omega)
      refine ⟨K + 1, fun k hk => ?_⟩
      obtain ⟨k, rfl⟩ : ∃ m, k = m + 1 := ⟨k - 1, by omega⟩
      obtain ⟨q1, q2⟩ := h k (by omega)
      rw [spec_EndsOf.l0, impl_EndsOf.l0, if_pos h1, if_pos h1, if_pos h2, if_pos h2, if_pos h1, rdWI_get l i hlt, if_neg c, if_neg c, if_neg c, e9, q1, q2]
      exact ⟨rfl, rfl⟩
/-- What EndsOf answers. -/
def endsOf (l : List WI) : List Int := asc (lasts l)
theorem ends_ev (l : List WI) (hl : SzOk l) : ∃ K, ∀ k, K ≤ k → spec_EndsOf.f k l = some (endsOf l) ∧ impl_EndsOf.f k l = some (endsOf l) := by
  obtain ⟨K, h⟩ := specEnds_l0 l hl l.length 0 [] (by omega) (Nat.zero_le _)
  refine ⟨K, fun k hk => ?_⟩
  have := h k hk
  rw [List.nil_append, List.drop_zero, show ((0 : Nat) : Int) = 0 from rfl] at this
  exact this
theorem cells_l0 (l : List WI) (hl : SzOk l) : ∀ (d i : Nat) (acc : List Int), i + d = l.length → acc.length + tot (l.drop i) ≤ 1048576 → ∃ K, ∀ k, K ≤ k → spec_CellsUsed.l0 k l acc (i : Int) = some (asc (acc ++ alls (l.drop i))) ∧ impl_CellsUsed.l0 k acc l (l.length : Int) (i : Int) = some (asc (acc ++ alls (l.drop i)))
  | 0, i, acc, hi, ha => by
    have hn := SzOk_len hl
    obtain ⟨K, h⟩ := specSorted_ev acc (by omega)
    refine ⟨K + 1, fun k hk => ?_⟩
    obtain ⟨k, rfl⟩ : ∃ m, k = m + 1 := ⟨k - 1, by omega⟩
    have h1 : ¬ (i : Int) < (l.length : Int) := by omega
    rw [List.drop_of_length_le (by omega), alls, List.append_nil, spec_CellsUsed.l0, impl_CellsUsed.l0, if_neg h1, if_neg h1, h k (by omega), implOrdered_eq acc (by omega)]
    exact ⟨rfl, rfl⟩
  | d + 1, i, acc, hi, ha => by
    have hn := SzOk_len hl
    have hlt : i < l.length := by omega
    have h1 : (i : Int) < (l.length : Int) := by omega
    have h2 : (0 : Int) ≤ i := by omega
    have e9 : wrap64 ((i : Int) + 1) = ((i + 1 : Nat) : Int) := by rw [w64 (by omega) (by omega)]; rfl
    have hw := SzOk_way hl (List.getElem_mem hlt)
    have htd := tot_drop l i hlt
    rw [drop_cons l i hlt, alls]
    have h5 : acc.length + (l[i]).f0.length < 17592186044416 := by omega
    obtain ⟨K, h⟩ := cells_l0 l hl d (i + 1) (acc ++ (l[i]).f0) (by omega) (by simp only [List.length_append]; omega)
    refine ⟨K + 1, fun k hk => ?_⟩
    obtain ⟨k, rfl⟩ : ∃ m, k = m + 1 := ⟨k - 1, by omega⟩
    obtain ⟨q1, q2⟩ := h k (by omega)
    rw [spec_CellsUsed.l0, impl_CellsUsed.l0, if_pos h1, if_pos h1, if_pos h2, if_pos h2, if_pos h1, rdWI_get l i hlt, if_pos h5, if_pos h5, e9, q1, q2, List.append_assoc]
    exact ⟨rfl, rfl⟩
/-- What CellsUsed answers. -/
def cellsOf (l : List WI) : List Int := asc (alls l)
theorem cells_ev (l : List WI) (hl : SzOk l) : ∃ K, ∀ k, K ≤ k → spec_CellsUsed.f k l = some (cellsOf l) ∧ impl_CellsUsed.f k l = some (cellsOf l) := by
  obtain ⟨K, h⟩ := cells_l0 l hl l.length 0 [] (by omega) (by unfold SzOk at hl; rw [List.drop_zero]; simp; omega)
  refine ⟨K, fun k hk => ?_⟩
  have := h k hk
  rw [List.nil_append, List.drop_zero, show ((0 : Nat) : Int) = 0 from rfl] at this
  exact this
theorem waysLen_tot : ∀ l : List WI, waysLen l = tot l
  | [] => rfl
  | x :: xs => by
    have := waysLen_tot xs
    unfold waysLen at this ⊢
    simp only [List.map_cons, List.sum_cons, tot, this]
theorem markWayS_eq (l : List WI) (hl : SzOk l) : laws_markWayS.f l 1 = some (1 + (tot l : Int), waysMark l 1) := by
  unfold laws_markWayS.f
  unfold SzOk at hl
  rw [waysLen_tot, if_pos ⟨by omega, by omega⟩]
end Go.Proofs.Ytbcljfbpkmlgpaa.Pure
