/- Plain facts about slices.Index over whole numbers. -/
import Derived.Test.YtooofofeihkpcaaPb
import Derived.Test.YtooofofeihkpcaaQ8
namespace Go.Proofs.Ytooofofeihkpcaa.Pure
open Go.RowKit Go.Proofs.Ytooofofeihkpcaa.Q Go.Proofs.YtooofofeihkpcaaW.PrintWords Go.Proofs.YtooofofeihkpcaaW.PrintLast
/-- The first place of c in a list, told from place i on; -1. -/
def placeFrom (c : Int) : Int → List Int → Int
  | _, [] => -1
  | i, x :: xs => if c = x then i else placeFrom c (i + 1) xs
theorem placeFrom_bound (c : Int) : ∀ (i : Int) (l : List Int), 0 ≤ i → placeFrom c i l = -1 ∨ (i ≤ placeFrom c i l ∧ placeFrom c i l < i + l.length)
  | _, [], _ => .inl rfl
  | i, x :: xs, h => by
    unfold placeFrom
    by_cases e : c = x
    · rw [if_pos e]; right; simp only [List.length_cons]; omega
    · rw [if_neg e]
      rcases placeFrom_bound c (i + 1) xs (by omega) with h1 | h1
      · exact .inl h1
      · right; simp only [List.length_cons]; omega
theorem placeFrom_mem (c : Int) : ∀ (i : Int) (l : List Int), 0 ≤ i → (placeFrom c i l ≥ 0 ↔ c ∈ l)
  | _, [], _ => by simp [placeFrom]
  | i, x :: xs, h => by
    unfold placeFrom
    by_cases e : c = x
    · rw [if_pos e]; simp [e]; omega
    · rw [if_neg e, placeFrom_mem c (i + 1) xs (by omega)]; simp [e]
theorem index_l0 (l : List Int) (c : Int) (hn : l.length ≤ 9223372036854775807) : ∀ (d i k : Nat), i + d = l.length → d < k → slices_Index_int_int.l0 k l c (l.length : Int) (i : Int) = some (placeFrom c i (l.drop i))
  | 0, i, k, hi, hk => by
    obtain ⟨k, rfl⟩ : ∃ m, k = m + 1 := ⟨k - 1, by omega⟩
    simp only [slices_Index_int_int.l0]
    rw [if_neg (by omega), List.drop_of_length_le (by omega)]
    rfl
  | d + 1, i, k, hi, hk => by
    obtain ⟨k, rfl⟩ : ∃ m, k = m + 1 := ⟨k - 1, by omega⟩
    simp only [slices_Index_int_int.l0]
    rw [if_pos (by omega), if_pos (by omega), if_pos (by omega), rd_get l i (by omega), drop_cons l i (by omega), placeFrom]
    by_cases e : c = l[i]'(by omega)
    · rw [if_pos e, if_pos e]
    · rw [if_neg e, if_neg e, w64 (by omega) (by omega), show ((i : Int) + 1) = ((i + 1 : Nat) : Int) by omega, index_l0 l c hn d (i + 1) k (by omega) (by omega)]
theorem index_eq (l : List Int) (c : Int) (hn : l.length ≤ 9223372036854775807) (k : Nat) (hk : l.length < k) : slices_Index_int_int.f k l c = some (placeFrom c 0 l) := by
  have := index_l0 l c hn l.length 0 k (by omega) hk
  simpa [slices_Index_int_int.f] using this
end Go.Proofs.Ytooofofeihkpcaa.Pure
