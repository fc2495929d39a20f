/- Whether a list holds a number: what the reference answers. -/
import Derived.Test.YtooofofeihkpcaaPb
import Derived.Test.YtooofofeihkpcaaQ4
set_option linter.unusedSimpArgs false
namespace Go.Proofs.Ytooofofeihkpcaa.Pure
open Go.RowKit Go.Proofs.Ytooofofeihkpcaa.Q Go.Proofs.YtooofofeihkpcaaW.PrintWords Go.Proofs.YtooofofeihkpcaaW.PrintLast
theorem has_l0 (l : List Int) (c : Int) (hn : l.length ≤ 9223372036854775807) : ∀ (d i k : Nat), i + d = l.length → d < k → spec_l03Has.l0 k l c (i : Int) = some (decide (c ∈ l.drop i))
  | 0, i, k, hi, hk => by
    obtain ⟨k, rfl⟩ : ∃ m, k = m + 1 := ⟨k - 1, by omega⟩
    simp only [spec_l03Has.l0]
    rw [if_neg (by omega), List.drop_of_length_le (by omega)]
    simp
  | d + 1, i, k, hi, hk => by
    obtain ⟨k, rfl⟩ : ∃ m, k = m + 1 := ⟨k - 1, by omega⟩
    simp only [spec_l03Has.l0]
    rw [if_pos (by omega), if_pos (by omega), rd_get l i (by omega), drop_cons l i (by omega)]
    by_cases e : l[i]'(by omega) = c
    · rw [if_pos e, decide_eq_true (by simp [e])]
    · rw [if_neg e, w64 (by omega) (by omega), show ((i : Int) + 1) = ((i + 1 : Nat) : Int) by omega, has_l0 l c hn d (i + 1) k (by omega) (by omega)]
      congr 1
      exact decide_eq_decide.mpr (by simp only [List.mem_cons, Ne.symm e, false_or])
theorem has_eq (l : List Int) (c : Int) (hn : l.length ≤ 9223372036854775807) (k : Nat) (hk : l.length < k) : spec_l03Has.f k l c = some (decide (c ∈ l)) := by
  have := has_l0 l c hn l.length 0 k (by omega) hk
  simpa [spec_l03Has.f] using this
end Go.Proofs.Ytooofofeihkpcaa.Pure
