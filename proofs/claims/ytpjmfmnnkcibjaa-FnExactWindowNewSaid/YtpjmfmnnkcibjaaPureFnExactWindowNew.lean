/- The program's WindowNew answers what the reference's answers, for all numbers: a new window of zeros, or none. -/
import Derived.Test.YtpjmfmnnkcibjaaPw
import Derived.Test.YtpjmfmnnkcibjaaQ2
namespace Go.Proofs.Ytpjmfmnnkcibjaa.Pure
open Go.RowKit Go.Proofs.Ytpjmfmnnkcibjaa.Q Go.Proofs.YtpjmfmnnkcibjaaW.PrintWords Go.Proofs.YtpjmfmnnkcibjaaW.PrintLast
theorem new_same (a b : Int) : spec_WindowNew.f a b = impl_WindowNew.f a b := by
  unfold spec_WindowNew.f impl_WindowNew.f
  rw [l01In_eq, Option.bind_some]
  by_cases h1 : 1 ≤ a ∧ a ≤ 8
  · rw [decide_eq_true h1, l01In_eq, Option.bind_some, if_neg (show ¬ a < 1 by omega), if_neg (show ¬ a > 8 by omega)]
    by_cases h2 : 1 ≤ b ∧ b ≤ 100
    · rw [decide_eq_true h2, if_neg (show ¬ b < 1 by omega), if_neg (show ¬ b > 100 by omega)]
      rfl
    · rw [decide_eq_false h2]
      by_cases h3 : b < 1
      · rw [if_pos h3]; rfl
      · rw [if_neg h3, if_pos (show b > 100 by omega)]; rfl
  · rw [decide_eq_false h1]
    by_cases h3 : a < 1
    · rw [if_pos h3]; rfl
    · rw [if_neg h3, if_pos (show a > 8 by omega)]; rfl
theorem new_some (a b : Int) : ∃ x y l r, impl_WindowNew.f a b = some (x, y, l, r) ∧ l.length ≤ 48 := by
  unfold impl_WindowNew.f
  by_cases h1 : a < 1
  · rw [if_pos h1]; exact ⟨_, _, _, _, rfl, by simp⟩
  · rw [if_neg h1]
    by_cases h2 : a > 8
    · rw [if_pos h2]; exact ⟨_, _, _, _, rfl, by simp⟩
    · rw [if_neg h2]
      by_cases h3 : b < 1
      · rw [if_pos h3]; exact ⟨_, _, _, _, rfl, by simp⟩
      · rw [if_neg h3]
        by_cases h4 : b > 100
        · rw [if_pos h4]; exact ⟨_, _, _, _, rfl, by simp⟩
        · rw [if_neg h4, w64 (by omega) (by omega), if_pos (by omega), if_pos (by omega)]
          exact ⟨_, _, _, _, rfl, by simp; omega⟩
theorem FnExactWindowNew : laws_FnExactWindowNew.Pure := by
  intro a b wa wb
  obtain ⟨x, y, l, r, h, hl⟩ := new_some a b
  obtain ⟨K1, h1⟩ := eqW_ev x y l x y l (by omega)
  obtain ⟨K2, h2⟩ := markW_ev x y l 1 (by omega) (by omega) (by omega)
  obtain ⟨K3, h3⟩ := heldW_ev x y l.length 1 (by omega) (by omega) (by omega)
  refine ⟨K1 + K2 + K3 + 2, ?_⟩
  unfold laws_FnExactWindowNew.f
  rw [new_same, h]
  simp only [Option.bind_some]
  rw [h1 _ (by omega)]
  simp only [and_self, decide_true, Option.bind_some, if_true, laws_FnExactWindowNew.j0]
  rw [if_neg (by simp), h2 _ (by omega)]
  simp only [Option.bind_some]
  rw [h3 _ (by omega)]
  simp only [Option.bind_some]
  rw [if_neg (by omega)]
  simp only [if_true]
  rw [h]
  simp only [Option.bind_some]
  rw [h1 _ (by omega)]
  simp only [and_self, decide_true, Option.bind_some, if_true, laws_FnExactWindowNew.j1]
  rw [if_neg (by simp), h3 _ (by omega)]
  simp only [Option.bind_some]
  rw [if_neg (by omega)]
  simp
end Go.Proofs.Ytpjmfmnnkcibjaa.Pure
