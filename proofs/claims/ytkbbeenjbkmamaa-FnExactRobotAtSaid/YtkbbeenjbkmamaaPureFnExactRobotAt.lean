/- The program's RobotAt answers what the reference's answers, for every list of robots and every number: the place of the first robot of that number, or -1. -/
import Derived.Test.YtkbbeenjbkmamaaPr
import Derived.Test.YtkbbeenjbkmamaaQ4
set_option linter.unusedSimpArgs false
namespace Go.Proofs.Ytkbbeenjbkmamaa.Pure
open Go.RowKit Go.Proofs.Ytkbbeenjbkmamaa.Q Go.Proofs.YtkbbeenjbkmamaaW.PrintWords Go.Proofs.YtkbbeenjbkmamaaW.PrintLast
theorem specRobotAt_l0 (l : List RI) (id : Int) (hn : l.length ≤ 9223372036854775807) : ∀ (d i k : Nat), i + d = l.length → d < k →
    spec_RobotAt.l0 k l id (i : Int) = some (if findI (hof_RobotAt.p id) (l.drop i) < 0 then -1 else findI (hof_RobotAt.p id) (l.drop i) + i)
  | 0, i, k, hi, hk => by
    obtain ⟨k, rfl⟩ : ∃ m, k = m + 1 := ⟨k - 1, by omega⟩
    simp only [spec_RobotAt.l0]
    rw [if_neg (by omega), List.drop_of_length_le (by omega)]
    rfl
  | d + 1, i, k, hi, hk => by
    obtain ⟨k, rfl⟩ : ∃ m, k = m + 1 := ⟨k - 1, by omega⟩
    simp only [spec_RobotAt.l0]
    rw [if_pos (by omega), if_pos (by omega), rdI_get l i (by omega), drop_cons l i (by omega), findI, show hof_RobotAt.p id (l[i]'(by omega)) = decide ((l[i]'(by omega)).f0 = id) from rfl]
    by_cases e : (l[i]'(by omega)).f0 = id
    · rw [if_pos e, decide_eq_true e, if_pos rfl, if_neg (by omega)]
      congr 1; omega
    · rw [if_neg e, decide_eq_false e, if_neg (show ¬ (false = true) by decide), w64 (by omega) (by omega), show ((i : Int) + 1) = ((i + 1 : Nat) : Int) by omega, specRobotAt_l0 l id hn d (i + 1) k (by omega) (by omega)]
      generalize findI (hof_RobotAt.p id) (l.drop (i + 1)) = r
      by_cases h2 : r < 0
      · simp only [if_pos h2]
        rfl
      · simp only [if_neg h2]
        rw [if_neg (show ¬ r + 1 < 0 by omega)]
        congr 1; omega
theorem specRobotAt_ev (l : List RI) (id : Int) (hn : l.length ≤ 9223372036854775807) : ∃ K, ∀ k, K ≤ k → spec_RobotAt.f k l id = some (findI (hof_RobotAt.p id) l) := by
  refine ⟨l.length + 1, fun k hk => ?_⟩
  have h := specRobotAt_l0 l id hn l.length 0 k (by omega) (by omega)
  unfold spec_RobotAt.f
  rw [show (0 : Int) = ((0 : Nat) : Int) from rfl, h]
  congr 1
  rcases findI_range (hof_RobotAt.p id) l with h1 | h1
  · simp only [List.drop_zero]
    by_cases h2 : findI (hof_RobotAt.p id) l < 0
    · rw [if_pos h2]; omega
    · rw [if_neg h2]; simp
  · simp [h1]
theorem FnExactRobotAt : laws_FnExactRobotAt.Pure := by
  intro l id hn wl wi
  by_cases hl : l.length ≤ 1048576
  · obtain ⟨K1, h1⟩ := toRobotS_ev l hl
    obtain ⟨K2, h2⟩ := specRobotAt_ev (l.map toR) id (by simp; omega)
    obtain ⟨K3, h3⟩ := eqRobotS_ev (l.map toR) (by simp; omega)
    refine ⟨K1 + K2 + K3, ?_⟩
    unfold laws_FnExactRobotAt.f
    have hs : ¬ (1048576 - (l.length : Int)) < 0 := by omega
    have hi : impl_RobotAt.f (l.map toR) id = some (findI (hof_RobotAt.p id) (l.map toR)) := rfl
    simp (disch := omega) only [szR_eq l hn, hl, h1, h2, h3, hi, hs, Option.bind_some, reduceIte, Bool.false_eq_true]
  · refine ⟨0, ?_⟩
    unfold laws_FnExactRobotAt.f
    rw [szR_eq l hn, Option.bind_some, if_neg hl, if_pos (by omega)]
end Go.Proofs.Ytkbbeenjbkmamaa.Pure
