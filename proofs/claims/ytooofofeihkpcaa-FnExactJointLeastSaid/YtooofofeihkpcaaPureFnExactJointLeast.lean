/- The program's JointLeast answers what the reference's answers, for all grids, starts, goals and spans. -/
import Derived.Test.YtooofofeihkpcaaPAllFnExactJointLeast
import Derived.Test.YtooofofeihkpcaaQ16
set_option linter.unusedSimpArgs false
namespace Go.Proofs.Ytooofofeihkpcaa.Pure
open Go.RowKit Go.Proofs.Ytooofofeihkpcaa.Q Go.Proofs.YtooofofeihkpcaaW.PrintWords Go.Proofs.YtooofofeihkpcaaW.PrintLast
theorem least_ev (a b : Int) (s : ByteArray) (hs : s.size ≤ 1048576) (l m : List Int) (hl : l.length ≤ 1048576) (hm : m.length ≤ 1048576) (n : Int) : ∃ (v : Int) (K : Nat), ∀ k, K ≤ k → spec_JointLeast.f k a b s l m n = some v ∧ impl_JointLeast.f k a b s l m n = some v := by
  obtain ⟨g, K1, h1, hg⟩ := looked_ev a b s hs l m hl hm n
  cases g with
  | false =>
    refine ⟨-1, K1, fun k hk => ?_⟩
    unfold spec_JointLeast.f impl_JointLeast.f
    rw [(h1 k hk).1, (h1 k hk).2, Option.bind_some, Option.bind_some, if_neg (by decide), if_neg (by decide)]
    exact ⟨rfl, rfl⟩
  | true =>
    obtain ⟨hA, hF, h3, n0, n8⟩ := hg rfl
    obtain ⟨m', rfl⟩ := Int.eq_ofNat_of_zero_le n0
    obtain ⟨o, cs, K2, h2⟩ := joint_ev a b s hs hA.1 l m hA.2.2.2.1 h3 hF hm m' (by omega)
    have c1 : (0 : Int) ≤ (m' : Int) := by omega
    have c2 : (m' : Int) < ((gL cs (m' + 1)).length : Int) := by rw [gL_length]; omega
    have c3 : (m' : Int) < ((gI o (m' + 1)).length : Int) := by rw [gI_length]; omega
    refine ⟨o m', K1 + K2, fun k hk => ?_⟩
    obtain ⟨q1, q2, q3⟩ := h2 k (by omega)
    unfold spec_JointLeast.f impl_JointLeast.f
    rw [(h1 k (by omega)).1, (h1 k (by omega)).2, Option.bind_some, Option.bind_some, if_pos rfl, if_pos rfl]
    show ((spec_l16Costs.f k a b s l (m' : Int)).bind _ = _) ∧ ((impl_joint.f k a b s l m (m' : Int)).bind _ = _)
    rw [q1, q2, Option.bind_some, Option.bind_some]
    show ((if (0 : Int) ≤ (m' : Int) then (if (m' : Int) < ((gL cs (m' + 1)).length : Int) then (spec_l16Least.f k a b s l m (rd_L1 (gL cs (m' + 1)) (m' : Int))).bind _ else _) else _) = _) ∧ ((if (0 : Int) ≤ (m' : Int) then (if (m' : Int) < ((gI o (m' + 1)).length : Int) then some (rd (gI o (m' + 1)) (m' : Int)) else _) else _) = _)
    rw [if_pos c1, if_pos c1, if_pos c2, if_pos c3, gL_rd _ _ m' (by omega), gI_rd _ _ m' (by omega), q3 m' (by omega)]
    exact ⟨rfl, rfl⟩
theorem FnExactJointLeast : laws_FnExactJointLeast.Pure := by
  intro a b s l w t _ _ hs _ _ _ _ _
  by_cases hl : l.length ≤ 1048576
  · by_cases hw : w.length ≤ 1048576
    · by_cases hz : s.size ≤ 1048576
      · obtain ⟨K1, h1⟩ := toIntS_ev l (by omega)
        obtain ⟨K2, h2⟩ := toIntS_ev w (by omega)
        obtain ⟨v, K3, h3⟩ := least_ev a b s hz l w hl hw t
        obtain ⟨K4, h4⟩ := eqIntS_ev l l (by omega)
        obtain ⟨K5, h5⟩ := eqIntS_ev w w (by omega)
        have hS := fun k hk => (h3 k hk).1
        have hI := fun k hk => (h3 k hk).2
        refine ⟨K1 + K2 + K3 + K4 + K5 + 4, ?_⟩
        unfold laws_FnExactJointLeast.f
        rw [if_neg (by omega), if_neg (by omega), szGrid_eq a b s hs 1048576 (by omega) (by omega), if_pos (by omega), Option.bind_some, if_neg (by omega)]
        simp (disch := omega) only [laws_toGrid.f, h1, h2, hS, hI, h4, h5, Option.bind_some, reduceIte, and_self, decide_true, Bool.not_true, Bool.false_eq_true, bne_self_eq_false]
      · refine ⟨0, ?_⟩
        unfold laws_FnExactJointLeast.f
        rw [if_neg (by omega), if_neg (by omega), szGrid_eq a b s hs 1048576 (by omega) (by omega), if_neg (by omega), Option.bind_some, if_pos (by decide)]
    · refine ⟨0, ?_⟩
      unfold laws_FnExactJointLeast.f
      rw [if_neg (by omega), if_pos (by omega)]
  · refine ⟨0, ?_⟩
    unfold laws_FnExactJointLeast.f
    rw [if_pos (by omega)]
end Go.Proofs.Ytooofofeihkpcaa.Pure
