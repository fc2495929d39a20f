/- The program's JointSpan answers what the reference's answers, for all grids, starts, goals and horizons. -/
import Derived.Test.YtooofofeihkpcaaPAllFnExactJointSpan
import Derived.Test.YtooofofeihkpcaaQ16
set_option linter.unusedSimpArgs false
namespace Go.Proofs.Ytooofofeihkpcaa.Pure
open Go.RowKit Go.Proofs.Ytooofofeihkpcaa.Q Go.Proofs.YtooofofeihkpcaaW.PrintWords Go.Proofs.YtooofofeihkpcaaW.PrintLast
theorem span_l0 (a b : Int) (s : ByteArray) (l m : List Int) (o : Nat → Int) (cs : Nat → List Int) (n : Nat) (hn : n ≤ 8) (K : Nat) (h : ∀ k, K ≤ k → ∀ t, t < n + 1 → spec_l16Least.f k a b s l m (cs t) = some (o t)) : ∀ (d t : Nat), t + d = n + 1 → ∀ k, K + d < k → spec_JointSpan.l0 k l m (n : Int) (gL cs (n + 1)) (t : Int) a b s = some (if findI hof_JointSpan.p ((gI o (n + 1)).drop t) < 0 then -1 else (t : Int) + findI hof_JointSpan.p ((gI o (n + 1)).drop t))
  | 0, t, ht, k, hk => by
    obtain ⟨k, rfl⟩ : ∃ m, k = m + 1 := ⟨k - 1, by omega⟩
    rw [spec_JointSpan.l0, if_neg (by omega), List.drop_of_length_le (by rw [gI_length]; omega)]
    rfl
  | d + 1, t, ht, k, hk => by
    obtain ⟨k, rfl⟩ : ∃ m, k = m + 1 := ⟨k - 1, by omega⟩
    have ih := span_l0 a b s l m o cs n hn K h d (t + 1) (by omega) k (by omega)
    have htl : t < (gI o (n + 1)).length := by rw [gI_length]; omega
    have hv : (gI o (n + 1))[t] = o t := by simp [gI]
    have c1 : (t : Int) ≤ (n : Int) := by omega
    have c2 : (0 : Int) ≤ (t : Int) := by omega
    have c3 : (t : Int) < ((gL cs (n + 1)).length : Int) := by rw [gL_length]; omega
    have hr := findI_range hof_JointSpan.p ((gI o (n + 1)).drop (t + 1))
    rw [spec_JointSpan.l0, if_pos c1, if_pos c2, if_pos c3, gL_rd _ _ t (by omega), h k (by omega) t (by omega), Option.bind_some, drop_cons _ t htl, hv, findI, wn t (by omega)]
    by_cases c : o t ≥ 0
    · have hp : hof_JointSpan.p (o t) = true := by unfold hof_JointSpan.p; exact decide_eq_true c
      rw [if_pos c, hp, if_pos rfl, if_neg (by omega)]
      exact congrArg some (by omega)
    · have hp : hof_JointSpan.p (o t) = false := by unfold hof_JointSpan.p; exact decide_eq_false c
      rw [if_neg c, hp]
      simp only [Bool.false_eq_true, reduceIte]
      rw [ih]
      generalize findI hof_JointSpan.p ((gI o (n + 1)).drop (t + 1)) = r at hr ⊢
      by_cases c4 : r < 0
      · simp only [c4, reduceIte]
        rw [if_pos (by omega)]
      · simp only [c4, reduceIte]
        rw [if_neg (by omega)]
        exact congrArg some (by omega)
theorem span_ev (a b : Int) (s : ByteArray) (hs : s.size ≤ 1048576) (l m : List Int) (hl : l.length ≤ 1048576) (hm : m.length ≤ 1048576) (n : Int) : ∃ (v : Int) (K : Nat), ∀ k, K ≤ k → spec_JointSpan.f k a b s l m n = some v ∧ impl_JointSpan.f k a b s l m n = some v := by
  obtain ⟨g, K1, h1, hg⟩ := looked_ev a b s hs l m hl hm n
  cases g with
  | false =>
    refine ⟨-1, K1, fun k hk => ?_⟩
    unfold spec_JointSpan.f impl_JointSpan.f
    rw [(h1 k hk).1, (h1 k hk).2, Option.bind_some, Option.bind_some, if_neg (by decide), if_neg (by decide)]
    exact ⟨rfl, rfl⟩
  | true =>
    obtain ⟨hA, hF, h3, n0, n8⟩ := hg rfl
    obtain ⟨m', rfl⟩ := Int.eq_ofNat_of_zero_le n0
    obtain ⟨o, cs, K2, h2⟩ := joint_ev a b s hs hA.1 l m hA.2.2.2.1 h3 hF hm m' (by omega)
    refine ⟨findI hof_JointSpan.p (gI o (m' + 1)), K1 + K2 + m' + 3, fun k hk => ?_⟩
    obtain ⟨q1, q2, q3⟩ := h2 k (by omega)
    have hr := findI_range hof_JointSpan.p (gI o (m' + 1))
    have h4 := span_l0 a b s l m o cs m' (by omega) K2 (fun k hk => (h2 k hk).2.2) (m' + 1) 0 (by omega) k (by omega)
    rw [List.drop_zero] at h4
    unfold spec_JointSpan.f impl_JointSpan.f
    rw [(h1 k (by omega)).1, (h1 k (by omega)).2, Option.bind_some, Option.bind_some, if_pos rfl, if_pos rfl]
    show ((spec_l16Costs.f k a b s l (m' : Int)).bind _ = _) ∧ ((impl_joint.f k a b s l m (m' : Int)).bind _ = _)
    rw [q1, q2, Option.bind_some, Option.bind_some]
    refine ⟨h4.trans ?_, rfl⟩
    generalize findI hof_JointSpan.p (gI o (m' + 1)) = r at hr ⊢
    congr 1
    split <;> omega
theorem FnExactJointSpan : laws_FnExactJointSpan.Pure := by
  intro a b s l w t _ _ hs _ _ _ _ _
  by_cases hl : l.length ≤ 1048576
  · by_cases hw : w.length ≤ 1048576
    · by_cases hz : s.size ≤ 1048576
      · obtain ⟨K1, h1⟩ := toIntS_ev l (by omega)
        obtain ⟨K2, h2⟩ := toIntS_ev w (by omega)
        obtain ⟨v, K3, h3⟩ := span_ev a b s hz l w hl hw t
        obtain ⟨K4, h4⟩ := eqIntS_ev l l (by omega)
        obtain ⟨K5, h5⟩ := eqIntS_ev w w (by omega)
        have hS := fun k hk => (h3 k hk).1
        have hI := fun k hk => (h3 k hk).2
        refine ⟨K1 + K2 + K3 + K4 + K5 + 4, ?_⟩
        unfold laws_FnExactJointSpan.f
        rw [if_neg (by omega), if_neg (by omega), szGrid_eq a b s hs 1048576 (by omega) (by omega), if_pos (by omega), Option.bind_some, if_neg (by omega)]
        simp (disch := omega) only [laws_toGrid.f, h1, h2, hS, hI, h4, h5, Option.bind_some, reduceIte, and_self, decide_true, Bool.not_true, Bool.false_eq_true, bne_self_eq_false]
      · refine ⟨0, ?_⟩
        unfold laws_FnExactJointSpan.f
        rw [if_neg (by omega), if_neg (by omega), szGrid_eq a b s hs 1048576 (by omega) (by omega), if_neg (by omega), Option.bind_some, if_pos (by decide)]
    · refine ⟨0, ?_⟩
      unfold laws_FnExactJointSpan.f
      rw [if_neg (by omega), if_pos (by omega)]
  · refine ⟨0, ?_⟩
    unfold laws_FnExactJointSpan.f
    rw [if_pos (by omega)]
end Go.Proofs.Ytooofofeihkpcaa.Pure
