/- The program's SpanLeast answers what the reference's answers, for all arguments. -/
import Derived.Test.YtooofofeihkpcaaPnea
import Derived.Test.YtooofofeihkpcaaQ13
set_option linter.unusedSimpArgs false
namespace Go.Proofs.Ytooofofeihkpcaa.Pure
open Go.RowKit Go.Proofs.Ytooofofeihkpcaa.Q Go.Proofs.YtooofofeihkpcaaW.PrintWords Go.Proofs.YtooofofeihkpcaaW.PrintLast
theorem fold_l0 (v : List Int) (hv : v.length ≤ 1048576) : ∀ (r i : Nat) (acc : Int), i + r = v.length → ∃ z, ∀ k, r < k → spec_SpanLeast.l0 k v acc (i : Int) = some z ∧ impl_SpanLeast.l0 k acc v (v.length : Int) (i : Int) = some z
  | 0, i, acc, hi => by
    refine ⟨acc, fun k hk => ?_⟩
    obtain ⟨k, rfl⟩ : ∃ q, k = q + 1 := ⟨k - 1, by omega⟩
    rw [spec_SpanLeast.l0, impl_SpanLeast.l0, if_neg (by omega), if_neg (by omega)]
    exact ⟨rfl, rfl⟩
  | r + 1, i, acc, hi => by
    obtain ⟨z, h1⟩ := fold_l0 v hv r (i + 1) (mx acc (rd v (i : Int))) (by omega)
    refine ⟨z, fun k hk => ?_⟩
    obtain ⟨k, rfl⟩ : ∃ q, k = q + 1 := ⟨k - 1, by omega⟩
    have c1 : (i : Int) < (v.length : Int) := by omega
    have c2 : (0 : Int) ≤ (i : Int) := by omega
    have hh := h1 k (by omega)
    rw [spec_SpanLeast.l0, impl_SpanLeast.l0, if_pos c1, if_pos c2, if_pos c1, if_pos c2, if_pos c1, wS i (by omega)]
    refine ⟨?_, hh.2⟩
    by_cases hg : rd v (i : Int) > acc
    · have e : mx acc (rd v (i : Int)) = rd v (i : Int) := by unfold mx; split <;> omega
      rw [if_pos hg, ← hh.1, e]
    · have e : mx acc (rd v (i : Int)) = acc := by unfold mx; split <;> omega
      rw [if_neg hg, ← hh.1, e]
theorem SpanLeast_ev (a b : Int) (s : ByteArray) (hs : s.size ≤ 1048576) (l m : List Int) (hl : l.length ≤ 1048576) (hm : m.length ≤ 1048576) : ∃ z K, ∀ k, K ≤ k → spec_SpanLeast.f k a b s l m = some z ∧ impl_SpanLeast.f k a b s l m = some z := by
  obtain ⟨v, K0, h0, h1⟩ := near_ev a b s hs l m hl hm
  obtain ⟨z, h2⟩ := fold_l0 v.1 (by omega) v.1.length 0 0 (by omega)
  by_cases hb : v.2 = true
  · refine ⟨z, K0 + v.1.length + 1, fun k hk => ?_⟩
    unfold spec_SpanLeast.f impl_SpanLeast.f
    rw [(h0 k (by omega)).1, (h0 k (by omega)).2, Option.bind_some, Option.bind_some, if_pos hb, if_pos hb]
    exact h2 k (by omega)
  · refine ⟨-1, K0, fun k hk => ?_⟩
    unfold spec_SpanLeast.f impl_SpanLeast.f
    rw [(h0 k (by omega)).1, (h0 k (by omega)).2, Option.bind_some, Option.bind_some, if_neg hb, if_neg hb]
    exact ⟨rfl, rfl⟩
theorem FnExactSpanLeast : laws_FnExactSpanLeast.Pure := by
  intro a b s l m _ _ hs _ _ _ _
  by_cases hl : l.length ≤ 1048576
  · by_cases hm : m.length ≤ 1048576
    · by_cases hz : s.size ≤ 1048576
      · obtain ⟨v, K0, h0⟩ := SpanLeast_ev a b s hz l m hl hm
        obtain ⟨K1, h1⟩ := toIntS_ev l (by omega)
        obtain ⟨K2, h2⟩ := toIntS_ev m (by omega)
        obtain ⟨K3, h3⟩ := eqIntS_ev l l (by omega)
        obtain ⟨K4, h4⟩ := eqIntS_ev m m (by omega)
        refine ⟨K0 + K1 + K2 + K3 + K4, ?_⟩
        obtain ⟨h5, h6⟩ := h0 (K0 + K1 + K2 + K3 + K4) (by omega)
        unfold laws_FnExactSpanLeast.f
        rw [if_neg (by omega), if_neg (by omega), szGrid_eq a b s hs 1048576 (by omega) (by omega), if_pos (by omega), Option.bind_some, if_neg (by omega)]
        simp (disch := omega) only [laws_toGrid.f, Option.bind_some, h1, h2, h3, h4, h5, h6, bne_self_eq_false, Bool.false_eq_true, reduceIte, decide_true]
      · refine ⟨0, ?_⟩
        unfold laws_FnExactSpanLeast.f
        rw [if_neg (by omega), if_neg (by omega), szGrid_eq a b s hs 1048576 (by omega) (by omega), if_neg (by omega), Option.bind_some, if_pos (by decide)]
    · refine ⟨0, ?_⟩
      unfold laws_FnExactSpanLeast.f
      rw [if_neg (by omega), if_pos (by omega)]
  · refine ⟨0, ?_⟩
    unfold laws_FnExactSpanLeast.f
    rw [if_pos (by omega)]
end Go.Proofs.Ytooofofeihkpcaa.Pure
