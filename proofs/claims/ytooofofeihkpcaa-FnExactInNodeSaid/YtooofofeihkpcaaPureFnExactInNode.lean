/- The program's InNode answers what the reference's answers, for all grids, cells and times. -/
import Derived.Test.YtooofofeihkpcaaPgz
import Derived.Test.YtooofofeihkpcaaPci
import Derived.Test.YtooofofeihkpcaaQ9
set_option linter.unusedSimpArgs false
namespace Go.Proofs.Ytooofofeihkpcaa.Pure
open Go.RowKit Go.Proofs.Ytooofofeihkpcaa.Q Go.Proofs.YtooofofeihkpcaaW.PrintWords Go.Proofs.YtooofofeihkpcaaW.PrintLast
theorem specIn_l0 (c t : Int) (f : List Int) (hf : f.length ≤ 64) : ∀ (d i : Nat), i + d = f.length → c ∈ f.drop i → ∃ K, ∀ k, K ≤ k → spec_InNode.l0 k c t f (i : Int) = some (wrap64 (3 + (wrap64 (2 * (wrap64 ((wrap64 (t * (f.length : Int))) + placeFrom c (i : Int) (f.drop i)))))))
  | 0, i, hi, hm => by
    rw [List.drop_of_length_le (by omega)] at hm
    cases hm
  | d + 1, i, hi, hm => by
    rw [drop_cons f i (by omega)] at hm ⊢
    have e1 : (0 : Int) ≤ i := by omega
    have e2 : (i : Int) < (f.length : Int) := by omega
    by_cases h : f[i]'(by omega) = c
    · refine ⟨1, fun k hk => ?_⟩
      obtain ⟨k, rfl⟩ : ∃ m, k = m + 1 := ⟨k - 1, by omega⟩
      simp only [spec_InNode.l0]
      rw [if_pos e1, if_pos e2, rd_get f i (by omega), if_pos h, placeFrom, if_pos h.symm]
    · have hm2 : c ∈ f.drop (i + 1) := by
        rcases List.mem_cons.mp hm with e | e
        · exact absurd e.symm h
        · exact e
      obtain ⟨K, hK⟩ := specIn_l0 c t f hf d (i + 1) (by omega) hm2
      refine ⟨K + 1, fun k hk => ?_⟩
      obtain ⟨k, rfl⟩ : ∃ m, k = m + 1 := ⟨k - 1, by omega⟩
      simp only [spec_InNode.l0]
      rw [if_pos e1, if_pos e2, rd_get f i (by omega), if_neg h, placeFrom, if_neg (fun e => h e.symm), w64 (x := (i : Int) + 1) (by omega) (by omega), show ((i : Int) + 1) = ((i + 1 : Nat) : Int) by omega]
      exact hK k (by omega)
theorem inNode_ev (a b : Int) (s : ByteArray) (hs : s.size ≤ 1048576) (c t : Int) : ∃ v K, ∀ k, K ≤ k → spec_InNode.f k a b s c t = some v ∧ impl_InNode.f k a b s c t = some v := by
  obtain ⟨g, K, h, hg⟩ := implFreeAt_ev a b s hs c
  have hj : ∀ k, spec_InNode.j0 (k + 1) c t true a b s = some (-1) := fun k => by simp only [spec_InNode.j0, reduceIte]
  have hj2 : ∀ k, impl_InNode.j0 (k + 1) c t true a b s = some (-1) := fun k => by simp only [impl_InNode.j0, reduceIte]
  cases g with
  | false =>
    refine ⟨-1, K + 1, fun k hk => ?_⟩
    obtain ⟨k, rfl⟩ : ∃ m, k = m + 1 := ⟨k - 1, by omega⟩
    unfold spec_InNode.f impl_InNode.f
    rw [(h (k + 1) (by omega)).1, (h (k + 1) (by omega)).2]
    simp only [Option.bind_some, Bool.false_eq_true, reduceIte, hj, hj2, and_self]
  | true =>
    by_cases ht : 0 ≤ t ∧ t ≤ 20
    · have hmem := (frees_mem a b s c).mpr (hg.mp rfl)
      have hlen := frees_len a b s
      obtain ⟨K1, h1⟩ := specFree_ev a b s hs
      obtain ⟨K2, h2⟩ := implFree_ev a b s hs
      obtain ⟨K3, h3⟩ := specIn_l0 c t (frees a b s) hlen (frees a b s).length 0 (by omega) (by simpa using hmem)
      have h4 := index_eq (frees a b s) c (by omega)
      refine ⟨wrap64 (3 + (wrap64 (2 * (wrap64 ((wrap64 (t * ((frees a b s).length : Int))) + placeFrom c 0 (frees a b s)))))), K + K1 + K2 + K3 + 100, fun k hk => ⟨?_, ?_⟩⟩
      · obtain ⟨k, rfl⟩ : ∃ m, k = m + 1 := ⟨k - 1, by omega⟩
        unfold spec_InNode.f
        rw [(h (k + 1) (by omega)).1, Option.bind_some, if_pos rfl, l01In_eq, Option.bind_some, decide_eq_true ht]
        simp only [Bool.not_true, spec_InNode.j0, Bool.false_eq_true, reduceIte]
        rw [h1 k (by omega), Option.bind_some]
        have := h3 k (by omega)
        simpa using this
      · obtain ⟨k, rfl⟩ : ∃ m, k = m + 1 := ⟨k - 1, by omega⟩
        unfold impl_InNode.f
        rw [(h (k + 1) (by omega)).2, Option.bind_some, if_pos rfl, if_neg (by omega), decide_eq_false (by omega)]
        simp only [impl_InNode.j0, Bool.false_eq_true, reduceIte]
        rw [h2 k (by omega), Option.bind_some, h4 k (by omega), Option.bind_some]
    · refine ⟨-1, K + 1, fun k hk => ?_⟩
      obtain ⟨k, rfl⟩ : ∃ m, k = m + 1 := ⟨k - 1, by omega⟩
      unfold spec_InNode.f impl_InNode.f
      rw [(h (k + 1) (by omega)).1, (h (k + 1) (by omega)).2]
      simp only [Option.bind_some, reduceIte, l01In_eq, ht, decide_false, Bool.not_false, hj, true_and]
      by_cases h0 : t < 0
      · rw [if_pos h0, hj2]
      · rw [if_neg h0, decide_eq_true (by omega), hj2]
theorem FnExactInNode : laws_FnExactInNode.Pure := by
  intro a b s c t _ _ hs _ _
  by_cases hz : s.size ≤ 1048576
  · obtain ⟨v, K, h⟩ := inNode_ev a b s hz c t
    refine ⟨K, ?_⟩
    unfold laws_FnExactInNode.f
    rw [szGrid_eq a b s hs 1048576 (by omega) (by omega), if_pos (by omega), Option.bind_some, if_neg (by omega)]
    simp only [laws_toGrid.f, Option.bind_some, (h K (Nat.le_refl _)).1, (h K (Nat.le_refl _)).2, reduceIte]
  · refine ⟨0, ?_⟩
    unfold laws_FnExactInNode.f
    rw [szGrid_eq a b s hs 1048576 (by omega) (by omega), if_neg (by omega), Option.bind_some, if_pos (by decide)]
end Go.Proofs.Ytooofofeihkpcaa.Pure
