/- The program's StandsOf answers what the reference's answers, for all grids and numbers; the answer is new memory. -/
import Derived.Test.YtmdkfmbgddhjcaaPAllFnExactStandsOf
import Derived.Test.YtmdkfmbgddhjcaaQ5
import Derived.Test.YtmdkfmbgddhjcaaQ4
set_option linter.unusedSimpArgs false
namespace Go.Proofs.Ytmdkfmbgddhjcaa.Pure
open Go.RowKit Go.Proofs.Ytmdkfmbgddhjcaa.Q Go.Proofs.YtmdkfmbgddhjcaaW.PrintWords Go.Proofs.YtmdkfmbgddhjcaaW.PrintLast
theorem iotaQ_eq : ∀ (m : Int) (d : Nat), iotaQ m d = iota m d
  | _, 0 => rfl
  | m, d + 1 => by unfold iotaQ iota; rw [iotaQ_eq (m + 1) d]
theorem eqSS_l0 (L : List (List Int)) (hL : L.length ≤ 1048576) (hm : ∀ l ∈ L, l.length ≤ 3) : ∀ (d i : Nat), i + d = L.length → ∃ K, ∀ k, K ≤ k → laws_eqIntSS.l0 k L L (i : Int) = some true
  | 0, i, hi => by
    refine ⟨1, fun k hk => ?_⟩
    obtain ⟨k, rfl⟩ : ∃ m, k = m + 1 := ⟨k - 1, by omega⟩
    rw [laws_eqIntSS.l0, if_neg (by omega)]
  | d + 1, i, hi => by
    have hil : i < L.length := by omega
    have hr : rd_L1 L (i : Int) = L[i] := by simp [rd_L1, hil]
    have h3 := hm _ (List.getElem_mem hil)
    obtain ⟨K1, h1⟩ := eqIntS_ev L[i] L[i] (by omega)
    obtain ⟨K2, h2⟩ := eqSS_l0 L hL hm d (i + 1) (by omega)
    refine ⟨K1 + K2 + 1, fun k hk => ?_⟩
    obtain ⟨k, rfl⟩ : ∃ m, k = m + 1 := ⟨k - 1, by omega⟩
    rw [laws_eqIntSS.l0, if_pos (by omega), if_pos (by omega), if_pos (by omega), hr, h1 k (by omega), Option.bind_some, decide_eq_true rfl, if_pos rfl, show wrap64 ((i : Int) + 1) = ((i + 1 : Nat) : Int) from w64 (by omega) (by omega)]
    exact h2 k (by omega)
theorem eqSS_ev (L : List (List Int)) (hL : L.length ≤ 1048576) (hm : ∀ l ∈ L, l.length ≤ 3) : ∃ K, ∀ k, K ≤ k → laws_eqIntSS.f k L L = some true := by
  obtain ⟨K, h⟩ := eqSS_l0 L hL hm L.length 0 (by omega)
  refine ⟨K, fun k hk => ?_⟩
  unfold laws_eqIntSS.f
  rw [if_pos rfl]
  exact h k hk
theorem rowsLen_small : ∀ L : List (List Int), (∀ l ∈ L, l.length ≤ 3) → rowsLen L ≤ 3 * L.length
  | [], _ => by simp [rowsLen]
  | l :: L, hm => by
    have h1 := rowsLen_small L (fun x hx => hm x (List.mem_cons_of_mem _ hx))
    have h2 := hm l List.mem_cons_self
    unfold rowsLen at h1 ⊢
    rw [List.map_cons, List.sum_cons, List.length_cons]
    omega
theorem heldSS_l0 (L : List (List Int)) (hL : L.length ≤ 1000) (hm : ∀ l ∈ L, l.length ≤ 3) : ∀ (d i : Nat), i + d = L.length → ∃ K, ∀ k, K ≤ k → laws_heldIntSS.l0 k (rowsMark L 1) (1 + (rowsLen (L.take i) : Int)) (i : Int) = some (1 + (rowsLen L : Int))
  | 0, i, hi => by
    refine ⟨1, fun k hk => ?_⟩
    obtain ⟨k, rfl⟩ : ∃ m, k = m + 1 := ⟨k - 1, by omega⟩
    rw [laws_heldIntSS.l0, if_neg (by rw [rowsMark_length]; omega), List.take_of_length_le (by omega)]
  | d + 1, i, hi => by
    have hil : i < L.length := by omega
    have hml : i < (rowsMark L 1).length := by rw [rowsMark_length]; exact hil
    have hg := rowsMark_get L 1 i hil
    have hr : rd_L1 (rowsMark L 1) (i : Int) = iota (1 + (rowsLen (L.take i) : Int)) (L[i]).length := by
      rw [← iotaQ_eq]
      unfold rd_L1
      rw [Int.toNat_natCast, List.getD_eq_getElem?_getD, hg]
      rfl
    have h3 := hm _ (List.getElem_mem hil)
    have hs1 := rowsLen_small L hm
    have hs2 := rowsLen_le L (i + 1)
    have hs3 := rowsLen_take L i hil
    obtain ⟨K1, h1⟩ := heldIntS_ev (L[i]).length (1 + (rowsLen (L.take i) : Int)) (by omega) (by omega) (by omega)
    obtain ⟨K2, h2⟩ := heldSS_l0 L hL hm d (i + 1) (by omega)
    refine ⟨K1 + K2 + 1, fun k hk => ?_⟩
    obtain ⟨k, rfl⟩ : ∃ m, k = m + 1 := ⟨k - 1, by omega⟩
    have h2 := h2 k (by omega)
    rw [hs3] at h2
    rw [laws_heldIntSS.l0, if_pos (by omega), if_pos (by omega), hr, h1 k (by omega), Option.bind_some, if_neg (by omega), show wrap64 ((i : Int) + 1) = ((i + 1 : Nat) : Int) from w64 (by omega) (by omega), show 1 + (rowsLen (L.take i) : Int) + ((L[i]).length : Int) = 1 + ((rowsLen (L.take i) + (L[i]).length : Nat) : Int) by omega]
    exact h2
theorem heldSS_ev (L : List (List Int)) (hL : L.length ≤ 1000) (hm : ∀ l ∈ L, l.length ≤ 3) : ∃ K, ∀ k, K ≤ k → laws_heldIntSS.f k (rowsMark L 1) 1 = some (1 + (rowsLen L : Int)) := by
  obtain ⟨K, h⟩ := heldSS_l0 L hL hm L.length 0 (by omega)
  refine ⟨K, fun k hk => ?_⟩
  have := h k hk
  unfold laws_heldIntSS.f
  simpa [rowsLen] using this
theorem FnExactStandsOf : laws_FnExactStandsOf.Pure := by
  intro a b s n _ _ hs _
  by_cases hz : s.size ≤ 1048576
  · obtain ⟨v, K1, hv, hm, h1⟩ := stands_ev a b s hz n
    obtain ⟨K2, h2⟩ := eqSS_ev v (by omega) hm
    obtain ⟨K3, h3⟩ := heldSS_ev v (by omega) hm
    have hS := fun k hk => (h1 k hk).1
    have hI := fun k hk => (h1 k hk).2
    have hl := rowsLen_small v hm
    have h4 : laws_markIntSS.f v 1 = some (1 + (rowsLen v : Int), rowsMark v 1) := by
      unfold laws_markIntSS.f
      rw [if_pos ⟨by omega, by omega⟩]
    have hq : ¬ (1 + (rowsLen v : Int)) < 0 := by omega
    refine ⟨K1 + K2 + K3, ?_⟩
    unfold laws_FnExactStandsOf.f
    rw [szGrid_eq a b s hs 1048576 (by omega) (by omega), if_pos (by omega), Option.bind_some, if_neg (by omega)]
    simp (disch := omega) only [laws_toGrid.f, hS, hI, h2, h3, h4, hq, Option.bind_some, reduceIte]
  · refine ⟨0, ?_⟩
    unfold laws_FnExactStandsOf.f
    rw [szGrid_eq a b s hs 1048576 (by omega) (by omega), if_neg (by omega), Option.bind_some, if_pos (by decide)]
end Go.Proofs.Ytmdkfmbgddhjcaa.Pure
