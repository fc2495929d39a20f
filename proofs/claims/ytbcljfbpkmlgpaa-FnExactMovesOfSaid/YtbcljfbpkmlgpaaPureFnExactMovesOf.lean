/- The program's MovesOf answers what the reference's answers, for all ways. -/
import Derived.Test.YtbcljfbpkmlgpaaPway
import Derived.Test.YtbcljfbpkmlgpaaQ8
set_option linter.unusedSimpArgs false
namespace Go.Proofs.Ytbcljfbpkmlgpaa.Pure
open Go.RowKit Go.Proofs.Ytbcljfbpkmlgpaa.Q Go.Proofs.YtbcljfbpkmlgpaaW.PrintWords Go.Proofs.YtbcljfbpkmlgpaaW.PrintLast
/-- How often a way moves in its next d steps from j. -/
def mv (x : List Int) : Nat → Nat → Nat
  | 0, _ => 0
  | d + 1, j => (if rd x (j : Int) = rd x ((j : Int) - 1) then 0 else 1) + mv x d (j + 1)
theorem mv_le (x : List Int) : ∀ d j, mv x d j ≤ d
  | 0, _ => Nat.le_refl _
  | d + 1, j => by unfold mv; have := mv_le x d (j + 1); split <;> omega
theorem implMoves_l0 (x : List Int) (hx : x.length ≤ 1048576) : ∀ (d j k : Nat) (n : Int), 1 ≤ j → (j + d = x.length ∨ d = 0 ∧ x.length ≤ j) → 0 ≤ n → n + d ≤ 1048576 → d < k → impl_movesAfter.l0 k n (j : Int) x = some (n + mv x d j)
  | 0, j, k, n, hj, hd, h0, h1, hk => by
    obtain ⟨k, rfl⟩ : ∃ m, k = m + 1 := ⟨k - 1, by omega⟩
    simp only [impl_movesAfter.l0]
    rw [if_neg (by omega)]; simp [mv]
  | d + 1, j, k, n, hj, hd, h0, h1, hk => by
    obtain ⟨k, rfl⟩ : ∃ m, k = m + 1 := ⟨k - 1, by omega⟩
    simp only [impl_movesAfter.l0]
    rw [if_pos (by omega), if_pos (by omega), w64 (x := (j : Int) - 1) (by omega) (by omega), if_pos (by omega), if_pos (by omega), w64 (x := (j : Int) + 1) (by omega) (by omega), w64 (by omega) (by omega), show ((j : Int) + 1) = ((j + 1 : Nat) : Int) by omega]
    unfold mv
    by_cases c : rd x (j : Int) = rd x ((j : Int) - 1)
    · rw [if_pos c, if_pos c, implMoves_l0 x hx d (j + 1) k n (by omega) (by omega) h0 (by omega) (by omega)]
      congr 1; omega
    · rw [if_neg c, if_neg c, implMoves_l0 x hx d (j + 1) k (n + 1) (by omega) (by omega) (by omega) (by omega) (by omega)]
      congr 1; omega
theorem specMoves_l1 (l : List WI) (hl : SzOk l) (i : Nat) (hi : i < l.length) (v : Int) (K : Nat) : ∀ (d j : Nat) (n : Int), 1 ≤ j → (j + d = l[i].f0.length ∨ d = 0 ∧ l[i].f0.length ≤ j) → 0 ≤ n → n + d ≤ 1048576 →
    (∀ k, K ≤ k → spec_MovesOf.l0 k l (n + mv l[i].f0 d j) (wrap64 ((i : Int) + 1)) = some v) → ∀ k, K + d + 1 ≤ k → spec_MovesOf.l1 k l n (i : Int) (j : Int) = some v
  | 0, j, n, hj, hd, h0, h1, h, k, hk => by
    obtain ⟨k, rfl⟩ : ∃ m, k = m + 1 := ⟨k - 1, by omega⟩
    simp only [spec_MovesOf.l1]
    rw [if_pos (by omega), if_pos (by omega), rdWI_get l i hi, if_neg (by omega)]
    have := h k (by omega)
    simpa [mv] using this
  | d + 1, j, n, hj, hd, h0, h1, h, k, hk => by
    obtain ⟨k, rfl⟩ : ∃ m, k = m + 1 := ⟨k - 1, by omega⟩
    have hx := SzOk_way hl (List.getElem_mem (l := l) (n := i) hi)
    simp only [spec_MovesOf.l1]
    rw [if_pos (by omega), if_pos (by omega), rdWI_get l i hi, if_pos (by omega), if_pos (by omega), w64 (x := (j : Int) - 1) (by omega) (by omega), if_pos (by omega), if_pos (by omega), w64 (x := (j : Int) + 1) (by omega) (by omega), w64 (x := n + 1) (by omega) (by omega), show ((j : Int) + 1) = ((j + 1 : Nat) : Int) by omega]
    unfold mv at h
    by_cases c : rd l[i].f0 (j : Int) = rd l[i].f0 ((j : Int) - 1)
    · rw [if_pos c]
      refine specMoves_l1 l hl i hi v K d (j + 1) n (by omega) (by omega) h0 (by omega) (fun k hk => ?_) k (by omega)
      rw [← h k hk, if_pos c]; congr 1; omega
    · rw [if_neg c]
      refine specMoves_l1 l hl i hi v K d (j + 1) (n + 1) (by omega) (by omega) (by omega) (by omega) (fun k hk => ?_) k (by omega)
      rw [← h k hk, if_neg c]; congr 1; omega
theorem moves_l0 (l : List WI) (hl : SzOk l) : ∀ (d i : Nat) (n : Int), i + d = l.length → 0 ≤ n → n + tot (l.drop i) ≤ 1048576 → ∃ v K, ∀ k, K ≤ k → spec_MovesOf.l0 k l n (i : Int) = some v ∧ impl_MovesOf.l0 k n l (l.length : Int) (i : Int) = some v
  | 0, i, n, hi, h0, h1 => by
    refine ⟨n, 1, fun k hk => ?_⟩
    obtain ⟨k, rfl⟩ : ∃ m, k = m + 1 := ⟨k - 1, by omega⟩
    have e1 : ¬ (i : Int) < (l.length : Int) := by omega
    simp only [spec_MovesOf.l0, impl_MovesOf.l0, e1, reduceIte, and_self]
  | d + 1, i, n, hi, h0, h1 => by
    have hn := SzOk_len hl
    have hx := SzOk_way hl (List.getElem_mem (l := l) (n := i) (by omega))
    rw [tot_drop l i (by omega)] at h1
    obtain ⟨D, hD⟩ : ∃ D, 1 + D = l[i].f0.length ∨ D = 0 ∧ l[i].f0.length ≤ 1 := ⟨l[i].f0.length - 1, by omega⟩
    have hle := mv_le l[i].f0 D 1
    obtain ⟨v, K, h⟩ := moves_l0 l hl d (i + 1) (n + mv l[i].f0 D 1) (by omega) (by omega) (by omega)
    have e9 : wrap64 ((i : Int) + 1) = ((i + 1 : Nat) : Int) := by rw [w64 (by omega) (by omega)]; rfl
    refine ⟨v, K + D + 2, fun k hk => ?_⟩
    obtain ⟨k, rfl⟩ : ∃ m, k = m + 1 := ⟨k - 1, by omega⟩
    constructor
    · simp only [spec_MovesOf.l0]
      rw [if_pos (by omega)]
      exact specMoves_l1 l hl i (by omega) v K D 1 n (by omega) hD h0 (by omega) (fun k hk => by rw [e9]; exact (h k hk).1) k (by omega)
    · simp only [impl_MovesOf.l0, impl_movesAfter.f]
      rw [if_pos (by omega), if_pos (by omega), if_pos (by omega), rdWI_get l i (by omega)]
      have := implMoves_l0 l[i].f0 hx D 1 k 0 (by omega) hD (by omega) (by omega) (by omega)
      rw [show wrap64 (mx 0 0 + 1) = ((1 : Nat) : Int) by simp [mx, wrap64], this, Option.bind_some, Int.zero_add, w64 (x := n + _) (by omega) (by omega), e9]
      exact (h k (by omega)).2
theorem moves_ev (l : List WI) (hl : SzOk l) : ∃ v K, ∀ k, K ≤ k → spec_MovesOf.f k l = some v ∧ impl_MovesOf.f k l = some v := by
  obtain ⟨v, K, h⟩ := moves_l0 l hl l.length 0 0 (by omega) (by omega) (by unfold SzOk at hl; simp; omega)
  exact ⟨v, K, fun k hk => h k hk⟩
theorem FnExactMovesOf : laws_FnExactMovesOf.Pure := by
  intro l hn hw
  obtain ⟨s, K0, h0, hs⟩ := szWayS_ev l hn (fun x hx => (hw x hx).1)
  by_cases hsz : s < 0
  · refine ⟨K0, ?_⟩
    unfold laws_FnExactMovesOf.f
    rw [h0 K0 (by omega), Option.bind_some, if_pos hsz]
  · obtain ⟨hl, _⟩ := hs (by omega)
    obtain ⟨K1, h1⟩ := toWayS_ev l hl
    obtain ⟨v, K2, h2⟩ := moves_ev _ hl
    obtain ⟨K3, h3⟩ := eqWayS_ev _ hl
    obtain ⟨h4, h5⟩ := h2 (K0 + K1 + K2 + K3) (by omega)
    refine ⟨K0 + K1 + K2 + K3, ?_⟩
    unfold laws_FnExactMovesOf.f
    simp (disch := omega) only [h0, h1, h4, h5, h3, hsz, Option.bind_some, reduceIte]
end Go.Proofs.Ytbcljfbpkmlgpaa.Pure
