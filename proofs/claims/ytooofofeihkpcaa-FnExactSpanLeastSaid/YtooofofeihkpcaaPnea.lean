/- How far each goal is from the nearest start: the program and the reference answer alike. -/
import Derived.Test.YtooofofeihkpcaaPbf
import Derived.Test.YtooofofeihkpcaaPaok
import Derived.Test.YtooofofeihkpcaaQ7
import Derived.Test.YtooofofeihkpcaaQ12
set_option linter.unusedSimpArgs false
namespace Go.Proofs.Ytooofofeihkpcaa.Pure
open Go.RowKit Go.Proofs.Ytooofofeihkpcaa.Q Go.Proofs.YtooofofeihkpcaaW.PrintWords Go.Proofs.YtooofofeihkpcaaW.PrintLast
theorem near_l0 (d m : List Int) (hm : m.length ≤ 1048576) (hd : ∀ x ∈ m, 0 ≤ x ∧ x < (d.length : Int)) : ∀ (r i : Nat) (acc : List Int), i + r = m.length → acc.length ≤ i →
    ∃ v, (∀ k, r < k → spec_l14Steps.l0 k m acc d (i : Int) = some v ∧ impl_nearest.l0 k d acc m (m.length : Int) (i : Int) = some v) ∧ v.1.length ≤ m.length
  | 0, i, acc, hi, ha => by
    refine ⟨(acc, true), fun k hk => ?_, by show acc.length ≤ _; omega⟩
    obtain ⟨k, rfl⟩ : ∃ q, k = q + 1 := ⟨k - 1, by omega⟩
    rw [spec_l14Steps.l0, impl_nearest.l0, if_neg (by omega), if_neg (by omega)]
    exact ⟨rfl, rfl⟩
  | r + 1, i, acc, hi, ha => by
    obtain ⟨x, ex⟩ : ∃ x, x = rd m (i : Int) := ⟨_, rfl⟩
    obtain ⟨x0, x1⟩ := hd x (by rw [ex, rd_get m i (by omega)]; exact List.getElem_mem _)
    have c1 : (i : Int) < (m.length : Int) := by omega
    have c2 : (0 : Int) ≤ (i : Int) := by omega
    by_cases hneg : rd d x < 0
    · refine ⟨([], false), fun k hk => ?_, Nat.zero_le _⟩
      obtain ⟨k, rfl⟩ : ∃ q, k = q + 1 := ⟨k - 1, by omega⟩
      rw [spec_l14Steps.l0, impl_nearest.l0, ← ex, if_pos c1, if_pos c2, if_pos x0, if_pos x1, if_pos hneg, if_pos c1, if_pos c2, if_pos c1, if_pos x0, if_pos x1, if_pos hneg]
      exact ⟨rfl, rfl⟩
    · obtain ⟨v, h1, h2⟩ := near_l0 d m hm hd r (i + 1) (acc ++ [rd d x]) (by omega) (by simp; omega)
      refine ⟨v, fun k hk => ?_, h2⟩
      obtain ⟨k, rfl⟩ : ∃ q, k = q + 1 := ⟨k - 1, by omega⟩
      have c3 : acc.length < 17592186044416 := by omega
      rw [spec_l14Steps.l0, impl_nearest.l0, ← ex, if_pos c1, if_pos c2, if_pos x0, if_pos x1, if_neg hneg, if_pos c3, if_pos c1, if_pos c2, if_pos c1, if_pos x0, if_pos x1, if_neg hneg, if_pos c3, wS i (by omega)]
      exact h1 k (by omega)
theorem near_ev (a b : Int) (s : ByteArray) (hs : s.size ≤ 1048576) (l m : List Int) (hl : l.length ≤ 1048576) (hm : m.length ≤ 1048576) : ∃ v K, (∀ k, K ≤ k → spec_l14Steps.f k a b s l m = some v ∧ impl_nearest.f k a b s l m = some v) ∧ v.1.length ≤ m.length := by
  obtain ⟨g, K0, h0, q0⟩ := askOk_ev a b s hs l m hl hm 0
  cases g with
  | false =>
    refine ⟨([], false), K0, fun k hk => ?_, Nat.zero_le _⟩
    unfold spec_l14Steps.f impl_nearest.f
    rw [Option.bind_some, (h0 k hk).1, (h0 k hk).2, Option.bind_some, Option.bind_some, if_neg (by decide), if_neg (by decide)]
    exact ⟨rfl, rfl⟩
  | true =>
    obtain ⟨hG, hf1, hf2, _⟩ := q0 rfl
    obtain ⟨d, K1, h1, h2, h3⟩ := steps_ev a b s hG l hl ((FrFrom_all s l).mp hf1)
    obtain ⟨v, h4, h5⟩ := near_l0 d m hm (fun x hx => by rw [h2]; exact Fr_lt ((FrFrom_all s m).mp hf2 x hx)) m.length 0 [] (by omega) (by simp)
    refine ⟨v, K0 + K1 + m.length + 1, fun k hk => ?_, h5⟩
    unfold spec_l14Steps.f impl_nearest.f
    rw [Option.bind_some, (h0 k (by omega)).1, (h0 k (by omega)).2, Option.bind_some, Option.bind_some, if_pos rfl, if_pos rfl, (h1 k (by omega)).1, (h1 k (by omega)).2, Option.bind_some, Option.bind_some]
    exact h4 k (by omega)
end Go.Proofs.Ytooofofeihkpcaa.Pure
