/- The program's PricesOk answers what the reference's answers, for all nets, flows and prices. -/
import Derived.Test.YtkdemainohfgfaaPnet2
import Derived.Test.YtkdemainohfgfaaQ15
set_option linter.unusedSimpArgs false
set_option linter.unusedSectionVars false
namespace Go.Proofs.Ytkdemainohfgfaa.Pure
open Go.RowKit Go.Proofs.Ytkdemainohfgfaa.Q Go.Proofs.YtkdemainohfgfaaW.PrintWords Go.Proofs.YtkdemainohfgfaaW.PrintLast
section
variable (n : Int) (l : List AI) (f p : List Int) (hN : Nok n l) (hf : f.length = l.length) (hp : (p.length : Int) = n)
include hN hf hp
theorem prices_l1 : ∀ (d i : Nat), i + d = l.length → ∃ g K, ∀ k, K ≤ k → spec_PricesOk.l1 k f p (i : Int) n l = some g ∧ impl_PricesOk.l1 k f p l (l.length : Int) (i : Int) = some g
  | 0, i, hi => by
    refine ⟨true, 1, fun k hk => ?_⟩
    obtain ⟨k, rfl⟩ : ∃ m, k = m + 1 := ⟨k - 1, by omega⟩
    have e1 : ¬ (i : Int) < (l.length : Int) := by omega
    have e2 : ¬ (i : Int) < (f.length : Int) := by omega
    simp only [spec_PricesOk.l1, impl_PricesOk.l1, e1, e2, reduceIte, and_self]
  | d + 1, i, hi => by
    obtain ⟨g, K, h⟩ := prices_l1 d (i + 1) (by omega)
    have hil : i < l.length := by omega
    obtain ⟨hn, h32, hA⟩ := id hN
    obtain ⟨⟨a1, a2⟩, ⟨a3, a4⟩, _⟩ := hA i (Nat.zero_le _) hil
    have e1 : (i : Int) < (l.length : Int) := by clear h; omega
    have e2 : (i : Int) < (f.length : Int) := by clear h; omega
    have e3 : (0 : Int) ≤ i := by clear h; omega
    have a5 : l[i].f0 < (p.length : Int) := by rw [hp]; exact a2
    have a6 : l[i].f1 < (p.length : Int) := by rw [hp]; exact a4
    have e9 : wrap64 ((i : Int) + 1) = ((i + 1 : Nat) : Int) := by rw [w64 (by clear h; omega) (by clear h; omega)]; rfl
    have r1 := rdA_get l i hil
    have hK : ∀ k, K + 1 ≤ k → ∃ m, k = m + 1 ∧ K ≤ m := fun k hk => ⟨k - 1, by clear h; omega, by clear h; omega⟩
    by_cases c1 : rd f (i : Int) < l[i].f2
    · by_cases c2 : (wrap64 ((rd p l[i].f0) + l[i].f3)) < (rd p l[i].f1)
      · refine ⟨false, K + 1, fun k hk => ?_⟩
        obtain ⟨k, rfl, hk2⟩ := hK k hk
        simp only [spec_PricesOk.l1, impl_PricesOk.l1, r1, e1, e2, e3, a1, a3, a5, a6, c1, c2, reduceIte, and_self]
      · by_cases c3 : rd f (i : Int) > 0
        · by_cases c4 : (wrap64 ((rd p l[i].f1) - l[i].f3)) < (rd p l[i].f0)
          · refine ⟨false, K + 1, fun k hk => ?_⟩
            obtain ⟨k, rfl, hk2⟩ := hK k hk
            simp only [spec_PricesOk.l1, impl_PricesOk.l1, r1, e1, e2, e3, a1, a3, a5, a6, c1, c2, c3, c4, reduceIte, and_self]
          · refine ⟨g, K + 1, fun k hk => ?_⟩
            obtain ⟨k, rfl, hk2⟩ := hK k hk
            simp only [spec_PricesOk.l1, impl_PricesOk.l1, r1, e1, e2, e3, e9, a1, a3, a5, a6, c1, c2, c3, c4, reduceIte]
            exact h k hk2
        · refine ⟨g, K + 1, fun k hk => ?_⟩
          obtain ⟨k, rfl, hk2⟩ := hK k hk
          simp only [spec_PricesOk.l1, impl_PricesOk.l1, r1, e1, e2, e3, e9, a1, a3, a5, a6, c1, c2, c3, reduceIte]
          exact h k hk2
    · by_cases c3 : rd f (i : Int) > 0
      · by_cases c4 : (wrap64 ((rd p l[i].f1) - l[i].f3)) < (rd p l[i].f0)
        · refine ⟨false, K + 1, fun k hk => ?_⟩
          obtain ⟨k, rfl, hk2⟩ := hK k hk
          simp only [spec_PricesOk.l1, impl_PricesOk.l1, r1, e1, e2, e3, a1, a3, a5, a6, c1, c3, c4, reduceIte, and_self]
        · refine ⟨g, K + 1, fun k hk => ?_⟩
          obtain ⟨k, rfl, hk2⟩ := hK k hk
          simp only [spec_PricesOk.l1, impl_PricesOk.l1, r1, e1, e2, e3, e9, a1, a3, a5, a6, c1, c3, c4, reduceIte]
          exact h k hk2
      · refine ⟨g, K + 1, fun k hk => ?_⟩
        obtain ⟨k, rfl, hk2⟩ := hK k hk
        simp only [spec_PricesOk.l1, impl_PricesOk.l1, r1, e1, e2, e3, e9, a1, a3, a5, a6, c1, c3, reduceIte]
        exact h k hk2
theorem prices_l0 : ∀ (d i : Nat), (i : Int) + d = n → ∃ g K, ∀ k, K ≤ k → spec_PricesOk.l0 k f p (i : Int) n l = some g ∧ impl_PricesOk.l0 k f p p (p.length : Int) (i : Int) n l = some g
  | 0, i, hi => by
    obtain ⟨g, K, h⟩ := prices_l1 n l f p hN hf hp l.length 0 (by omega)
    have hK : ∀ k, K + 1 ≤ k → ∃ m, k = m + 1 ∧ K ≤ m := fun k hk => ⟨k - 1, by clear h; omega, by clear h; omega⟩
    have e1 : ¬ (i : Int) < n := by clear h; omega
    have e2 : ¬ (i : Int) < (p.length : Int) := by clear h; omega
    refine ⟨g, K + 1, fun k hk => ?_⟩
    obtain ⟨k, rfl, hk2⟩ := hK k hk
    simp only [spec_PricesOk.l0, impl_PricesOk.l0, e1, e2, reduceIte]
    exact h k hk2
  | d + 1, i, hi => by
    obtain ⟨g, K, h⟩ := prices_l0 d (i + 1) (by omega)
    have hn := hN.1
    have hK : ∀ k, K + 1 ≤ k → ∃ m, k = m + 1 ∧ K ≤ m := fun k hk => ⟨k - 1, by clear h; omega, by clear h; omega⟩
    have e1 : (i : Int) < n := by clear h; omega
    have e2 : (i : Int) < (p.length : Int) := by clear h; omega
    have e3 : (0 : Int) ≤ i := by clear h; omega
    have e9 : wrap64 ((i : Int) + 1) = ((i + 1 : Nat) : Int) := by rw [w64 (by clear h; omega) (by clear h; omega)]; rfl
    by_cases c : -1000000 ≤ rd p (i : Int) ∧ rd p (i : Int) ≤ 1000000
    · have b1 : ¬ rd p (i : Int) < -1000000 := Int.not_lt.mpr c.1
      have b2 : ¬ rd p (i : Int) > 1000000 := Int.not_lt.mpr c.2
      refine ⟨g, K + 1, fun k hk => ?_⟩
      obtain ⟨k, rfl, hk2⟩ := hK k hk
      simp only [spec_PricesOk.l0, impl_PricesOk.l0, e1, e2, e3, e9, l01In_eq, Option.bind_some, b1, b2, reduceIte]
      rw [decide_eq_true c]
      simp only [reduceIte]
      exact h k hk2
    · refine ⟨false, K + 1, fun k hk => ?_⟩
      obtain ⟨k, rfl, hk2⟩ := hK k hk
      simp only [spec_PricesOk.l0, impl_PricesOk.l0, e1, e2, e3, l01In_eq, Option.bind_some, reduceIte]
      rw [decide_eq_false c]
      simp only [Bool.false_eq_true, reduceIte, true_and]
      by_cases b1 : rd p (i : Int) < -1000000
      · simp only [b1, reduceIte]
      · have b2 : rd p (i : Int) > 1000000 := Int.lt_of_not_ge (fun h => c ⟨Int.not_lt.mp b1, h⟩)
        simp only [b1, b2, reduceIte]
end
theorem prices_ev (n : Int) (l : List AI) (f p : List Int) (hl : l.length ≤ 1048576) : ∃ v K, ∀ k, K ≤ k → spec_PricesOk.f k n l f p = some v ∧ impl_PricesOk.f k n l f p = some v := by
  obtain ⟨b, K1, h1, hb⟩ := flow_ev n l f hl
  have hj : ∀ k, spec_PricesOk.j0 (k + 1) f p true n l = some false := fun k => by simp only [spec_PricesOk.j0, reduceIte]
  have hj2 : ∀ k, impl_PricesOk.j0 (k + 1) f p true n l = some false := fun k => by simp only [impl_PricesOk.j0, reduceIte]
  cases b with
  | false =>
    refine ⟨false, K1 + 1, fun k hk => ?_⟩
    obtain ⟨k, rfl⟩ : ∃ m, k = m + 1 := ⟨k - 1, by omega⟩
    unfold spec_PricesOk.f impl_PricesOk.f
    rw [(h1 (k + 1) (by omega)).1, (h1 (k + 1) (by omega)).2]
    simp only [Option.bind_some, Bool.false_eq_true, reduceIte, hj, hj2, and_self]
  | true =>
    obtain ⟨hN, hf, _⟩ := hb rfl
    by_cases hp : (p.length : Int) = n
    · obtain ⟨D, hD⟩ : ∃ D : Nat, ((0 : Nat) : Int) + D = n := ⟨n.toNat, by have := hN.1; omega⟩
      obtain ⟨g, K, h⟩ := prices_l0 n l f p hN hf hp D 0 hD
      refine ⟨g, K1 + K + 1, fun k hk => ?_⟩
      obtain ⟨k, rfl, k1, k2⟩ : ∃ m, k = m + 1 ∧ K1 ≤ m + 1 ∧ K ≤ m := ⟨k - 1, by clear h; omega, by clear h; omega, by clear h; omega⟩
      have e : ((p.length : Int) != n) = false := by rw [hp]; simp
      unfold spec_PricesOk.f impl_PricesOk.f
      rw [(h1 (k + 1) k1).1, (h1 (k + 1) k1).2]
      simp only [Option.bind_some, reduceIte, e]
      simp only [spec_PricesOk.j0, impl_PricesOk.j0, Bool.false_eq_true, reduceIte]
      exact h k k2
    · refine ⟨false, K1 + 1, fun k hk => ?_⟩
      obtain ⟨k, rfl⟩ : ∃ m, k = m + 1 := ⟨k - 1, by omega⟩
      have e : ((p.length : Int) != n) = true := by simpa using hp
      unfold spec_PricesOk.f impl_PricesOk.f
      rw [(h1 (k + 1) (by omega)).1, (h1 (k + 1) (by omega)).2]
      simp only [Option.bind_some, reduceIte, e, hj, hj2, and_self]
theorem FnExactPricesOk : laws_FnExactPricesOk.Pure := by
  intro n l f p _ hl _ _ _ _ _
  by_cases hf : f.length ≤ 1048576
  · by_cases hp : p.length ≤ 1048576
    · by_cases hz : l.length ≤ 1048576
      · obtain ⟨v, K0, h0⟩ := prices_ev n (l.map toA) f p (by simpa using hz)
        obtain ⟨K1, h1⟩ := toIntS_ev f (by omega)
        obtain ⟨K2, h2⟩ := toIntS_ev p (by omega)
        obtain ⟨K3, h3⟩ := eqIntS_ev f f (by omega)
        obtain ⟨K4, h4⟩ := eqIntS_ev p p (by omega)
        have h5 := toNet_ev n l hz
        have h6 := eqNet_ev n (l.map toA) (by simpa using hz)
        refine ⟨K0 + K1 + K2 + K3 + K4 + l.length + 1, ?_⟩
        obtain ⟨h7, h8⟩ := h0 (K0 + K1 + K2 + K3 + K4 + l.length + 1) (by omega)
        have h6' := h6 (K0 + K1 + K2 + K3 + K4 + l.length + 1) (by simp; omega)
        unfold laws_FnExactPricesOk.f
        rw [if_neg (by omega), if_neg (by omega), szNet_eq n l hl, if_pos hz, Option.bind_some, if_neg (by omega)]
        simp (disch := omega) only [h5, h1, h2, h7, h8, h3, h4, h6', Option.bind_some, bne_self_eq_false, Bool.false_eq_true, reduceIte, decide_true]
      · refine ⟨0, ?_⟩
        unfold laws_FnExactPricesOk.f
        rw [if_neg (by omega), if_neg (by omega), szNet_eq n l hl, if_neg hz, Option.bind_some, if_pos (by decide)]
    · refine ⟨0, ?_⟩
      unfold laws_FnExactPricesOk.f
      rw [if_neg (by omega), if_pos (by omega)]
  · refine ⟨0, ?_⟩
    unfold laws_FnExactPricesOk.f
    rw [if_pos (by omega)]
end Go.Proofs.Ytkdemainohfgfaa.Pure
