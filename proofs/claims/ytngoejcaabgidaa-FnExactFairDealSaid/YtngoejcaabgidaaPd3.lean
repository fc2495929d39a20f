/- FairDeal: the program's walk and the reference's answer alike, loop by loop. -/
import Derived.Test.YtngoejcaabgidaaPd2
import Derived.Test.YtngoejcaabgidaaQ15
import Derived.Test.YtngoejcaabgidaaQ16
set_option linter.unusedSimpArgs false
namespace Go.Proofs.Ytngoejcaabgidaa.Pure
open Go.RowKit Go.Proofs.Ytngoejcaabgidaa.Q Go.Proofs.YtngoejcaabgidaaW.PrintWords Go.Proofs.YtngoejcaabgidaaW.PrintLast

section
variable (w r : List Int) (t : Int) (p : List Int) (f : List Bool) (hp : p.length = w.length) (hr : r.length = w.length) (hf : f.length = w.length) (hn : w.length ≤ 16)
include hp hr hf hn
theorem fair_l1 (s : Int) (i : Nat) (hi : i < w.length)
    (hc : ∃ v K, ∀ k, K ≤ k → spec_FairDeal.l0 k w r t p f s (wrap64 ((i : Int) + 1)) = some v ∧ impl_FairDeal.l0 k w r t p f s p (p.length : Int) (wrap64 ((i : Int) + 1)) = some v) :
    ∀ (d j : Nat), j + d = w.length → ∃ v K, ∀ k, K ≤ k → spec_FairDeal.l1 k w r t p f s (i : Int) (j : Int) = some v ∧ impl_FairDeal.l1 k w r t p f s (i : Int) (rd p i) p (p.length : Int) (i : Int) p (p.length : Int) (j : Int) = some v
  | 0, j, hj => by
    obtain ⟨v, K, h⟩ := hc
    refine ⟨v, K + 1, fun k hk => ?_⟩
    obtain ⟨k, rfl⟩ : ∃ m, k = m + 1 := ⟨k - 1, by omega⟩
    obtain ⟨h1, h2⟩ := h k (by omega)
    have e1 : ¬ (j : Int) < (p.length : Int) := by omega
    simp only [spec_FairDeal.l1, impl_FairDeal.l1, e1, reduceIte, h1, h2, and_self]
  | d + 1, j, hj => by
    obtain ⟨v, K, h⟩ := fair_l1 s i hi hc d (j + 1) (by omega)
    have e1 : (j : Int) < (p.length : Int) := by omega
    have e2 : (j : Int) < (f.length : Int) := by omega
    have e3 : (j : Int) < (w.length : Int) := by omega
    have e4 : (i : Int) < (p.length : Int) := by omega
    have e5 : (i : Int) < (f.length : Int) := by omega
    have e6 : (i : Int) < (w.length : Int) := by omega
    have e7 : (0 : Int) ≤ i := by omega
    have e8 : (0 : Int) ≤ j := by omega
    have e9 : wrap64 ((j : Int) + 1) = ((j + 1 : Nat) : Int) := by rw [w64 (by omega) (by omega)]; rfl
    by_cases a : rdOf false f i = true
    · refine ⟨v, K + 1, fun k hk => ?_⟩
      obtain ⟨k, rfl⟩ : ∃ m, k = m + 1 := ⟨k - 1, by omega⟩
      obtain ⟨h1, h2⟩ := h k (by omega)
      simp only [spec_FairDeal.l1, impl_FairDeal.l1, e1, e2, e3, e4, e5, e6, e7, e8, e9, a, reduceIte, h1, h2, and_self]
    · by_cases b : rdOf false f j = true
      · refine ⟨v, K + 1, fun k hk => ?_⟩
        obtain ⟨k, rfl⟩ : ∃ m, k = m + 1 := ⟨k - 1, by omega⟩
        obtain ⟨h1, h2⟩ := h k (by omega)
        simp only [spec_FairDeal.l1, impl_FairDeal.l1, e1, e2, e3, e4, e5, e6, e7, e8, e9, a, b, Bool.false_eq_true, reduceIte, h1, h2, and_self]
      · by_cases c : rd w i > rd w j
        · by_cases e : rd p i < rd p j
          · refine ⟨false, 1, fun k hk => ?_⟩
            obtain ⟨k, rfl⟩ : ∃ m, k = m + 1 := ⟨k - 1, by omega⟩
            simp only [spec_FairDeal.l1, impl_FairDeal.l1, e1, e2, e3, e4, e5, e6, e7, e8, e9, a, b, c, e, Bool.false_eq_true, reduceIte, and_self]
          · refine ⟨v, K + 1, fun k hk => ?_⟩
            obtain ⟨k, rfl⟩ : ∃ m, k = m + 1 := ⟨k - 1, by omega⟩
            obtain ⟨h1, h2⟩ := h k (by omega)
            simp only [spec_FairDeal.l1, impl_FairDeal.l1, e1, e2, e3, e4, e5, e6, e7, e8, e9, a, b, c, e, Bool.false_eq_true, reduceIte, h1, h2, and_self]
        · refine ⟨v, K + 1, fun k hk => ?_⟩
          obtain ⟨k, rfl⟩ : ∃ m, k = m + 1 := ⟨k - 1, by omega⟩
          obtain ⟨h1, h2⟩ := h k (by omega)
          simp only [spec_FairDeal.l1, impl_FairDeal.l1, e1, e2, e3, e4, e5, e6, e7, e8, e9, a, b, c, Bool.false_eq_true, reduceIte, h1, h2, and_self]
theorem fair_l0 : ∀ (d i : Nat) (s : Int), i + d = w.length → ∃ v K, ∀ k, K ≤ k → spec_FairDeal.l0 k w r t p f s (i : Int) = some v ∧ impl_FairDeal.l0 k w r t p f s p (p.length : Int) (i : Int) = some v
  | 0, i, s, hi => by
    refine ⟨s == t, 1, fun k hk => ?_⟩
    obtain ⟨k, rfl⟩ : ∃ m, k = m + 1 := ⟨k - 1, by omega⟩
    have e1 : ¬ (i : Int) < (p.length : Int) := by omega
    simp only [spec_FairDeal.l0, impl_FairDeal.l0, e1, reduceIte, and_self]
  | d + 1, i, s, hi => by
    have e4 : (i : Int) < (p.length : Int) := by omega
    have e5 : (i : Int) < (r.length : Int) := by omega
    have e6 : (i : Int) < (w.length : Int) := by omega
    have e7 : (0 : Int) ≤ i := by omega
    have e9 : wrap64 ((i : Int) + 1) = ((i + 1 : Nat) : Int) := by rw [w64 (by omega) (by omega)]; rfl
    have hc := fair_l0 d (i + 1) (wrap64 (s + rd p i)) (by omega)
    rw [← e9] at hc
    obtain ⟨v, K, h⟩ := fair_l1 w r t p f hp hr hf hn (wrap64 (s + rd p i)) i (by omega) hc w.length 0 (by omega)
    by_cases a : rd p i < 0
    · refine ⟨false, 2, fun k hk => ?_⟩
      obtain ⟨k, rfl⟩ : ∃ m, k = m + 2 := ⟨k - 2, by omega⟩
      have b : ¬ (0 ≤ rd p i ∧ rd p i ≤ rd r i) := by omega
      simp only [spec_FairDeal.l0, impl_FairDeal.l0, spec_FairDeal.j2, impl_FairDeal.j2, l01In_eq, Option.bind_some, decide_false, e4, e5, e6, e7, e9, a, b, Bool.false_eq_true, reduceIte, and_self]
    · by_cases a2 : rd p i > rd r i
      · refine ⟨false, 2, fun k hk => ?_⟩
        obtain ⟨k, rfl⟩ : ∃ m, k = m + 2 := ⟨k - 2, by omega⟩
        have b : ¬ (0 ≤ rd p i ∧ rd p i ≤ rd r i) := by omega
        simp only [spec_FairDeal.l0, impl_FairDeal.l0, spec_FairDeal.j2, impl_FairDeal.j2, l01In_eq, Option.bind_some, decide_false, e4, e5, e6, e7, e9, a, a2, b, Bool.false_eq_true, reduceIte, and_self]
      · have b : (0 ≤ rd p i ∧ rd p i ≤ rd r i) := by omega
        by_cases c : rd w i = 0
        · by_cases z : (rd p i != 0) = true
          · refine ⟨false, 2, fun k hk => ?_⟩
            obtain ⟨k, rfl⟩ : ∃ m, k = m + 2 := ⟨k - 2, by omega⟩
            simp only [spec_FairDeal.l0, impl_FairDeal.l0, spec_FairDeal.j2, impl_FairDeal.j2, l01In_eq, Option.bind_some, decide_true, e4, e5, e6, e7, e9, a, a2, b, c, z, Bool.false_eq_true, reduceIte, and_self]
          · refine ⟨v, K + 2, fun k hk => ?_⟩
            obtain ⟨k, rfl⟩ : ∃ m, k = m + 2 := ⟨k - 2, by omega⟩
            obtain ⟨h1, h2⟩ := h k (by omega)
            simp only [spec_FairDeal.l0, impl_FairDeal.l0, spec_FairDeal.j2, impl_FairDeal.j2, l01In_eq, Option.bind_some, decide_true, e4, e5, e6, e7, a, a2, b, c, z, Bool.false_eq_true, reduceIte]
            exact ⟨h1, h2⟩
        · refine ⟨v, K + 2, fun k hk => ?_⟩
          obtain ⟨k, rfl⟩ : ∃ m, k = m + 2 := ⟨k - 2, by omega⟩
          obtain ⟨h1, h2⟩ := h k (by omega)
          simp only [spec_FairDeal.l0, impl_FairDeal.l0, spec_FairDeal.j2, impl_FairDeal.j2, l01In_eq, Option.bind_some, decide_true, e4, e5, e6, e7, a, a2, b, c, Bool.false_eq_true, reduceIte]
          exact ⟨h1, h2⟩
end
theorem fair_ev (w r : List Int) (t : Int) (p : List Int) (hw : w.length ≤ 1048576) (hr : r.length ≤ 1048576) : ∃ v K, ∀ k, K ≤ k → spec_FairDeal.f k w r t p = some v ∧ impl_FairDeal.f k w r t p = some v := by
  by_cases h : DOk w r t = true
  · obtain ⟨g1, g2, _⟩ := DOk_len w r t h
    have hl := fullL_length w r t h
    obtain ⟨K1, h1⟩ := specFull_ev w r t hw hr
    obtain ⟨K2, h2⟩ := implFull_ev w r t hw
    by_cases hp : p.length = w.length
    · obtain ⟨v, K, hh⟩ := fair_l0 w r t p (fullL w r t) hp (by omega) hl g2 w.length 0 0 (by omega)
      refine ⟨v, K1 + K2 + K + w.length + r.length + 3, fun k hk => ?_⟩
      obtain ⟨k, rfl⟩ : ∃ m, k = m + 1 := ⟨k - 1, by omega⟩
      obtain ⟨q1, q2⟩ := hh k (by omega)
      have e : ((p.length : Int) != (w.length : Int)) = false := by simp; omega
      unfold spec_FairDeal.f impl_FairDeal.f
      rw [specDealOk_ev w r t hw hr (k + 1) (by omega), implDealOk_ev w r t hw (k + 1) (by omega), h]
      simp only [Option.bind_some, reduceIte, e]
      simp only [spec_FairDeal.j0, impl_FairDeal.j0]
      rw [h1 k (by omega), h2 k (by omega)]
      simp only [Option.bind_some, Bool.false_eq_true, reduceIte]
      exact ⟨q1, q2⟩
    · refine ⟨false, w.length + r.length + 3, fun k hk => ?_⟩
      obtain ⟨k, rfl⟩ : ∃ m, k = m + 1 := ⟨k - 1, by omega⟩
      have e : ((p.length : Int) != (w.length : Int)) = true := by simp; omega
      unfold spec_FairDeal.f impl_FairDeal.f
      rw [specDealOk_ev w r t hw hr (k + 1) (by omega), implDealOk_ev w r t hw (k + 1) (by omega), h]
      simp only [Option.bind_some, reduceIte, e]
      simp only [spec_FairDeal.j0, impl_FairDeal.j0, reduceIte, and_self]
  · refine ⟨false, w.length + r.length + 3, fun k hk => ?_⟩
    obtain ⟨k, rfl⟩ : ∃ m, k = m + 1 := ⟨k - 1, by omega⟩
    unfold spec_FairDeal.f impl_FairDeal.f
    rw [specDealOk_ev w r t hw hr (k + 1) (by omega), implDealOk_ev w r t hw (k + 1) (by omega)]
    simp only [Option.bind_some, h, Bool.false_eq_true, reduceIte]
    simp only [spec_FairDeal.j0, impl_FairDeal.j0, reduceIte, and_self]
end Go.Proofs.Ytngoejcaabgidaa.Pure
