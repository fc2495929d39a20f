/- The law FnDeals: a deal is fair, full places have their room, and of two other places with equal wants none has two more than the other. -/
import Derived.Test.YtngoejcaabgidaaPdsum
import Derived.Test.YtngoejcaabgidaaPdsh
import Derived.Test.YtngoejcaabgidaaQ13
import Derived.Test.YtngoejcaabgidaaQ11
import Derived.Test.YtngoejcaabgidaaQ7
set_option linter.unusedSimpArgs false
set_option linter.unusedSectionVars false
namespace Go.Proofs.Ytngoejcaabgidaa.Pure
open Go.RowKit Go.Proofs.Ytngoejcaabgidaa.Q Go.Proofs.YtngoejcaabgidaaW.PrintWords Go.Proofs.YtngoejcaabgidaaW.PrintLast
theorem psum_low (p : List Int) (n : Nat) (h : ∀ i : Nat, i < n → 0 ≤ rd p (i : Int)) : ∀ d i, i + d ≤ n → 0 ≤ psum p d i
  | 0, _, _ => Int.le_refl _
  | d + 1, i, hi => by
    have := psum_low p n h d (i + 1) (by omega)
    have := h i (by omega)
    unfold psum
    omega
section
variable (w r : List Int) (t : Int) (f : List Bool) (p : List Int) (hF : Fair w r t f p) (hn : w.length ≤ 16) (hr : r.length = w.length) (hw : Small w) (ht : t ≤ 160000)
include hF hn hr hw ht
theorem fairT_l1 (s : Int) (i : Nat) (hi : i < w.length) (hc : ∃ K, ∀ k, K ≤ k → impl_FairDeal.l0 k w r t p f s p (p.length : Int) ((i + 1 : Nat) : Int) = some true) :
    ∀ (d j : Nat), j + d = w.length → ∃ K, ∀ k, K ≤ k → impl_FairDeal.l1 k w r t p f s (i : Int) (rd p i) p (p.length : Int) (i : Int) p (p.length : Int) (j : Int) = some true
  | 0, j, hj => by
    obtain ⟨K, h⟩ := hc
    have hl := hF.len
    refine ⟨K + 1, fun k hk => ?_⟩
    obtain ⟨k, rfl⟩ : ∃ m, k = m + 1 := ⟨k - 1, by omega⟩
    rw [impl_FairDeal.l1, if_neg (by omega), show wrap64 ((i : Int) + 1) = ((i + 1 : Nat) : Int) from w64 (by omega) (by omega)]
    exact h k (by omega)
  | d + 1, j, hj => by
    obtain ⟨K, h⟩ := fairT_l1 s i hi hc d (j + 1) (by omega)
    have hl := hF.len
    have hfl := hF.flen
    have h1 : (j : Int) < (p.length : Int) := by omega
    have h2 : (j : Int) < (f.length : Int) := by omega
    have h3 : (j : Int) < (w.length : Int) := by omega
    have h4 : (i : Int) < (f.length : Int) := by omega
    have h5 : (i : Int) < (w.length : Int) := by omega
    refine ⟨K + 1, fun k hk => ?_⟩
    obtain ⟨k, rfl⟩ : ∃ m, k = m + 1 := ⟨k - 1, by omega⟩
    have hk' := h k (by omega)
    rw [impl_FairDeal.l1, show wrap64 ((j : Int) + 1) = ((j + 1 : Nat) : Int) from w64 (by omega) (by omega), if_pos h1, if_pos (by omega), if_pos h1, if_pos (by omega), if_pos h4, hk']
    by_cases a : rdOf false f (i : Int) = true
    · rw [if_pos a]
    · rw [if_neg a, if_pos h2]
      by_cases b : rdOf false f (j : Int) = true
      · rw [if_pos b]
      · rw [if_neg b, if_pos h5, if_pos h3]
        by_cases c : rd w (i : Int) > rd w (j : Int)
        · have := hF.more i j hi (by omega) a b c
          rw [if_pos c, if_neg (by omega)]
        · rw [if_neg c]
theorem fairT_l0 : ∀ (d i : Nat) (s : Int), i + d = w.length → s + psum p d i = t → 0 ≤ s → ∃ K, ∀ k, K ≤ k → impl_FairDeal.l0 k w r t p f s p (p.length : Int) (i : Int) = some true
  | 0, i, s, hi, hs, _ => by
    have hl := hF.len
    refine ⟨1, fun k hk => ?_⟩
    obtain ⟨k, rfl⟩ : ∃ m, k = m + 1 := ⟨k - 1, by omega⟩
    have e : s = t := by simpa [psum] using hs
    rw [impl_FairDeal.l0, if_neg (by omega), e]
    simp
  | d + 1, i, s, hi, hs, h0 => by
    have hl := hF.len
    have hlow := hF.low i (by omega)
    have hps := psum_low p w.length hF.low d (i + 1) (by omega)
    rw [psum] at hs
    obtain ⟨K1, h1⟩ := fairT_l0 d (i + 1) (s + rd p (i : Int)) (by omega) (by omega) (by omega)
    obtain ⟨K2, h2⟩ := fairT_l1 w r t f p hF hn hr hw ht (s + rd p (i : Int)) i (by omega) ⟨K1, h1⟩ w.length 0 (by omega)
    have hhigh := hF.high i (by omega)
    have a1 : (i : Int) < (p.length : Int) := by omega
    have a2 : (i : Int) < (r.length : Int) := by omega
    have a3 : (i : Int) < (w.length : Int) := by omega
    refine ⟨K2 + 2, fun k hk => ?_⟩
    obtain ⟨k, rfl⟩ : ∃ m, k = m + 2 := ⟨k - 2, by omega⟩
    have h2 := h2 k (by omega)
    rw [show ((0 : Nat) : Int) = 0 from rfl] at h2
    have hj : impl_FairDeal.j2 (k + 1) w r t p f s (i : Int) (rd p (i : Int)) p (p.length : Int) (i : Int) false = some true := by
      rw [impl_FairDeal.j2, if_neg (by decide), show wrap64 (s + rd p (i : Int)) = s + rd p (i : Int) from w64 (by omega) (by omega)]
      exact h2
    rw [impl_FairDeal.l0, if_pos a1, if_pos (by omega), if_pos a1, if_neg (by omega), if_pos a2, if_neg (by omega), if_pos a3]
    by_cases c : rd w (i : Int) = 0
    · have := hF.none i (by omega) c
      rw [if_pos c, show (rd p (i : Int) != 0) = false by rw [this]; rfl]
      exact hj
    · rw [if_neg c]
      exact hj
theorem dealsT_l1 (s : Int) (i : Nat) (hi : i < w.length) (hc : ∃ K, ∀ k, K ≤ k → laws_FnDeals.l0 k w r t p f s ((i + 1 : Nat) : Int) = some true) :
    ∀ (d j : Nat), j + d = w.length → ∃ K, ∀ k, K ≤ k → laws_FnDeals.l1 k w r t p f s (i : Int) (j : Int) = some true
  | 0, j, hj => by
    obtain ⟨K, h⟩ := hc
    have hl := hF.len
    refine ⟨K + 1, fun k hk => ?_⟩
    obtain ⟨k, rfl⟩ : ∃ m, k = m + 1 := ⟨k - 1, by omega⟩
    rw [laws_FnDeals.l1, if_neg (by omega), show wrap64 ((i : Int) + 1) = ((i + 1 : Nat) : Int) from w64 (by omega) (by omega)]
    exact h k (by omega)
  | d + 1, j, hj => by
    obtain ⟨K, h⟩ := dealsT_l1 s i hi hc d (j + 1) (by omega)
    have hl := hF.len
    have hfl := hF.flen
    have h1 : (j : Int) < (p.length : Int) := by omega
    have h2 : (j : Int) < (f.length : Int) := by omega
    have h3 : (j : Int) < (w.length : Int) := by omega
    have h4 : (i : Int) < (f.length : Int) := by omega
    have h5 : (i : Int) < (w.length : Int) := by omega
    have h6 : (i : Int) < (p.length : Int) := by omega
    refine ⟨K + 1, fun k hk => ?_⟩
    obtain ⟨k, rfl⟩ : ∃ m, k = m + 1 := ⟨k - 1, by omega⟩
    have hk' := h k (by omega)
    rw [laws_FnDeals.l1, show wrap64 ((j : Int) + 1) = ((j + 1 : Nat) : Int) from w64 (by omega) (by omega), if_pos h1, if_pos (by omega), if_pos h4, hk']
    by_cases a : rdOf false f (i : Int) = true
    · rw [if_pos a]
    · rw [if_neg a, if_pos (by omega), if_pos h2]
      by_cases b : rdOf false f (j : Int) = true
      · rw [if_pos b]
      · rw [if_neg b, if_pos h5, if_pos h3]
        by_cases c : rd w (i : Int) = rd w (j : Int)
        · have := hF.like i j hi (by omega) a b c
          have hlow := hF.low j (by omega)
          have hps := psum_low p w.length hF.low
          have hsum := hF.sum
          have hle : rd p (j : Int) ≤ 160000 := by
            have hone : ∀ d i, i + d ≤ w.length → i ≤ j → j < i + d → rd p (j : Int) ≤ psum p d i := by
              intro d
              induction d with
              | zero => intro i _ _ _; omega
              | succ d ih =>
                intro i h1 h2 h3
                have q1 := hps d (i + 1) (by omega)
                have q2 := hF.low i (by omega)
                rw [psum]
                by_cases e : i = j
                · subst e; omega
                · have := ih (i + 1) (by omega) (by omega) (by omega)
                  omega
            have := hone w.length 0 (by omega) (by omega) (by omega)
            omega
          rw [if_pos c, if_pos h6, show wrap64 (rd p (j : Int) + 1) = rd p (j : Int) + 1 from w64 (by omega) (by omega), if_neg (by omega)]
        · rw [if_neg c]
theorem dealsT_l0 : ∀ (d i : Nat) (s : Int), i + d = w.length → s + psum p d i = t → 0 ≤ s → ∃ K, ∀ k, K ≤ k → laws_FnDeals.l0 k w r t p f s (i : Int) = some true
  | 0, i, s, hi, hs, _ => by
    have hl := hF.len
    refine ⟨1, fun k hk => ?_⟩
    obtain ⟨k, rfl⟩ : ∃ m, k = m + 1 := ⟨k - 1, by omega⟩
    have e : s = t := by simpa [psum] using hs
    rw [laws_FnDeals.l0, if_neg (by omega), e]
    simp
  | d + 1, i, s, hi, hs, h0 => by
    have hl := hF.len
    have hfl := hF.flen
    have hlow := hF.low i (by omega)
    have hps := psum_low p w.length hF.low d (i + 1) (by omega)
    rw [psum] at hs
    obtain ⟨K1, h1⟩ := dealsT_l0 d (i + 1) (s + rd p (i : Int)) (by omega) (by omega) (by omega)
    obtain ⟨K2, h2⟩ := dealsT_l1 w r t f p hF hn hr hw ht (s + rd p (i : Int)) i (by omega) ⟨K1, h1⟩ w.length 0 (by omega)
    have a1 : (i : Int) < (p.length : Int) := by omega
    have a2 : (i : Int) < (r.length : Int) := by omega
    have a3 : (i : Int) < (w.length : Int) := by omega
    have a4 : (i : Int) < (f.length : Int) := by omega
    refine ⟨K2 + 2, fun k hk => ?_⟩
    obtain ⟨k, rfl⟩ : ∃ m, k = m + 2 := ⟨k - 2, by omega⟩
    have h2 := h2 k (by omega)
    rw [show ((0 : Nat) : Int) = 0 from rfl] at h2
    have hj : laws_FnDeals.j2 (k + 1) w r t p f (s + rd p (i : Int)) (i : Int) false = some true := by
      rw [laws_FnDeals.j2, if_neg (by decide)]
      exact h2
    rw [laws_FnDeals.l0, if_pos a1, if_pos (by omega), if_pos a4, show wrap64 (s + rd p (i : Int)) = s + rd p (i : Int) from w64 (by omega) (by omega)]
    by_cases c : rdOf false f (i : Int) = true
    · have hp := hF.pos i (by omega) c
      rw [if_pos c, if_pos a2, if_pos (hF.full i (by omega) c), if_pos a3, if_neg (by omega)]
      exact hj
    · rw [if_neg c, if_pos a3]
      by_cases c2 : rd w (i : Int) = 0
      · have := hF.none i (by omega) c2
        rw [if_pos c2, show (rd p (i : Int) != 0) = false by rw [this]; rfl]
        exact hj
      · rw [if_neg c2]
        exact hj
end
theorem FnDeals : laws_FnDeals.Pure := by
  intro s _ _ _
  by_cases hs : s.length ≤ 1048576
  · obtain ⟨w, r, t, K1, h1, hok⟩ := shares_ev s hs
    obtain ⟨hsw, hsr, hl, hn, ht0, ht1, hR0, hR1⟩ := DOk_facts w r t hok
    obtain ⟨K2, h2⟩ := deal_ev w r t (by omega) (by omega)
    obtain ⟨K3, h3⟩ := implFull_ev w r t (by omega)
    have h4 := fun k hk => implDealOk_ev w r t (by omega) k hk
    have hF := deal_fair w r t hok
    have hI := fun k hk => (h2 k hk).2
    have hlen := hF.len
    have hfl := hF.flen
    generalize dealL w r t = p at *
    generalize fullL w r t = f at *
    obtain ⟨K5, h5⟩ := fairT_l0 w r t f p hF hn hl.symm hsw ht1 w.length 0 0 (by omega) (by rw [hF.sum]; omega) (Int.le_refl _)
    obtain ⟨K6, h6⟩ := dealsT_l0 w r t f p hF hn hl.symm hsw ht1 w.length 0 0 (by omega) (by rw [hF.sum]; omega) (Int.le_refl _)
    have hFD : ∀ k, K3 + K5 + w.length + 3 ≤ k → impl_FairDeal.f k w r t p = some true := fun k hk => by
      obtain ⟨k, rfl⟩ : ∃ m, k = m + 1 := ⟨k - 1, by omega⟩
      unfold impl_FairDeal.f
      rw [h4 _ (by omega), Option.bind_some, hok, if_pos rfl, hlen]
      simp only [bne_self_eq_false, impl_FairDeal.j0, Bool.false_eq_true, reduceIte]
      rw [h3 k (by omega), Option.bind_some]
      have := h5 k (by omega)
      rw [show ((0 : Nat) : Int) = 0 from rfl] at this
      exact this
    refine ⟨K1 + K2 + K3 + K5 + K6 + w.length + w.length + 6, ?_⟩
    generalize hKK : K1 + K2 + K3 + K5 + K6 + w.length + w.length + 6 = k
    obtain ⟨k, rfl⟩ : ∃ m, k = m + 1 := ⟨k - 1, by omega⟩
    have e6 := h6 k (by omega)
    rw [show ((0 : Nat) : Int) = 0 from rfl] at e6
    have hwl : w.length < 17592186044416 := by omega
    have hrl : r.length < 17592186044416 := by omega
    have hpl : p.length < 17592186044416 := by omega
    have hb1 := h1 (k + 1) (by omega)
    have hb2 := hI (k + 1) (by omega)
    have hb3 := h3 (k + 1) (by omega)
    have hb4 := h4 (k + 1) (by omega)
    have hb5 := hFD (k + 1) (by omega)
    unfold laws_FnDeals.f laws_big.f
    rw [decide_eq_false (by omega)]
    simp only [Option.bind_some, Bool.false_eq_true, reduceIte, hb1, List.length_nil, Nat.zero_add, List.nil_append, if_pos hwl, if_pos hrl, if_pos hpl, hb2, hb3, hb4, hb5, hok, hlen, hfl, Bool.not_true, laws_FnDeals.j0]
    exact e6
  · refine ⟨0, ?_⟩
    unfold laws_FnDeals.f laws_big.f
    rw [decide_eq_true (by omega)]; rfl
end Go.Proofs.Ytngoejcaabgidaa.Pure
