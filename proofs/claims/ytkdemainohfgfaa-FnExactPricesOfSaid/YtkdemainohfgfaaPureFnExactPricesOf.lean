/- The program's PricesOf answers what the reference's answers, for all nets and flows; the answer is new memory. -/
import Derived.Test.YtkdemainohfgfaaPAllFnExactPricesOf
import Derived.Test.YtkdemainohfgfaaQ11
import Derived.Test.YtkdemainohfgfaaQ10
set_option linter.unusedSimpArgs false
namespace Go.Proofs.Ytkdemainohfgfaa.Pure
open Go.RowKit Go.Proofs.Ytkdemainohfgfaa.Q Go.Proofs.YtkdemainohfgfaaW.PrintWords Go.Proofs.YtkdemainohfgfaaW.PrintLast
/-- Four marks in an arc. -/
def mk4 (l : List AI) (i : Nat) (m : Int) : List AI :=
  let l1 := l.set i (⟨m, (rd_T53 l (i : Int)).f1, (rd_T53 l (i : Int)).f2, (rd_T53 l (i : Int)).f3⟩ : AI)
  let l2 := l1.set i (⟨(rd_T53 l1 (i : Int)).f0, m + 1, (rd_T53 l1 (i : Int)).f2, (rd_T53 l1 (i : Int)).f3⟩ : AI)
  let l3 := l2.set i (⟨(rd_T53 l2 (i : Int)).f0, (rd_T53 l2 (i : Int)).f1, m + 2, (rd_T53 l2 (i : Int)).f3⟩ : AI)
  l3.set i (⟨(rd_T53 l3 (i : Int)).f0, (rd_T53 l3 (i : Int)).f1, (rd_T53 l3 (i : Int)).f2, m + 3⟩ : AI)
theorem markArcS_l0 : ∀ (d i : Nat) (l : List AI) (m : Int), i + d = l.length → l.length ≤ 1048576 → 0 ≤ m → m + 4 * d ≤ 100000000 → ∃ x K, ∀ k, K ≤ k → laws_markArcS.l0 k l m (i : Int) = some (m + 4 * d, x)
  | 0, i, l, m, hi, hl, h0, hm => by
    refine ⟨l, 1, fun k hk => ?_⟩
    obtain ⟨k, rfl⟩ : ∃ m, k = m + 1 := ⟨k - 1, by omega⟩
    rw [laws_markArcS.l0, if_neg (by omega)]
    simp
  | d + 1, i, l, m, hi, hl, h0, hm => by
    have e1 : wrap64 (m + 1) = m + 1 := w64 (by omega) (by omega)
    have e2 : wrap64 (m + 1 + 1) = m + 2 := by rw [w64 (by omega) (by omega)]; omega
    have e3 : wrap64 (m + 2 + 1) = m + 3 := by rw [w64 (by omega) (by omega)]; omega
    have e4 : wrap64 (m + 3 + 1) = m + 4 := by rw [w64 (by omega) (by omega)]; omega
    have e9 : wrap64 ((i : Int) + 1) = ((i + 1 : Nat) : Int) := w64 (by omega) (by omega)
    have hstep : ∀ k, laws_markArcS.l0 (k + 1) l m (i : Int) = laws_markArcS.l0 k (mk4 l i m) (m + 4) ((i + 1 : Nat) : Int) := fun k => by
      rw [laws_markArcS.l0, if_pos (by omega), if_pos (by omega), Option.bind_some, Option.bind_some, Option.bind_some, Int.toNat_natCast, e1, e2, e3, e4, e9]
      rfl
    have hl' : (mk4 l i m).length = l.length := by simp [mk4]
    clear e1 e2 e3 e4 e9
    obtain ⟨x, K, h⟩ := markArcS_l0 d (i + 1) (mk4 l i m) (m + 4) (by omega) (by omega) (by omega) (by omega)
    refine ⟨x, K + 1, fun k hk => ?_⟩
    obtain ⟨k, rfl⟩ : ∃ m, k = m + 1 := ⟨k - 1, by omega⟩
    rw [hstep k, h k (by omega), show m + 4 + 4 * (d : Int) = m + 4 * ((d + 1 : Nat) : Int) by omega]
theorem markNet_ev (n : Int) (l : List AI) (hl : l.length ≤ 1048576) : ∃ x K, ∀ k, K ≤ k → laws_markNet.f k n l 1 = some (1 + 4 * (l.length : Int), x) := by
  obtain ⟨x, K, h⟩ := markArcS_l0 l.length 0 l 1 (by omega) hl (by omega) (by omega)
  refine ⟨x, K, fun k hk => ?_⟩
  unfold laws_markNet.f laws_markArcS.f
  have := h k hk
  rw [show ((0 : Nat) : Int) = 0 from rfl] at this
  rw [this]; rfl
theorem FnExactPricesOf : laws_FnExactPricesOf.Pure := by
  intro n l f _ hl _ _ _
  by_cases hf : f.length ≤ 1048576
  · by_cases hz : l.length ≤ 1048576
    · obtain ⟨v, K0, hv, h0⟩ := pricesOf_ev n (l.map toA) f (by simpa using hz)
      obtain ⟨v, ok⟩ := v
      simp only at hv
      have hS := fun k hk => (h0 k hk).1
      have hI := fun k hk => (h0 k hk).2
      clear h0
      obtain ⟨K1, h1⟩ := toIntS_ev f (by omega)
      obtain ⟨K3, h3⟩ := eqIntS_ev f f (by omega)
      obtain ⟨K4, h4⟩ := eqIntS_ev v v (by omega)
      have h5 := toNet_ev n l hz
      have h6 : ∀ k, l.length < k → laws_eqNet.f k n (l.map toA) n (l.map toA) = some true := fun k hk => eqNet_ev n (l.map toA) (by simpa using hz) k (by simpa using hk)
      obtain ⟨x, K7, h7⟩ := markNet_ev n (l.map toA) (by simpa using hz)
      rw [List.length_map] at h7
      obtain ⟨K8, h8⟩ := markIntS_ev f (1 + 4 * (l.length : Int)) (by omega) (by omega) (by omega)
      obtain ⟨K9, h9⟩ := markIntS_ev v 1 (by omega) (by omega) (by omega)
      obtain ⟨K10, h10⟩ := heldIntS_ev v.length 1 (by omega) (by omega) (by omega)
      refine ⟨K0 + K1 + K3 + K4 + K7 + K8 + K9 + K10 + l.length + 5, ?_⟩
      have hm : ¬ (1 + 4 * (l.length : Int) + (f.length : Int)) < 0 := by omega
      have hq : ¬ (1 + (v.length : Int)) < 0 := by omega
      unfold laws_FnExactPricesOf.f
      rw [if_neg (by omega), szNet_eq n l hl, if_pos hz, Option.bind_some, if_neg (by omega)]
      simp (disch := omega) only [h5, h1, hS, hI, h3, h4, h6, h7, h8, h9, h10, hm, hq, Option.bind_some, bne_self_eq_false, Bool.false_eq_true, reduceIte, decide_true]
      simp only [laws_FnExactPricesOf.j0]
      simp (disch := omega) only [h5, h1, hS, hI, h3, h4, h6, h7, h8, h9, h10, hm, hq, Option.bind_some, bne_self_eq_false, Bool.false_eq_true, reduceIte, decide_true]
      simp only [laws_FnExactPricesOf.j1]
      simp (disch := omega) only [h5, h1, hS, hI, h3, h4, h6, h7, h8, h9, h10, hm, hq, Option.bind_some, bne_self_eq_false, Bool.false_eq_true, reduceIte, decide_true]
      simp only [laws_FnExactPricesOf.j2]
      simp (disch := omega) only [h5, h1, hS, hI, h3, h4, h6, h7, h8, h9, h10, hm, hq, Option.bind_some, bne_self_eq_false, Bool.false_eq_true, reduceIte, decide_true]
    · refine ⟨0, ?_⟩
      unfold laws_FnExactPricesOf.f
      rw [if_neg (by omega), szNet_eq n l hl, if_neg hz, Option.bind_some, if_pos (by decide)]
  · refine ⟨0, ?_⟩
    unfold laws_FnExactPricesOf.f
    rw [if_pos (by omega)]
end Go.Proofs.Ytkdemainohfgfaa.Pure
