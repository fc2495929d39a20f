/- Flows that are right, and the law's helpers over nets. -/
import Derived.Test.YtkdemainohfgfaaPnet
import Derived.Test.YtkdemainohfgfaaQ1
import Derived.Test.YtkdemainohfgfaaQ6
import Derived.Test.YtkdemainohfgfaaQ14
set_option linter.unusedSimpArgs false
set_option linter.unusedSectionVars false
namespace Go.Proofs.Ytkdemainohfgfaa.Pure
open Go.RowKit Go.Proofs.Ytkdemainohfgfaa.Q Go.Proofs.YtkdemainohfgfaaW.PrintWords Go.Proofs.YtkdemainohfgfaaW.PrintLast
abbrev AL := S77
def toA (x : AL) : AI := ⟨x.f0, x.f1, x.f2, x.f3⟩
theorem rdAL_get (l : List AL) (i : Nat) (h : i < l.length) : rd_T77 l (i : Int) = l[i] := by simp [rd_T77, h]
theorem szNet_eq (n : Int) (l : List AL) (hn : l.length ≤ 9223372036854775807) : laws_szNet.f n l 1048576 = some (if l.length ≤ 1048576 then 1048576 - (l.length : Int) else -1) := by
  unfold laws_szNet.f laws_szArcS.f
  rw [w64 (by omega) (by omega)]
  by_cases h : l.length ≤ 1048576
  · rw [if_neg (by omega), if_pos h, Option.bind_some, if_neg (by omega)]
  · rw [if_pos (by omega), if_neg h]; rfl
theorem toArcS_l0 (l : List AL) (hn : l.length ≤ 1048576) : ∀ (d i k : Nat) (out : List AI), out.length = l.length → i + d = l.length → (∀ j, j < i → out[j]? = (l.map toA)[j]?) → d < k →
    laws_toArcS.l0 k l out (i : Int) = some (l.map toA)
  | 0, i, k, out, ho, hi, hj, hk => by
    obtain ⟨k, rfl⟩ : ∃ m, k = m + 1 := ⟨k - 1, by omega⟩
    simp only [laws_toArcS.l0]
    rw [if_neg (by omega)]
    congr 1
    apply List.ext_getElem?
    intro j
    rcases Nat.lt_or_ge j l.length with h | h
    · exact hj j (by omega)
    · rw [List.getElem?_eq_none (by omega), List.getElem?_eq_none (by simp; omega)]
  | d + 1, i, k, out, ho, hi, hj, hk => by
    obtain ⟨k, rfl⟩ : ∃ m, k = m + 1 := ⟨k - 1, by omega⟩
    simp only [laws_toArcS.l0, laws_toArc.f, Option.bind_some]
    rw [if_pos (by omega), if_pos (by omega), if_pos (by omega), w64 (by omega) (by omega), show ((i : Int) + 1) = ((i + 1 : Nat) : Int) by omega]
    refine toArcS_l0 l hn d (i + 1) k _ (by simpa using ho) (by omega) (fun j hji => ?_) (by omega)
    rw [Int.toNat_natCast, rdAL_get l i (by omega), List.getElem?_set]
    by_cases e : i = j
    · subst e
      rw [if_pos rfl, if_pos (by omega), List.getElem?_map, List.getElem?_eq_getElem (by omega)]
      rfl
    · rw [if_neg e]
      exact hj j (by omega)
theorem toNet_ev (n : Int) (l : List AL) (hn : l.length ≤ 1048576) (k : Nat) (hk : l.length < k) : laws_toNet.f k n l = some (n, l.map toA) := by
  have h0 := toArcS_l0 l hn l.length 0 k (List.replicate ((l.length : Int)).toNat z53) (by simp) (by omega) (fun j hj => absurd hj (Nat.not_lt_zero _)) hk
  rw [show ((0 : Nat) : Int) = 0 from rfl] at h0
  unfold laws_toNet.f laws_toArcS.f
  rw [if_pos (by omega), if_pos (by omega), h0]
  rfl
theorem eqArcS_l0 (l : List AI) (hn : l.length ≤ 1048576) : ∀ (d i k : Nat), i + d = l.length → d < k → laws_eqArcS.l0 k l l (i : Int) = some true
  | 0, i, k, hi, hk => by
    obtain ⟨k, rfl⟩ : ∃ m, k = m + 1 := ⟨k - 1, by omega⟩
    simp only [laws_eqArcS.l0]
    rw [if_neg (by omega)]
  | d + 1, i, k, hi, hk => by
    obtain ⟨k, rfl⟩ : ∃ m, k = m + 1 := ⟨k - 1, by omega⟩
    simp only [laws_eqArcS.l0, laws_eqArc.f, reduceIte, Option.bind_some]
    rw [if_pos (by omega), if_pos (by omega), if_pos (by omega), w64 (by omega) (by omega), show ((i : Int) + 1) = ((i + 1 : Nat) : Int) by omega]
    exact eqArcS_l0 l hn d (i + 1) k (by omega) (by omega)
theorem eqNet_ev (n : Int) (l : List AI) (hn : l.length ≤ 1048576) (k : Nat) (hk : l.length < k) : laws_eqNet.f k n l n l = some true := by
  unfold laws_eqNet.f laws_eqArcS.f
  rw [if_pos rfl, if_pos rfl]
  have := eqArcS_l0 l hn l.length 0 k (by omega) hk
  rw [show ((0 : Nat) : Int) = 0 from rfl] at this
  rw [this]; rfl
section
variable (n : Int) (l : List AI) (f : List Int) (hN : Nok n l) (hf : f.length = l.length)
include hN hf
theorem flow_l0 (hc : FlFrom l f 0 → ∃ g K, ∀ k, K ≤ k → ((spec_l06Out.f k n l f).bind fun t130 => (spec_FlowOk.l1 k t130 2 n l)) = some g ∧ ((impl_excess.f k n l f).bind fun t193 => (impl_FlowOk.l1 k t193 (t193.length : Int) 0)) = some g) :
    ∀ (d i : Nat), i + d = l.length → (∀ j : Nat, j < i → (h : j < l.length) → 0 ≤ rd f (j : Int) ∧ rd f (j : Int) ≤ l[j].f2) → ∃ g K, (∀ k, K ≤ k → spec_FlowOk.l0 k f (i : Int) n l = some g ∧ impl_FlowOk.l0 k f l (l.length : Int) (i : Int) n l = some g) ∧ (g = true → FlFrom l f 0)
  | 0, i, hi, hj => by
    have hfl : FlFrom l f 0 := fun j _ h => hj j (by omega) h
    obtain ⟨g, K, h⟩ := hc hfl
    refine ⟨g, K + 1, fun k hk => ?_, fun _ => hfl⟩
    obtain ⟨k, rfl⟩ : ∃ m, k = m + 1 := ⟨k - 1, by omega⟩
    have e1 : ¬ (i : Int) < (l.length : Int) := by clear h hc; omega
    have e2 : ¬ (i : Int) < (f.length : Int) := by clear h hc; omega
    simp only [spec_FlowOk.l0, impl_FlowOk.l0, e1, e2, reduceIte]
    exact h k (by omega)
  | d + 1, i, hi, hj => by
    have hil : i < l.length := by omega
    have h32 := hN.2.1
    have e1 : (i : Int) < (l.length : Int) := by omega
    have e2 : (i : Int) < (f.length : Int) := by omega
    have e3 : (0 : Int) ≤ i := by omega
    have e9 : wrap64 ((i : Int) + 1) = ((i + 1 : Nat) : Int) := by rw [w64 (by omega) (by omega)]; rfl
    have r1 := rdA_get l i hil
    by_cases c : 0 ≤ rd f (i : Int) ∧ rd f (i : Int) ≤ l[i].f2
    · obtain ⟨g, K, h, h1⟩ := flow_l0 hc d (i + 1) (by omega) (fun j hji h => by
        rcases Nat.lt_or_ge j i with e | e
        · exact hj j e h
        · have : j = i := by omega
          subst this; exact c)
      refine ⟨g, K + 1, fun k hk => ?_, h1⟩
      obtain ⟨k, rfl⟩ : ∃ m, k = m + 1 := ⟨k - 1, by omega⟩
      have b1 : ¬ rd f (i : Int) < 0 := Int.not_lt.mpr c.1
      have b2 : ¬ rd f (i : Int) > l[i].f2 := Int.not_lt.mpr c.2
      simp only [spec_FlowOk.l0, impl_FlowOk.l0, r1, e1, e2, e3, e9, l01In_eq, Option.bind_some, c, and_self, decide_true, b1, b2, reduceIte]
      exact h k (by omega)
    · refine ⟨false, 1, fun k hk => ?_, fun h => (by cases h)⟩
      obtain ⟨k, rfl⟩ : ∃ m, k = m + 1 := ⟨k - 1, by omega⟩
      simp only [spec_FlowOk.l0, impl_FlowOk.l0, r1, e1, e2, e3, l01In_eq, Option.bind_some, c, decide_false, Bool.false_eq_true, reduceIte, true_and]
      by_cases b1 : rd f (i : Int) < 0
      · simp only [b1, reduceIte]
      · have b2 : rd f (i : Int) > l[i].f2 := Int.lt_of_not_ge (fun h => c ⟨Int.not_lt.mp b1, h⟩)
        simp only [b1, b2, reduceIte]
end
theorem flow_ev (n : Int) (l : List AI) (f : List Int) (hl : l.length ≤ 1048576) : ∃ g K, (∀ k, K ≤ k → spec_FlowOk.f k n l f = some g ∧ impl_FlowOk.f k n l f = some g) ∧ (g = true → Nok n l ∧ f.length = l.length ∧ FlFrom l f 0) := by
  obtain ⟨b, K1, h1, hb⟩ := net_ev n l hl
  have hj : ∀ k, spec_FlowOk.j0 (k + 1) f true n l = some false := fun k => by simp only [spec_FlowOk.j0, reduceIte]
  have hj2 : ∀ k, impl_FlowOk.j0 (k + 1) f true n l = some false := fun k => by simp only [impl_FlowOk.j0, reduceIte]
  cases b with
  | false =>
    refine ⟨false, K1 + 1, fun k hk => ?_, fun h => (by cases h)⟩
    obtain ⟨k, rfl⟩ : ∃ m, k = m + 1 := ⟨k - 1, by omega⟩
    unfold spec_FlowOk.f impl_FlowOk.f
    rw [(h1 (k + 1) (by omega)).1, (h1 (k + 1) (by omega)).2]
    simp only [Option.bind_some, Bool.false_eq_true, reduceIte, hj, hj2, and_self]
  | true =>
    have hN := hb.mp rfl
    by_cases hf : f.length = l.length
    · have hn := hN.1
      obtain ⟨g, K, h, hg⟩ := flow_l0 n l f hN hf (fun hfl => by
        obtain ⟨p, q, K2, h2, hp, hq, hr⟩ := excess_ev n l f hN hf hfl
        obtain ⟨D, hD⟩ : ∃ D : Nat, ((2 : Nat) : Int) + D = n := ⟨(n - 2).toNat, by clear h2 hr; omega⟩
        obtain ⟨g1, K3, h3, hg1⟩ := specBal_l1 n l p hp (by clear h2 hr; omega) D 2 hD (Nat.le_refl _)
        obtain ⟨D2, hD2⟩ : ∃ D : Nat, ((0 : Nat) : Int) + D = n := ⟨n.toNat, by clear h2 hr h3 hg1; omega⟩
        obtain ⟨g2, K4, h4, hg2⟩ := implBal_l1 n q hq (by clear h2 hr h3 hg1; omega) D2 0 hD2
        have hBB : Bal p n 2 ↔ Bal q n 0 := by
          constructor
          · intro hB j _ hj1 hj2
            rw [hr (j : Int) (by clear h2 hr h3 hg1 h4 hg2; omega), hB j hj2 hj1 hj2]; rfl
          · intro hB j _ hj1 hj2
            have := hB j (Nat.zero_le _) hj1 hj2
            rw [hr (j : Int) (by clear h2 hr h3 hg1 h4 hg2 this; omega)] at this
            exact Int.neg_eq_zero.mp this
        have hgg : g1 = g2 := by
          cases g1 with
          | true => exact (hg2.mpr (hBB.mp (hg1.mp rfl))).symm
          | false =>
            cases g2 with
            | false => rfl
            | true => exact hg1.mpr (hBB.mpr (hg2.mp rfl))
        subst hgg
        refine ⟨g1, K2 + K3 + K4, fun k hk => ⟨?_, ?_⟩⟩
        · rw [(h2 k (by clear h2 hr h3 hg1 h4 hg2; omega)).1, Option.bind_some]
          exact h3 k (by clear h2 hr h3 hg1 h4 hg2; omega)
        · rw [(h2 k (by clear h2 hr h3 hg1 h4 hg2; omega)).2, Option.bind_some]
          exact h4 k (by clear h2 hr h3 hg1 h4 hg2; omega)) l.length 0 (by omega) (fun j h => absurd h (Nat.not_lt_zero _))
      refine ⟨g, K1 + K + 1, fun k hk => ?_, fun hgt => ⟨hN, hf, hg hgt⟩⟩
      obtain ⟨k, rfl⟩ : ∃ m, k = m + 1 := ⟨k - 1, by omega⟩
      have e : ((f.length : Int) != (l.length : Int)) = false := by rw [hf]; simp
      unfold spec_FlowOk.f impl_FlowOk.f
      rw [(h1 (k + 1) (by omega)).1, (h1 (k + 1) (by omega)).2]
      simp only [Option.bind_some, reduceIte, e]
      simp only [spec_FlowOk.j0, impl_FlowOk.j0, Bool.false_eq_true, reduceIte]
      exact h k (by omega)
    · refine ⟨false, K1 + 1, fun k hk => ?_, fun h => (by cases h)⟩
      obtain ⟨k, rfl⟩ : ∃ m, k = m + 1 := ⟨k - 1, by omega⟩
      have e : ((f.length : Int) != (l.length : Int)) = true := by simp; omega
      unfold spec_FlowOk.f impl_FlowOk.f
      rw [(h1 (k + 1) (by omega)).1, (h1 (k + 1) (by omega)).2]
      simp only [Option.bind_some, reduceIte, e, hj, hj2, and_self]
end Go.Proofs.Ytkdemainohfgfaa.Pure
