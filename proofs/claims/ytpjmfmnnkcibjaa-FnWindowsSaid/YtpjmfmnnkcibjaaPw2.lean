/- Plain facts about the demands of a window: both functions add up the same counts in the same order. -/
import Derived.Test.YtpjmfmnnkcibjaaPw
import Derived.Test.YtpjmfmnnkcibjaaQ11
import Derived.Test.YtpjmfmnnkcibjaaQ12
import Derived.Test.YtpjmfmnnkcibjaaQ14
namespace Go.Proofs.Ytpjmfmnnkcibjaa.Pure
open Go.RowKit Go.Proofs.Ytpjmfmnnkcibjaa.Q Go.Proofs.YtpjmfmnnkcibjaaW.PrintWords Go.Proofs.YtpjmfmnnkcibjaaW.PrintLast
/-- The sum of the counts of a zone in d buckets from bucket b on, added to acc. -/
def dem (l : List Int) (z : Int) : Nat → Int → Int → Int
  | 0, acc, _ => acc
  | d + 1, acc, b => dem l z d (wrap64 (acc + rd l (b * 6 + z))) (b + 1)
/-- The demand of a zone. -/
def demOf (a b : Int) (l : List Int) (z : Int) : Int := if WOk a b l = true ∧ 0 ≤ z ∧ z ≤ 5 then dem l z a.toNat 0 0 else 0
theorem isZone_eq (z : Int) : impl_isZone.f z = some (decide (0 ≤ z ∧ z ≤ 5)) := by
  unfold impl_isZone.f
  by_cases h : z ≥ 0
  · rw [if_pos h]; congr 1; exact decide_eq_decide.mpr ⟨fun h2 => ⟨h, by omega⟩, fun h2 => by omega⟩
  · rw [if_neg h, decide_eq_false (fun h2 => h h2.1)]
theorem specDem_l0 (a b : Int) (l : List Int) (z : Int) (ha : 1 ≤ a ∧ a ≤ 8) (hl : (l.length : Int) = a * 6) (hz : 0 ≤ z ∧ z ≤ 5) : ∀ (d : Nat) (i acc : Int) (k : Nat), 0 ≤ i → i + d = a → d < k →
    spec_DemandOf.l0 k z acc i a b l = some (dem l z d acc i)
  | 0, i, acc, k, h0, hi, hk => by
    obtain ⟨k, rfl⟩ : ∃ m, k = m + 1 := ⟨k - 1, by omega⟩
    simp only [spec_DemandOf.l0]
    rw [if_neg (by omega)]
    rfl
  | d + 1, i, acc, k, h0, hi, hk => by
    obtain ⟨k, rfl⟩ : ∃ m, k = m + 1 := ⟨k - 1, by omega⟩
    simp only [spec_DemandOf.l0]
    rw [if_pos (by omega), w64 (x := i * 6) (by omega) (by omega), w64 (x := i * 6 + z) (by omega) (by omega), w64 (x := i + 1) (by omega) (by omega), if_pos (by omega), if_pos (by omega)]
    exact specDem_l0 a b l z ha hl hz d (i + 1) _ k (by omega) (by omega) (by omega)
theorem implDem_l0 (a b : Int) (l : List Int) (z : Int) (ha : 1 ≤ a ∧ a ≤ 8) (hl : (l.length : Int) = a * 6) (hz : 0 ≤ z ∧ z ≤ 5) : ∀ (d : Nat) (i acc : Int) (k : Nat), 0 ≤ i → i + d = a → d < k →
    impl_DemandOf.l0 k acc (i * 6 + z) a b l = some (dem l z d acc i)
  | 0, i, acc, k, h0, hi, hk => by
    obtain ⟨k, rfl⟩ : ∃ m, k = m + 1 := ⟨k - 1, by omega⟩
    simp only [impl_DemandOf.l0]
    rw [if_neg (by omega)]
    rfl
  | d + 1, i, acc, k, h0, hi, hk => by
    obtain ⟨k, rfl⟩ : ∃ m, k = m + 1 := ⟨k - 1, by omega⟩
    simp only [impl_DemandOf.l0]
    rw [if_pos (by omega), if_pos (by omega), w64 (x := i * 6 + z + 6) (by omega) (by omega), show i * 6 + z + 6 = (i + 1) * 6 + z by omega]
    exact implDem_l0 a b l z ha hl hz d (i + 1) _ k (by omega) (by omega) (by omega)
theorem specDem_ev (a b : Int) (l : List Int) (hn : l.length ≤ 9223372036854775807) : ∃ K, ∀ (z : Int) (k : Nat), K ≤ k → spec_DemandOf.f k a b l z = some (demOf a b l z) := by
  obtain ⟨K, h⟩ := specOk_ev a b l hn
  refine ⟨K + 11, fun z k hk => ?_⟩
  obtain ⟨k, rfl⟩ : ∃ m, k = m + 1 := ⟨k - 1, by omega⟩
  unfold spec_DemandOf.f demOf
  rw [h _ (by omega), Option.bind_some]
  by_cases hw : WOk a b l = true
  · rw [if_pos hw, l01In_eq, Option.bind_some]
    simp only [spec_DemandOf.j0]
    obtain ⟨h1, h2, h3, h4, h5, h6⟩ := WOk_iff a b l hw
    by_cases hz : 0 ≤ z ∧ z ≤ 5
    · rw [if_neg (by simp [hz]), if_pos ⟨hw, hz⟩]
      exact specDem_l0 a b l z ⟨h1, h2⟩ h5 hz a.toNat 0 0 k (by omega) (by omega) (by omega)
    · rw [if_pos (by rw [decide_eq_false hz]; rfl), if_neg (fun e => hz e.2)]
  · rw [if_neg hw, if_neg (fun e => hw e.1)]
    simp [spec_DemandOf.j0]
theorem implDem_ev (a b : Int) (l : List Int) : ∃ K, ∀ (z : Int) (k : Nat), K ≤ k → impl_DemandOf.f k a b l z = some (demOf a b l z) := by
  refine ⟨11, fun z k hk => ?_⟩
  obtain ⟨k, rfl⟩ : ∃ m, k = m + 1 := ⟨k - 1, by omega⟩
  unfold impl_DemandOf.f demOf
  rw [implOk_eq, Option.bind_some]
  by_cases hw : WOk a b l = true
  · rw [if_pos hw, isZone_eq, Option.bind_some]
    simp only [impl_DemandOf.j0]
    obtain ⟨h1, h2, h3, h4, h5, h6⟩ := WOk_iff a b l hw
    by_cases hz : 0 ≤ z ∧ z ≤ 5
    · rw [if_neg (by simp [hz]), if_pos ⟨hw, hz⟩]
      have := implDem_l0 a b l z ⟨h1, h2⟩ h5 hz a.toNat 0 0 k (by omega) (by omega) (by omega)
      simpa using this
    · rw [if_pos (by rw [decide_eq_false hz]; rfl), if_neg (fun e => hz e.2)]
  · rw [if_neg hw, if_neg (fun e => hw e.1)]
    simp [impl_DemandOf.j0]
/-- The demands of d zones from zone i on. -/
def demsFrom (a b : Int) (l : List Int) : Nat → Int → List Int
  | 0, _ => []
  | d + 1, i => demOf a b l i :: demsFrom a b l d (i + 1)
theorem demsFrom_length (a b : Int) (l : List Int) : ∀ (d : Nat) (i : Int), (demsFrom a b l d i).length = d
  | 0, _ => rfl
  | d + 1, i => by simp [demsFrom, demsFrom_length a b l d (i + 1)]
def demsOf (a b : Int) (l : List Int) : List Int := if WOk a b l = true then demsFrom a b l 6 0 else []
theorem demsOf_length (a b : Int) (l : List Int) : (demsOf a b l).length ≤ 6 := by
  unfold demsOf
  split
  · rw [demsFrom_length]; omega
  · simp
theorem specDems_l0 (a b : Int) (l : List Int) (hw : WOk a b l = true) (K : Nat) (h1 : ∀ k, K ≤ k → spec_WindowOk.f k a b l = some (WOk a b l)) (h2 : ∀ (z : Int) (k : Nat), K ≤ k → spec_DemandOf.f k a b l z = some (demOf a b l z)) :
    ∀ (d : Nat) (i : Int) (out : List Int) (k : Nat), 0 ≤ i → i + d = 6 → out.length + d ≤ 6 → K + d < k → spec_DemandsOf.l0 k out i a b l = some (out ++ demsFrom a b l d i)
  | 0, i, out, k, h0, hi, ho, hk => by
    obtain ⟨k, rfl⟩ : ∃ m, k = m + 1 := ⟨k - 1, by omega⟩
    simp only [spec_DemandsOf.l0]
    rw [if_neg (by omega)]
    simp [demsFrom]
  | d + 1, i, out, k, h0, hi, ho, hk => by
    obtain ⟨k, rfl⟩ : ∃ m, k = m + 1 := ⟨k - 1, by omega⟩
    simp only [spec_DemandsOf.l0]
    rw [if_pos (by omega), h1 _ (by omega), Option.bind_some, if_pos hw, h2 _ _ (by omega), Option.bind_some, if_pos (by omega), w64 (by omega) (by omega),
      specDems_l0 a b l hw K h1 h2 d (i + 1) _ k (by omega) (by omega) (by simp; omega) (by omega)]
    simp [demsFrom]
theorem specDems_ev (a b : Int) (l : List Int) (hn : l.length ≤ 9223372036854775807) : ∃ K, ∀ k, K ≤ k → spec_DemandsOf.f k a b l = some (demsOf a b l) := by
  obtain ⟨K1, h1⟩ := specOk_ev a b l hn
  obtain ⟨K2, h2⟩ := specDem_ev a b l hn
  refine ⟨K1 + K2 + 7, fun k hk => ?_⟩
  unfold spec_DemandsOf.f demsOf
  by_cases hw : WOk a b l = true
  · rw [if_pos hw]
    exact specDems_l0 a b l hw (K1 + K2) (fun k hk => h1 k (by omega)) (fun z k hk => h2 z k (by omega)) 6 0 [] k (by omega) (by omega) (by simp) (by omega)
  · obtain ⟨k, rfl⟩ : ∃ m, k = m + 1 := ⟨k - 1, by omega⟩
    simp only [spec_DemandsOf.l0]
    rw [if_pos (by omega), h1 _ (by omega), Option.bind_some, if_neg hw, if_neg hw]
theorem implDems_l0 (a b : Int) (l : List Int) (K : Nat) (h2 : ∀ (z : Int) (k : Nat), K ≤ k → impl_DemandOf.f k a b l z = some (demOf a b l z)) :
    ∀ (d : Nat) (i : Int) (out : List Int) (k : Nat), 0 ≤ i → i + d = 6 → out.length + d ≤ 6 → K + d < k → impl_DemandsOf.l0 k out i a b l = some (out ++ demsFrom a b l d i)
  | 0, i, out, k, h0, hi, ho, hk => by
    obtain ⟨k, rfl⟩ : ∃ m, k = m + 1 := ⟨k - 1, by omega⟩
    simp only [impl_DemandsOf.l0]
    rw [if_neg (by omega)]
    simp [demsFrom]
  | d + 1, i, out, k, h0, hi, ho, hk => by
    obtain ⟨k, rfl⟩ : ∃ m, k = m + 1 := ⟨k - 1, by omega⟩
    simp only [impl_DemandsOf.l0]
    rw [if_pos (by omega), h2 _ _ (by omega), Option.bind_some, if_pos (by omega), w64 (by omega) (by omega),
      implDems_l0 a b l K h2 d (i + 1) _ k (by omega) (by omega) (by simp; omega) (by omega)]
    simp [demsFrom]
theorem implDems_ev (a b : Int) (l : List Int) : ∃ K, ∀ k, K ≤ k → impl_DemandsOf.f k a b l = some (demsOf a b l) := by
  obtain ⟨K2, h2⟩ := implDem_ev a b l
  refine ⟨K2 + 7, fun k hk => ?_⟩
  unfold impl_DemandsOf.f demsOf
  rw [implOk_eq, Option.bind_some]
  by_cases hw : WOk a b l = true
  · rw [if_pos hw, if_pos hw]
    exact implDems_l0 a b l K2 h2 6 0 [] k (by omega) (by omega) (by simp) (by omega)
  · rw [if_neg hw, if_neg hw]
end Go.Proofs.Ytpjmfmnnkcibjaa.Pure
