/- Plain facts about deals: what DealOk answers; both functions add up the same rooms in the same order. -/
import Derived.Test.YtngoejcaabgidaaPi
import Derived.Test.YtngoejcaabgidaaPin
import Derived.Test.YtngoejcaabgidaaQ1
import Derived.Test.YtngoejcaabgidaaQ2
namespace Go.Proofs.Ytngoejcaabgidaa.Pure
open Go.RowKit Go.Proofs.Ytngoejcaabgidaa.Q Go.Proofs.YtngoejcaabgidaaW.PrintWords Go.Proofs.YtngoejcaabgidaaW.PrintLast
/-- All numbers are wants. -/
def Wants (l : List Int) : Bool := !(l.any impl_areWants.bad)
theorem implWants_eq (l : List Int) : impl_areWants.f l = some (Wants l) := rfl
theorem Wants_mem (l : List Int) (h : Wants l = true) : ∀ x ∈ l, 0 ≤ x ∧ x ≤ 10000 := by
  intro x hx
  have h3 : l.any impl_areWants.bad = false := by simpa [Wants] using h
  have := List.any_eq_false.mp h3 x hx
  unfold impl_areWants.bad at this
  simp at this
  omega
theorem Wants_of (l : List Int) (h : ∀ x ∈ l, 0 ≤ x ∧ x ≤ 10000) : Wants l = true := by
  unfold Wants
  rw [Bool.not_eq_true', List.any_eq_false]
  intro x hx
  have := h x hx
  unfold impl_areWants.bad
  simp
  omega
theorem specList_l0 (l : List Int) (hn : l.length ≤ 9223372036854775807) : ∀ (d i k : Nat), i + d = l.length → d < k → spec_l18List.l0 k l (i : Int) = some (Wants (l.drop i))
  | 0, i, k, hi, hk => by
    obtain ⟨k, rfl⟩ : ∃ m, k = m + 1 := ⟨k - 1, by omega⟩
    simp only [spec_l18List.l0]
    rw [if_neg (by omega), List.drop_of_length_le (by omega)]
    rfl
  | d + 1, i, k, hi, hk => by
    obtain ⟨k, rfl⟩ : ∃ m, k = m + 1 := ⟨k - 1, by omega⟩
    simp only [spec_l18List.l0]
    rw [if_pos (by omega), if_pos (by omega), rd_get l i (by omega), l01In_eq, Option.bind_some, w64 (by omega) (by omega), show ((i : Int) + 1) = ((i + 1 : Nat) : Int) by omega,
      specList_l0 l hn d (i + 1) k (by omega) (by omega), drop_cons l i (by omega)]
    unfold Wants
    rw [List.any_cons]
    unfold impl_areWants.bad
    by_cases h : 0 ≤ l[i]'(by omega) ∧ l[i]'(by omega) ≤ 10000
    · rw [decide_eq_true h, if_pos rfl, decide_eq_false (by omega), decide_eq_false (by omega)]; rfl
    · rw [decide_eq_false h, if_neg (by decide)]
      by_cases h1 : l[i]'(by omega) < 0
      · rw [decide_eq_true h1]; rfl
      · rw [decide_eq_false h1, decide_eq_true (by omega)]; rfl
theorem specList_eq (l : List Int) (hn : l.length ≤ 9223372036854775807) (k : Nat) (hk : l.length < k) : spec_l18List.f k l = some (Wants l) := by
  have := specList_l0 l hn l.length 0 k (by omega) hk
  simpa [spec_l18List.f] using this
/-- The rooms of the places that want some, d of them from place i on, added to acc. -/
def roomSum (w r : List Int) : Nat → Nat → Int → Int
  | 0, _, acc => acc
  | d + 1, i, acc => roomSum w r d (i + 1) (if rd w i > 0 then wrap64 (acc + rd r i) else acc)
/-- The arguments of a deal are right. -/
def DOk (w r : List Int) (t : Int) : Bool := decide (w.length = r.length ∧ w.length ≤ 16 ∧ Wants w = true ∧ Wants r = true ∧ 0 ≤ t ∧ t ≤ roomSum w r w.length 0 0)
theorem specDeal_l0 (w r : List Int) (t : Int) (hl : w.length = r.length) (hn : w.length ≤ 16) : ∀ (d i k : Nat) (acc : Int), i + d = w.length → d < k → spec_DealOk.l0 k w r t acc (i : Int) = some (decide (0 ≤ t ∧ t ≤ roomSum w r d i acc))
  | 0, i, k, acc, hi, hk => by
    obtain ⟨k, rfl⟩ : ∃ m, k = m + 1 := ⟨k - 1, by omega⟩
    simp only [spec_DealOk.l0]
    rw [if_neg (by omega), l01In_eq]
    rfl
  | d + 1, i, k, acc, hi, hk => by
    obtain ⟨k, rfl⟩ : ∃ m, k = m + 1 := ⟨k - 1, by omega⟩
    simp only [spec_DealOk.l0]
    rw [if_pos (by omega), if_pos (by omega), w64 (x := (i : Int) + 1) (by omega) (by omega), show ((i : Int) + 1) = ((i + 1 : Nat) : Int) by omega, roomSum]
    by_cases h : rd w i > 0
    · rw [if_pos h, if_pos (by omega), if_pos h]
      exact specDeal_l0 w r t hl hn d (i + 1) k _ (by omega) (by omega)
    · rw [if_neg h, if_neg h]
      exact specDeal_l0 w r t hl hn d (i + 1) k _ (by omega) (by omega)
theorem implDeal_l0 (w r : List Int) (t : Int) (hl : w.length = r.length) (hn : w.length ≤ 16) : ∀ (d i k : Nat) (acc : Int), i + d = w.length → d < k → impl_DealOk.l0 k r t acc w (w.length : Int) (i : Int) = some (decide (0 ≤ t ∧ t ≤ roomSum w r d i acc))
  | 0, i, k, acc, hi, hk => by
    obtain ⟨k, rfl⟩ : ∃ m, k = m + 1 := ⟨k - 1, by omega⟩
    simp only [impl_DealOk.l0]
    rw [if_neg (by omega)]
    by_cases h : t ≥ 0
    · rw [if_pos h]; congr 1; exact decide_eq_decide.mpr ⟨fun h2 => ⟨h, h2⟩, fun h2 => h2.2⟩
    · rw [if_neg h, decide_eq_false (fun h2 => h h2.1)]
  | d + 1, i, k, acc, hi, hk => by
    obtain ⟨k, rfl⟩ : ∃ m, k = m + 1 := ⟨k - 1, by omega⟩
    simp only [impl_DealOk.l0]
    rw [if_pos (by omega), if_pos (by omega), if_pos (by omega), w64 (x := (i : Int) + 1) (by omega) (by omega), show ((i : Int) + 1) = ((i + 1 : Nat) : Int) by omega, roomSum]
    by_cases h : rd w i > 0
    · rw [if_pos h, if_pos (by omega), if_pos h]
      exact implDeal_l0 w r t hl hn d (i + 1) k _ (by omega) (by omega)
    · rw [if_neg h, if_neg h]
      exact implDeal_l0 w r t hl hn d (i + 1) k _ (by omega) (by omega)
theorem specDealOk_ev (w r : List Int) (t : Int) (hw : w.length ≤ 1048576) (hr : r.length ≤ 1048576) (k : Nat) (hk : w.length + r.length + 2 ≤ k) : spec_DealOk.f k w r t = some (DOk w r t) := by
  obtain ⟨k, rfl⟩ : ∃ m, k = m + 1 := ⟨k - 1, by omega⟩
  unfold spec_DealOk.f DOk
  by_cases h1 : w.length = r.length
  · rw [if_pos (by omega)]
    by_cases h2 : w.length ≤ 16
    · rw [if_neg (by omega), specList_eq w (by omega) _ (by omega), Option.bind_some]
      by_cases h3 : Wants w = true
      · rw [if_pos h3, specList_eq r (by omega) _ (by omega), Option.bind_some]
        simp only [spec_DealOk.j0]
        by_cases h4 : Wants r = true
        · rw [if_neg (by simp [h4])]
          have := specDeal_l0 w r t h1 h2 w.length 0 k 0 (by omega) (by omega)
          rw [show (0 : Int) = ((0 : Nat) : Int) from rfl] at this ⊢
          rw [this]
          congr 1
          exact decide_eq_decide.mpr ⟨fun h => ⟨h1, h2, h3, h4, h.1, h.2⟩, fun h => ⟨h.2.2.2.2.1, h.2.2.2.2.2⟩⟩
        · rw [if_pos (by simpa using h4), decide_eq_false (fun h => h4 h.2.2.2.1)]
      · rw [if_neg h3, decide_eq_false (fun h => h3 h.2.2.1)]
        simp [spec_DealOk.j0]
    · rw [if_pos (by omega), decide_eq_false (fun h => h2 h.2.1)]
      simp [spec_DealOk.j0]
  · rw [if_neg (by omega), decide_eq_false (fun h => h1 h.1)]
    simp [spec_DealOk.j0]
theorem implDealOk_ev (w r : List Int) (t : Int) (hw : w.length ≤ 1048576) (k : Nat) (hk : w.length + 2 ≤ k) : impl_DealOk.f k w r t = some (DOk w r t) := by
  obtain ⟨k, rfl⟩ : ∃ m, k = m + 1 := ⟨k - 1, by omega⟩
  unfold impl_DealOk.f DOk
  by_cases h1 : w.length = r.length
  · rw [if_pos (by omega)]
    by_cases h2 : w.length ≤ 16
    · rw [if_neg (by omega), implWants_eq, Option.bind_some]
      by_cases h3 : Wants w = true
      · rw [if_pos h3, implWants_eq, Option.bind_some]
        simp only [impl_DealOk.j0]
        by_cases h4 : Wants r = true
        · rw [if_neg (by simp [h4])]
          have := implDeal_l0 w r t h1 h2 w.length 0 k 0 (by omega) (by omega)
          rw [show (0 : Int) = ((0 : Nat) : Int) from rfl] at this ⊢
          rw [this]
          congr 1
          exact decide_eq_decide.mpr ⟨fun h => ⟨h1, h2, h3, h4, h.1, h.2⟩, fun h => ⟨h.2.2.2.2.1, h.2.2.2.2.2⟩⟩
        · rw [if_pos (by simpa using h4), decide_eq_false (fun h => h4 h.2.2.2.1)]
      · rw [if_neg h3, decide_eq_false (fun h => h3 h.2.2.1)]
        simp [impl_DealOk.j0]
    · rw [if_pos (by omega), decide_eq_false (fun h => h2 h.2.1)]
      simp [impl_DealOk.j0]
  · rw [if_neg (by omega), decide_eq_false (fun h => h1 h.1)]
    simp [impl_DealOk.j0]
end Go.Proofs.Ytngoejcaabgidaa.Pure
