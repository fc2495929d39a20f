/- Plain facts about windows: what the program's and the reference's functions answer. -/
import Derived.Test.YtpjmfmnnkcibjaaPim
import Derived.Test.YtpjmfmnnkcibjaaQ2
import Derived.Test.YtpjmfmnnkcibjaaQ3
import Derived.Test.YtpjmfmnnkcibjaaQ4
import Derived.Test.YtpjmfmnnkcibjaaQ6
import Derived.Test.YtpjmfmnnkcibjaaQ8
import Derived.Test.YtpjmfmnnkcibjaaQ7
import Derived.Test.YtpjmfmnnkcibjaaQ9
namespace Go.Proofs.Ytpjmfmnnkcibjaa.Pure
open Go.RowKit Go.Proofs.Ytpjmfmnnkcibjaa.Q Go.Proofs.YtpjmfmnnkcibjaaW.PrintWords Go.Proofs.YtpjmfmnnkcibjaaW.PrintLast

theorem l01In_eq (a b c : Int) : spec_l01In.f a b c = some (decide (b ≤ a ∧ a ≤ c)) := by
  unfold spec_l01In.f
  by_cases h : a ≥ b
  · rw [if_pos h]; congr 1; exact decide_eq_decide.mpr ⟨fun h2 => ⟨h, h2⟩, fun h2 => h2.2⟩
  · rw [if_neg h, decide_eq_false (fun h2 => h h2.1)]
theorem sz_eq (l : List Int) (hn : l.length ≤ 9223372036854775807) : laws_szIntS.f l 1048576 = some (if l.length ≤ 1048576 then 1048576 - (l.length : Int) else -1) := by
  unfold laws_szIntS.f
  rw [w64 (by omega) (by omega)]
  by_cases h : l.length ≤ 1048576
  · rw [if_neg (by omega), if_pos h]
  · rw [if_pos (by omega), if_neg h]
theorem szW_eq (a b : Int) (l : List Int) (hn : l.length ≤ 9223372036854775807) : laws_szWindow.f a b l 1048576 = some (if l.length ≤ 1048576 then 1048576 - (l.length : Int) else -1) := by
  unfold laws_szWindow.f
  rw [sz_eq l hn, Option.bind_some]
  by_cases h : l.length ≤ 1048576
  · simp only [if_pos h]; rw [if_neg (by omega)]
  · simp only [if_neg h]; rw [if_pos (by omega)]
theorem toW_ev (a b : Int) (l : List Int) (hn : l.length ≤ 1048576) : ∃ K, ∀ k, K ≤ k → laws_toWindow.f k a b l = some (a, b, l) := by
  obtain ⟨K, h⟩ := toIntS_ev l (by omega)
  exact ⟨K, fun k hk => by show laws_toWindow.f k a b l = _; unfold laws_toWindow.f; rw [h k hk]; rfl⟩
theorem eqW_ev (a b : Int) (l : List Int) (a' b' : Int) (l' : List Int) (hn : l.length ≤ 9223372036854775807) : ∃ K, ∀ k, K ≤ k → laws_eqWindow.f k a b l a' b' l' = some (decide (a = a' ∧ b = b' ∧ l = l')) := by
  obtain ⟨K, h⟩ := eqIntS_ev l l' hn
  refine ⟨K, fun k hk => ?_⟩
  show laws_eqWindow.f k a b l a' b' l' = _
  unfold laws_eqWindow.f
  have h := h k hk
  by_cases h1 : a = a'
  · by_cases h2 : b = b'
    · by_cases h3 : l = l'
      · simp [h1, h2, h3] at h ⊢; rw [h]; rfl
      · rw [if_pos h1, if_pos h2, h, decide_eq_false h3, decide_eq_false (fun e => h3 e.2.2)]; rfl
    · rw [if_pos h1, if_neg h2, decide_eq_false (fun e => h2 e.2.1)]
  · rw [if_neg h1, decide_eq_false (fun e => h1 e.1)]
theorem markW_ev (a b : Int) (l : List Int) (m : Int) (hn : l.length ≤ 1048576) (h0 : 0 ≤ m) (hm : m ≤ 1048576) : ∃ K, ∀ k, K ≤ k → laws_markWindow.f k a b l m = some (m + l.length, iota m l.length) := by
  obtain ⟨K, h⟩ := markIntS_ev l m (by omega) h0 (by omega)
  exact ⟨K, fun k hk => by show laws_markWindow.f k a b l m = _; unfold laws_markWindow.f; rw [h k hk]; rfl⟩
theorem heldW_ev (a b : Int) (n : Nat) (q : Int) (hn : n ≤ 1048576) (h0 : 0 ≤ q) (hq : q ≤ 1048576) : ∃ K, ∀ k, K ≤ k → laws_heldWindow.f k a b (iota q n) q = some (q + n) := by
  obtain ⟨K, h⟩ := heldIntS_ev n q (by omega) h0 (by omega)
  exact ⟨K, fun k hk => by show laws_heldWindow.f k a b _ q = _; unfold laws_heldWindow.f; rw [h k hk, Option.bind_some, if_neg (by omega)]⟩

/-- A window is right. -/
def WOk (a b : Int) (l : List Int) : Bool := impl_WindowOk.head a b l && !(l.any (impl_WindowOk.bad b))
theorem implOk_eq (a b : Int) (l : List Int) : impl_WindowOk.f a b l = some (WOk a b l) := rfl
theorem specOk_l0 (a b : Int) (l : List Int) (hn : l.length ≤ 9223372036854775807) : ∀ (d i k : Nat), i + d = l.length → d < k → spec_WindowOk.l0 k (i : Int) a b l = some (!((l.drop i).any (impl_WindowOk.bad b)))
  | 0, i, k, hi, hk => by
    obtain ⟨k, rfl⟩ : ∃ m, k = m + 1 := ⟨k - 1, by omega⟩
    simp only [spec_WindowOk.l0]
    rw [if_neg (by omega), List.drop_of_length_le (by omega)]
    rfl
  | d + 1, i, k, hi, hk => by
    obtain ⟨k, rfl⟩ : ∃ m, k = m + 1 := ⟨k - 1, by omega⟩
    simp only [spec_WindowOk.l0]
    rw [if_pos (by omega), if_pos (by omega), rd_get l i (by omega), l01In_eq, Option.bind_some, w64 (by omega) (by omega), show ((i : Int) + 1) = ((i + 1 : Nat) : Int) by omega,
      specOk_l0 a b l hn d (i + 1) k (by omega) (by omega), drop_cons l i (by omega), List.any_cons]
    unfold impl_WindowOk.bad
    by_cases h : 0 ≤ l[i]'(by omega) ∧ l[i]'(by omega) ≤ b
    · rw [decide_eq_true h, if_pos rfl, decide_eq_false (by omega), decide_eq_false (by omega)]; rfl
    · rw [decide_eq_false h, if_neg (by decide)]
      by_cases h1 : l[i]'(by omega) < 0
      · rw [decide_eq_true h1]; rfl
      · rw [decide_eq_false h1, decide_eq_true (by omega)]; rfl
theorem specOk_ev (a b : Int) (l : List Int) (hn : l.length ≤ 9223372036854775807) : ∃ K, ∀ k, K ≤ k → spec_WindowOk.f k a b l = some (WOk a b l) := by
  refine ⟨l.length + 3, fun k hk => ?_⟩
  obtain ⟨k, rfl⟩ : ∃ m, k = m + 1 := ⟨k - 1, by omega⟩
  show spec_WindowOk.f (k + 1) a b l = _
  unfold spec_WindowOk.f WOk impl_WindowOk.head
  rw [l01In_eq, Option.bind_some]
  by_cases h1 : 1 ≤ a ∧ a ≤ 8
  · rw [decide_eq_true h1, if_pos rfl, l01In_eq, Option.bind_some]
    by_cases h2 : 1 ≤ b ∧ b ≤ 100
    · rw [decide_eq_true h2, if_pos rfl, w64 (by omega) (by omega)]
      simp only [spec_WindowOk.j0]
      by_cases h3 : (l.length : Int) = a * 6
      · rw [if_neg (by simp [h3]), decide_eq_true (by omega), Bool.true_and]
        have := specOk_l0 a b l hn l.length 0 k (by omega) (by omega)
        simpa using this
      · rw [if_pos (by simp [h3]), decide_eq_false (by omega), Bool.false_and]
    · rw [decide_eq_false h2, if_neg (by decide), decide_eq_false (by omega), Bool.false_and]
      simp [spec_WindowOk.j0]
  · rw [decide_eq_false h1, if_neg (by decide), decide_eq_false (by omega), Bool.false_and]
    simp [spec_WindowOk.j0]
theorem WOk_iff (a b : Int) (l : List Int) (h : WOk a b l = true) : 1 ≤ a ∧ a ≤ 8 ∧ 1 ≤ b ∧ b ≤ 100 ∧ (l.length : Int) = a * 6 ∧ ∀ x ∈ l, 0 ≤ x ∧ x ≤ b := by
  unfold WOk impl_WindowOk.head at h
  rw [Bool.and_eq_true] at h
  obtain ⟨h1, h2⟩ := h
  have h1 := of_decide_eq_true h1
  refine ⟨h1.1, h1.2.1, h1.2.2.1, h1.2.2.2.1, h1.2.2.2.2, fun x hx => ?_⟩
  have h3 : l.any (impl_WindowOk.bad b) = false := by simpa using h2
  have := List.any_eq_false.mp h3 x hx
  unfold impl_WindowOk.bad at this
  simp at this
  omega
end Go.Proofs.Ytpjmfmnnkcibjaa.Pure
