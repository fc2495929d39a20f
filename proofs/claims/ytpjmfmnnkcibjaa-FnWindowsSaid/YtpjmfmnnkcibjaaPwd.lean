/- What is drawn for the windows' law: right windows, and places that are no less than 0. -/
import Derived.Test.YtpjmfmnnkcibjaaPw3
import Derived.Test.YtpjmfmnnkcibjaaPw2
import Derived.Test.YtpjmfmnnkcibjaaQ28
import Derived.Test.YtpjmfmnnkcibjaaQ27
import Derived.Laws.Bits128
set_option linter.unusedSimpArgs false
set_option linter.unusedSectionVars false
namespace Go.Proofs.Ytpjmfmnnkcibjaa.Pure
open Go.RowKit Go.Proofs.Ytpjmfmnnkcibjaa.Q Go.Proofs.YtpjmfmnnkcibjaaW.PrintWords Go.Proofs.YtpjmfmnnkcibjaaW.PrintLast
theorem and255 (n : Int) : Go.bits .and .i64 n 255 = n % 256 := by
  have h255 : (BitVec.ofInt 64 255).toNat = 2 ^ 8 - 1 := by decide
  have key : (BitVec.ofInt 64 n &&& BitVec.ofInt 64 255).toNat = (n % ((2 ^ 64 : Nat) : Int)).toNat % 2 ^ 8 := by
    rw [BitVec.toNat_and, BitVec.toNat_ofInt, h255, Nat.and_two_pow_sub_one_eq_mod]
  show IntKind.i64.wrap ((BitVec.ofInt 64 n &&& BitVec.ofInt 64 255).toNat : Nat) = n % 256
  rw [key, IntKind.wrap_i64]
  omega
theorem and255_range (n : Int) : 0 ≤ Go.bits .and .i64 n 255 ∧ Go.bits .and .i64 n 255 ≤ 255 := by rw [and255]; omega
section
variable (s : List Int) (hs : s.length ≤ 1048576)
include hs
theorem byte_ev (i h : Int) (hi : 0 ≤ i) : ∃ v i' h', spec_l01Byte.f s i h = some (v, i', h') ∧ 0 ≤ v ∧ v ≤ 255 ∧ 0 ≤ i' := by
  unfold spec_l01Byte.f
  by_cases c : i < (s.length : Int)
  · rw [if_pos c, if_pos hi]
    refine ⟨_, _, _, rfl, (and255_range _).1, (and255_range _).2, ?_⟩
    rw [w64 (by omega) (by omega)]; omega
  · rw [if_neg c]
    exact ⟨_, _, _, rfl, (and255_range _).1, (and255_range _).2, hi⟩
theorem below_ev (i h n : Int) (hi : 0 ≤ i) (hn : 1 ≤ n) (hn2 : n ≤ 256) : ∃ v i' h', spec_l01Below.f s i h n = some (v, i', h') ∧ 0 ≤ v ∧ v < n ∧ 0 ≤ i' := by
  obtain ⟨v, i', h', e, h0, h1, h2⟩ := byte_ev s hs i h hi
  refine ⟨Int.tmod v n, i', h', ?_, ?_, ?_, h2⟩
  · unfold spec_l01Below.f
    rw [if_neg (by omega), if_pos hn2, e, Option.bind_some]
    simp only
    rw [if_neg (by omega)]
  · rw [Int.tmod_eq_emod_of_nonneg h0]; exact Int.emod_nonneg _ (by omega)
  · rw [Int.tmod_eq_emod_of_nonneg h0]; exact Int.emod_lt_of_pos _ (by omega)
theorem below4_ev (i h n : Int) (hi : 0 ≤ i) (hn : 256 < n) : ∃ v i' h', spec_l01Below.f s i h n = some (v, i', h') ∧ 0 ≤ v ∧ v < n ∧ 0 ≤ i' := by
  obtain ⟨v1, i1, h1, e1, a1, b1, c1⟩ := byte_ev s hs i h hi
  obtain ⟨v2, i2, h2, e2, a2, b2, c2⟩ := byte_ev s hs i1 h1 c1
  obtain ⟨v3, i3, h3, e3, a3, b3, c3⟩ := byte_ev s hs i2 h2 c2
  obtain ⟨v4, i4, h4, e4, a4, b4, c4⟩ := byte_ev s hs i3 h3 c3
  have hv : wrap64 ((wrap64 ((wrap64 ((wrap64 (v1 * 16777216)) + (wrap64 (v2 * 65536)))) + (wrap64 (v3 * 256)))) + v4) = v1 * 16777216 + v2 * 65536 + v3 * 256 + v4 := by
    rw [w64 (x := v1 * 16777216) (by omega) (by omega), w64 (x := v2 * 65536) (by omega) (by omega), w64 (x := v3 * 256) (by omega) (by omega), w64 (x := v1 * 16777216 + v2 * 65536) (by omega) (by omega), w64 (x := v1 * 16777216 + v2 * 65536 + v3 * 256) (by omega) (by omega), w64 (by omega) (by omega)]
  have hv0 : 0 ≤ v1 * 16777216 + v2 * 65536 + v3 * 256 + v4 := by omega
  refine ⟨Int.tmod (v1 * 16777216 + v2 * 65536 + v3 * 256 + v4) n, i4, h4, ?_, ?_, ?_, c4⟩
  · unfold spec_l01Below.f
    rw [if_neg (by omega), if_neg (by omega), e1]
    simp only [Option.bind_some]
    rw [e2]
    simp only [Option.bind_some]
    rw [e3]
    simp only [Option.bind_some]
    rw [e4]
    simp only [Option.bind_some]
    rw [if_neg (by omega), hv]
  · rw [Int.tmod_eq_emod_of_nonneg hv0]; exact Int.emod_nonneg _ (by omega)
  · rw [Int.tmod_eq_emod_of_nonneg hv0]; exact Int.emod_lt_of_pos _ (by omega)
theorem once_ev (i h n : Int) (hi : 0 ≤ i) (hn : 1 ≤ n) (hn2 : n ≤ 256) : ∃ b i' h', spec_l01Once.f s i h n = some (b, i', h') ∧ 0 ≤ i' := by
  obtain ⟨v, i', h', e, _, _, h2⟩ := below_ev s hs i h n hi hn hn2
  refine ⟨v == 0, i', h', ?_, h2⟩
  unfold spec_l01Once.f
  rw [e]; rfl
theorem new_l0 : ∀ (d i : Nat) (h : Int), i + d = min s.length 4000 → ∃ h' K, ∀ k, K ≤ k → spec_l01New.l0 k s h (i : Int) = some (s, 0, h')
  | 0, i, h, hi => by
    refine ⟨h, 1, fun k hk => ?_⟩
    obtain ⟨k, rfl⟩ : ∃ m, k = m + 1 := ⟨k - 1, by omega⟩
    simp only [spec_l01New.l0]
    by_cases c : (i : Int) < (s.length : Int)
    · rw [if_pos c, if_neg (by omega)]
    · rw [if_neg c]
  | d + 1, i, h, hi => by
    obtain ⟨h', K, hh⟩ := new_l0 d (i + 1) (Go.bits .and .i64 (wrap64 ((wrap64 ((wrap64 (h * 131)) + (wrap64 (rd s (i : Int))))) + 7)) 1073741823) (by omega)
    refine ⟨h', K + 1, fun k hk => ?_⟩
    obtain ⟨k, rfl⟩ : ∃ m, k = m + 1 := ⟨k - 1, by omega⟩
    simp only [spec_l01New.l0]
    rw [if_pos (by omega), if_pos (by omega), if_pos (by omega), w64 (x := (i : Int) + 1) (by omega) (by omega), show ((i : Int) + 1) = ((i + 1 : Nat) : Int) by omega]
    exact hh k (by omega)
theorem new_ev : ∃ h K, ∀ k, K ≤ k → spec_l01New.f k s = some (s, 0, h) := by
  obtain ⟨h, K, hh⟩ := new_l0 s hs (min s.length 4000) 0 (wrap64 (94701 + (s.length : Int))) (by omega)
  exact ⟨h, K, fun k hk => hh k hk⟩
end
theorem WOk_of (a b : Int) (l : List Int) (h : 1 ≤ a ∧ a ≤ 8 ∧ 1 ≤ b ∧ b ≤ 100 ∧ (l.length : Int) = a * 6 ∧ ∀ x ∈ l, 0 ≤ x ∧ x ≤ b) : WOk a b l = true := by
  unfold WOk impl_WindowOk.head
  rw [Bool.and_eq_true]
  refine ⟨decide_eq_true ⟨h.1, h.2.1, h.2.2.1, h.2.2.2.1, h.2.2.2.2.1⟩, ?_⟩
  rw [Bool.not_eq_true', List.any_eq_false]
  intro x hx
  have := h.2.2.2.2.2 x hx
  unfold impl_WindowOk.bad
  simp
  omega
theorem WOk_turned (a b : Int) (l : List Int) (h : WOk a b l = true) : WOk a b (turnedL a b l) = true := by
  have hlen := turnedL_length a b l
  obtain ⟨h1, h2, h3, h4, h5, h6⟩ := WOk_iff a b l h
  refine WOk_of a b _ ⟨h1, h2, h3, h4, by rw [hlen]; exact h5, fun x hx => ?_⟩
  unfold turnedL at hx
  rw [if_pos h] at hx
  rcases List.mem_append.mp hx with e | e
  · have := List.eq_of_mem_replicate e; omega
  · exact h6 x (List.mem_of_mem_take e)
theorem mn_range (x b : Int) (hx : 0 ≤ x) (hb : 0 ≤ b) : 0 ≤ mn x b ∧ mn x b ≤ b := by
  unfold mn
  split <;> omega
theorem WOk_order (a b : Int) (l : List Int) (z : Int) (h : WOk a b l = true) : WOk a b (orderL a b l z) = true := by
  have hlen := orderL_length a b l z
  obtain ⟨h1, h2, h3, h4, h5, h6⟩ := WOk_iff a b l h
  refine WOk_of a b _ ⟨h1, h2, h3, h4, by rw [hlen]; exact h5, fun x hx => ?_⟩
  unfold orderL at hx
  split at hx
  · rename_i hc
    rcases List.mem_or_eq_of_mem_set hx with e | e
    · exact h6 x e
    · have hz : 0 ≤ rd l z ∧ rd l z ≤ b := by
        have : rd l z = l[z.toNat]'(by omega) := by
          have := rd_get l z.toNat (by omega)
          rwa [Int.toNat_of_nonneg hc.2.1] at this
        rw [this]
        exact h6 _ (List.getElem_mem _)
      rw [w64 (by omega) (by omega)] at e
      rw [e]
      exact mn_range _ _ (by omega) (by omega)
  · exact h6 x hx
theorem WOk_len (a b : Int) (l : List Int) (h : WOk a b l = true) : l.length ≤ 48 := by
  obtain ⟨h1, h2, h3, h4, h5, h6⟩ := WOk_iff a b l h
  omega
theorem right_l0 (s : List Int) (hs : s.length ≤ 1048576) (a b : Int) : ∀ (d n : Nat) (i h : Int) (l : List Int), n + d = 30 → 0 ≤ i → WOk a b l = true → ∃ l' i' h' K, (∀ k, K ≤ k → spec_l17Right.l0 k (n : Int) s i h a b l = some (a, b, l', i', h')) ∧ WOk a b l' = true
  | 0, n, i, h, l, hn, hi, hw => by
    obtain ⟨v, i1, h1, e1, a1, b1, c1⟩ := below_ev s hs i h 30 hi (by omega) (by omega)
    refine ⟨l, i1, h1, 1, fun k hk => ?_, hw⟩
    obtain ⟨k, rfl⟩ : ∃ m, k = m + 1 := ⟨k - 1, by omega⟩
    simp only [spec_l17Right.l0]
    rw [e1]
    simp only [Option.bind_some]
    rw [if_neg (by omega)]
  | d + 1, n, i, h, l, hn, hi, hw => by
    obtain ⟨v, i1, h1, e1, a1, b1, c1⟩ := below_ev s hs i h 30 hi (by omega) (by omega)
    by_cases c : (n : Int) < v
    · obtain ⟨q, i2, h2, e2, c2⟩ := once_ev s hs i1 h1 5 c1 (by omega) (by omega)
      have hlen := WOk_len a b l hw
      cases q with
      | true =>
        obtain ⟨K1, hT⟩ := specTurned_ev a b l (by omega)
        obtain ⟨l', i', h', K, hh, hw'⟩ := right_l0 s hs a b d (n + 1) i2 h2 (turnedL a b l) (by omega) c2 (WOk_turned a b l hw)
        refine ⟨l', i', h', K + K1 + 1, fun k hk => ?_, hw'⟩
        obtain ⟨k, rfl⟩ : ∃ m, k = m + 1 := ⟨k - 1, by omega⟩
        simp only [spec_l17Right.l0]
        rw [e1]
        simp only [Option.bind_some]
        rw [if_pos c, e2]
        simp only [Option.bind_some, reduceIte]
        rw [hT k (by omega)]
        simp only [Option.bind_some]
        rw [w64 (x := (n : Int) + 1) (by omega) (by omega), show ((n : Int) + 1) = ((n + 1 : Nat) : Int) by omega]
        exact hh k (by omega)
      | false =>
        obtain ⟨z, i3, h3, e3, a3, b3, c3⟩ := below_ev s hs i2 h2 6 c2 (by omega) (by omega)
        obtain ⟨K1, hT⟩ := specOrder_ev a b l z (by omega)
        obtain ⟨l', i', h', K, hh, hw'⟩ := right_l0 s hs a b d (n + 1) i3 h3 (orderL a b l z) (by omega) c3 (WOk_order a b l z hw)
        refine ⟨l', i', h', K + K1 + 1, fun k hk => ?_, hw'⟩
        obtain ⟨k, rfl⟩ : ∃ m, k = m + 1 := ⟨k - 1, by omega⟩
        simp only [spec_l17Right.l0]
        rw [e1]
        simp only [Option.bind_some]
        rw [if_pos c, e2]
        simp only [Option.bind_some, Bool.false_eq_true, reduceIte]
        rw [e3]
        simp only [Option.bind_some]
        rw [hT k (by omega)]
        simp only [Option.bind_some]
        rw [w64 (x := (n : Int) + 1) (by omega) (by omega), show ((n : Int) + 1) = ((n + 1 : Nat) : Int) by omega]
        exact hh k (by omega)
    · refine ⟨l, i1, h1, 1, fun k hk => ?_, hw⟩
      obtain ⟨k, rfl⟩ : ∃ m, k = m + 1 := ⟨k - 1, by omega⟩
      simp only [spec_l17Right.l0]
      rw [e1]
      simp only [Option.bind_some]
      rw [if_neg c]
/-- A right window is drawn. -/
theorem drawRight_ev (s : List Int) (hs : s.length ≤ 1048576) : ∃ a b l K, (∀ k, K ≤ k → spec_DrawRight.f k s = some (a, b, l)) ∧ WOk a b l = true := by
  obtain ⟨h, K0, h0⟩ := new_ev s hs
  obtain ⟨v1, i1, h1, e1, a1, b1, c1⟩ := below_ev s hs 0 h 5 (by omega) (by omega) (by omega)
  obtain ⟨v2, i2, h2, e2, a2, b2, c2⟩ := below_ev s hs i1 h1 6 c1 (by omega) (by omega)
  have hN : spec_WindowNew.f (wrap64 (1 + v1)) (wrap64 (1 + v2)) = some (1 + v1, 1 + v2, List.replicate ((1 + v1) * 6).toNat 0, true) := by
    unfold spec_WindowNew.f
    rw [w64 (x := 1 + v1) (by omega) (by omega), w64 (x := 1 + v2) (by omega) (by omega), l01In_eq, Option.bind_some, decide_eq_true (by omega), if_pos rfl, l01In_eq, Option.bind_some, decide_eq_true (by omega), if_pos rfl, w64 (by omega) (by omega), if_pos (by omega), if_pos (by omega)]
  have hw : WOk (1 + v1) (1 + v2) (List.replicate ((1 + v1) * 6).toNat 0) = true := WOk_of _ _ _ ⟨by omega, by omega, by omega, by omega, by simp; omega, fun x hx => by have := List.eq_of_mem_replicate hx; omega⟩
  obtain ⟨l', i', h', K, hh, hw'⟩ := right_l0 s hs (1 + v1) (1 + v2) 30 0 i2 h2 _ (by omega) c2 hw
  refine ⟨1 + v1, 1 + v2, l', K0 + K, fun k hk => ?_, hw'⟩
  unfold spec_DrawRight.f spec_l17Right.f
  rw [h0 k (by omega)]
  simp only [Option.bind_some]
  rw [e1]
  simp only [Option.bind_some]
  rw [e2]
  simp only [Option.bind_some]
  rw [hN]
  simp only [Option.bind_some]
  have := hh k (by omega)
  rw [show ((0 : Nat) : Int) = 0 from rfl] at this
  rw [this]
  simp only [Option.bind_some]
theorem places_l0 (s : List Int) (hs : s.length ≤ 1048576) : ∀ (d n : Nat) (i h : Int) (p : List Int), n + d = 12 → 0 ≤ i → p.length = n → (∀ x ∈ p, 0 ≤ x) → ∃ p' K, (∀ k, K ≤ k → spec_DrawPlaces.l0 k p (n : Int) s i h = some p') ∧ p'.length = 12 ∧ ∀ x ∈ p', 0 ≤ x
  | 0, n, i, h, p, hn, hi, hp, hx => by
    refine ⟨p, 1, fun k hk => ?_, by omega, hx⟩
    obtain ⟨k, rfl⟩ : ∃ m, k = m + 1 := ⟨k - 1, by omega⟩
    simp only [spec_DrawPlaces.l0]
    rw [if_neg (by omega)]
  | d + 1, n, i, h, p, hn, hi, hp, hx => by
    obtain ⟨v, i1, h1, e1, a1, b1, c1⟩ := below4_ev s hs i h 10000 hi (by omega)
    obtain ⟨p', K, hh, q1, q2⟩ := places_l0 s hs d (n + 1) i1 h1 (p ++ [v]) (by omega) c1 (by simp; omega) (fun x hm => by
      rcases List.mem_append.mp hm with e | e
      · exact hx x e
      · have : x = v := by simpa using e
        omega)
    refine ⟨p', K + 1, fun k hk => ?_, q1, q2⟩
    obtain ⟨k, rfl⟩ : ∃ m, k = m + 1 := ⟨k - 1, by omega⟩
    simp only [spec_DrawPlaces.l0]
    rw [if_pos (by omega), e1]
    simp only [Option.bind_some]
    rw [if_pos (by omega), w64 (x := (n : Int) + 1) (by omega) (by omega), show ((n : Int) + 1) = ((n + 1 : Nat) : Int) by omega]
    exact hh k (by omega)
theorem places_ev (s : List Int) (hs : s.length ≤ 1048576) : ∃ p K, (∀ k, K ≤ k → spec_DrawPlaces.f k s = some p) ∧ p.length = 12 ∧ ∀ x ∈ p, 0 ≤ x := by
  obtain ⟨h, K0, h0⟩ := new_ev s hs
  obtain ⟨v1, i1, h1, e1, a1, b1, c1⟩ := byte_ev s hs 0 h (by omega)
  obtain ⟨p, K, hh, q1, q2⟩ := places_l0 s hs 12 0 i1 h1 [] (by omega) c1 rfl (fun x hx => by cases hx)
  refine ⟨p, K0 + K, fun k hk => ?_, q1, q2⟩
  unfold spec_DrawPlaces.f
  rw [h0 k (by omega)]
  simp only [Option.bind_some]
  rw [e1]
  simp only [Option.bind_some]
  exact hh k (by omega)
end Go.Proofs.Ytpjmfmnnkcibjaa.Pure
