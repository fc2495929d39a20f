/- What is drawn from bytes: a byte, a number below another, once in so many. -/
import Derived.Test.YtngoejcaabgidaaPb
import Derived.Test.YtngoejcaabgidaaQ11
import Derived.Test.YtngoejcaabgidaaQ12
import Derived.Laws.Bits128
set_option linter.unusedSimpArgs false
set_option linter.unusedSectionVars false
namespace Go.Proofs.Ytngoejcaabgidaa.Pure
open Go.RowKit Go.Proofs.Ytngoejcaabgidaa.Q Go.Proofs.YtngoejcaabgidaaW.PrintWords Go.Proofs.YtngoejcaabgidaaW.PrintLast
theorem and255 (n : Int) : Go.bits .and .i64 n 255 = n % 256 := by
  have h255 : (BitVec.ofInt 64 255).toNat = 2 ^ 8 - 1 := by decide
  have key : (BitVec.ofInt 64 n &&& BitVec.ofInt 64 255).toNat = (n % ((2 ^ 64 : Nat) : Int)).toNat % 2 ^ 8 := by
    rw [BitVec.toNat_and, BitVec.toNat_ofInt, h255, Nat.and_two_pow_sub_one_eq_mod]
  show IntKind.i64.wrap ((BitVec.ofInt 64 n &&& BitVec.ofInt 64 255).toNat : Nat) = n % 256
  rw [key, IntKind.wrap_i64]
  omega
theorem and255_range (n : Int) : 0 ≤ Go.bits .and .i64 n 255 ∧ Go.bits .and .i64 n 255 ≤ 255 := by rw [and255]; omega
section
variable (s : List Int) (hs : s.length ≤ 1048576)
include hs
theorem byte_ev (i h : Int) (hi : 0 ≤ i) : ∃ v i' h', spec_l01Byte.f s i h = some (v, i', h') ∧ 0 ≤ v ∧ v ≤ 255 ∧ 0 ≤ i' := by
  unfold spec_l01Byte.f
  by_cases c : i < (s.length : Int)
  · rw [if_pos c, if_pos hi]
    refine ⟨_, _, _, rfl, (and255_range _).1, (and255_range _).2, ?_⟩
    rw [w64 (by omega) (by omega)]; omega
  · rw [if_neg c]
    exact ⟨_, _, _, rfl, (and255_range _).1, (and255_range _).2, hi⟩
theorem below_ev (i h n : Int) (hi : 0 ≤ i) (hn : 1 ≤ n) (hn2 : n ≤ 256) : ∃ v i' h', spec_l01Below.f s i h n = some (v, i', h') ∧ 0 ≤ v ∧ v < n ∧ 0 ≤ i' := by
  obtain ⟨v, i', h', e, h0, h1, h2⟩ := byte_ev s hs i h hi
  refine ⟨Int.tmod v n, i', h', ?_, ?_, ?_, h2⟩
  · unfold spec_l01Below.f
    rw [if_neg (by omega), if_pos hn2, e, Option.bind_some]
    simp only
    rw [if_neg (by omega)]
  · rw [Int.tmod_eq_emod_of_nonneg h0]; exact Int.emod_nonneg _ (by omega)
  · rw [Int.tmod_eq_emod_of_nonneg h0]; exact Int.emod_lt_of_pos _ (by omega)
theorem below4_ev (i h n : Int) (hi : 0 ≤ i) (hn : 256 < n) : ∃ v i' h', spec_l01Below.f s i h n = some (v, i', h') ∧ 0 ≤ v ∧ v < n ∧ 0 ≤ i' := by
  obtain ⟨v1, i1, h1, e1, a1, b1, c1⟩ := byte_ev s hs i h hi
  obtain ⟨v2, i2, h2, e2, a2, b2, c2⟩ := byte_ev s hs i1 h1 c1
  obtain ⟨v3, i3, h3, e3, a3, b3, c3⟩ := byte_ev s hs i2 h2 c2
  obtain ⟨v4, i4, h4, e4, a4, b4, c4⟩ := byte_ev s hs i3 h3 c3
  have hv : wrap64 ((wrap64 ((wrap64 ((wrap64 (v1 * 16777216)) + (wrap64 (v2 * 65536)))) + (wrap64 (v3 * 256)))) + v4) = v1 * 16777216 + v2 * 65536 + v3 * 256 + v4 := by
    rw [w64 (x := v1 * 16777216) (by omega) (by omega), w64 (x := v2 * 65536) (by omega) (by omega), w64 (x := v3 * 256) (by omega) (by omega), w64 (x := v1 * 16777216 + v2 * 65536) (by omega) (by omega), w64 (x := v1 * 16777216 + v2 * 65536 + v3 * 256) (by omega) (by omega), w64 (by omega) (by omega)]
  have hv0 : 0 ≤ v1 * 16777216 + v2 * 65536 + v3 * 256 + v4 := by omega
  refine ⟨Int.tmod (v1 * 16777216 + v2 * 65536 + v3 * 256 + v4) n, i4, h4, ?_, ?_, ?_, c4⟩
  · unfold spec_l01Below.f
    rw [if_neg (by omega), if_neg (by omega), e1]
    simp only [Option.bind_some]
    rw [e2]
    simp only [Option.bind_some]
    rw [e3]
    simp only [Option.bind_some]
    rw [e4]
    simp only [Option.bind_some]
    rw [if_neg (by omega), hv]
  · rw [Int.tmod_eq_emod_of_nonneg hv0]; exact Int.emod_nonneg _ (by omega)
  · rw [Int.tmod_eq_emod_of_nonneg hv0]; exact Int.emod_lt_of_pos _ (by omega)
theorem once_ev (i h n : Int) (hi : 0 ≤ i) (hn : 1 ≤ n) (hn2 : n ≤ 256) : ∃ b i' h', spec_l01Once.f s i h n = some (b, i', h') ∧ 0 ≤ i' := by
  obtain ⟨v, i', h', e, _, _, h2⟩ := below_ev s hs i h n hi hn hn2
  refine ⟨v == 0, i', h', ?_, h2⟩
  unfold spec_l01Once.f
  rw [e]; rfl
theorem new_l0 : ∀ (d i : Nat) (h : Int), i + d = min s.length 4000 → ∃ h' K, ∀ k, K ≤ k → spec_l01New.l0 k s h (i : Int) = some (s, 0, h')
  | 0, i, h, hi => by
    refine ⟨h, 1, fun k hk => ?_⟩
    obtain ⟨k, rfl⟩ : ∃ m, k = m + 1 := ⟨k - 1, by omega⟩
    simp only [spec_l01New.l0]
    by_cases c : (i : Int) < (s.length : Int)
    · rw [if_pos c, if_neg (by omega)]
    · rw [if_neg c]
  | d + 1, i, h, hi => by
    obtain ⟨h', K, hh⟩ := new_l0 d (i + 1) (Go.bits .and .i64 (wrap64 ((wrap64 ((wrap64 (h * 131)) + (wrap64 (rd s (i : Int))))) + 7)) 1073741823) (by omega)
    refine ⟨h', K + 1, fun k hk => ?_⟩
    obtain ⟨k, rfl⟩ : ∃ m, k = m + 1 := ⟨k - 1, by omega⟩
    simp only [spec_l01New.l0]
    rw [if_pos (by omega), if_pos (by omega), if_pos (by omega), w64 (x := (i : Int) + 1) (by omega) (by omega), show ((i : Int) + 1) = ((i + 1 : Nat) : Int) by omega]
    exact hh k (by omega)
theorem new_ev : ∃ h K, ∀ k, K ≤ k → spec_l01New.f k s = some (s, 0, h) := by
  obtain ⟨h, K, hh⟩ := new_l0 s hs (min s.length 4000) 0 (wrap64 (94701 + (s.length : Int))) (by omega)
  exact ⟨h, K, fun k hk => hh k hk⟩
end
end Go.Proofs.Ytngoejcaabgidaa.Pure
