/- Plain facts about the law's helpers over booleans: what comparing, marking and holding answer. -/
import Derived.Test.YtngoejcaabgidaaPb
import Derived.Test.YtngoejcaabgidaaQ12
import Derived.Test.YtngoejcaabgidaaQ13
namespace Go.Proofs.Ytngoejcaabgidaa.Pure
open Go.RowKit Go.Proofs.Ytngoejcaabgidaa.Q Go.Proofs.YtngoejcaabgidaaW.PrintWords Go.Proofs.YtngoejcaabgidaaW.PrintLast

theorem rdOf_getB (l : List Bool) (i : Nat) (h : i < l.length) : rdOf false l (i : Int) = l[i] := by
  simp [rdOf, h]
theorem eqBoolS_l0 (a b : List Bool) (hl : a.length = b.length) (hn : a.length ≤ 9223372036854775807) : ∀ (d i k : Nat), i + d = a.length → d < k →
    laws_eqBoolS.l0 k a b (i : Int) = some (decide (a.drop i = b.drop i))
  | 0, i, k, hi, hk => by
    obtain ⟨k, rfl⟩ : ∃ m, k = m + 1 := ⟨k - 1, by omega⟩
    simp only [laws_eqBoolS.l0]
    rw [if_neg (by omega), List.drop_of_length_le (by omega), List.drop_of_length_le (by omega)]
    rfl
  | d + 1, i, k, hi, hk => by
    obtain ⟨k, rfl⟩ : ∃ m, k = m + 1 := ⟨k - 1, by omega⟩
    simp only [laws_eqBoolS.l0]
    rw [if_pos (by omega), if_pos (by omega), if_pos (by omega), rdOf_getB a i (by omega), rdOf_getB b i (by omega), List.drop_eq_getElem_cons (l := a) (i := i) (by omega), List.drop_eq_getElem_cons (l := b) (i := i) (by omega), w64 (by omega) (by omega)]
    by_cases h : a[i]'(by omega) = b[i]'(by omega)
    · rw [if_neg (by simp [h]), show ((i : Int) + 1) = ((i + 1 : Nat) : Int) by omega, eqBoolS_l0 a b hl hn d (i + 1) k (by omega) (by omega)]
      simp only [h, List.cons.injEq, true_and]
    · rw [if_pos (by simpa using h)]
      simp only [List.cons.injEq, h, false_and, decide_false]
theorem eqBoolS_ev (a b : List Bool) (hn : a.length ≤ 9223372036854775807) : ∃ K, ∀ k, K ≤ k → laws_eqBoolS.f k a b = some (decide (a = b)) := by
  refine ⟨a.length + 1, fun k hk => ?_⟩
  show laws_eqBoolS.f k a b = some (decide (a = b))
  unfold laws_eqBoolS.f
  by_cases h : a.length = b.length
  · rw [if_pos (by omega)]
    have := eqBoolS_l0 a b h hn a.length 0 k (by omega) (by omega)
    simpa using this
  · rw [if_neg (by omega), decide_eq_false (fun e => h (by rw [e]))]
/-- The marks of booleans: every third one. -/
def iotaB (m : Int) : Nat → List Bool
  | 0 => []
  | n + 1 => (Int.tmod m 3 == 0) :: iotaB (m + 1) n
theorem iotaB_length : ∀ (n : Nat) (m : Int), (iotaB m n).length = n
  | 0, _ => rfl
  | n + 1, m => by simp [iotaB, iotaB_length n]
theorem markBoolS_l0 : ∀ (d i k : Nat) (l : List Bool) (m : Int), i + d = l.length → l.length ≤ 9223372036854775807 → 0 ≤ m → m + d ≤ 9223372036854775807 → d < k →
    laws_markBoolS.l0 k l m (i : Int) = some (m + d, l.take i ++ iotaB m d)
  | 0, i, k, l, m, hi, hn, h0, hm, hk => by
    obtain ⟨k, rfl⟩ : ∃ m, k = m + 1 := ⟨k - 1, by omega⟩
    simp only [laws_markBoolS.l0]
    rw [if_neg (by omega), List.take_of_length_le (by omega)]
    simp [iotaB]
  | d + 1, i, k, l, m, hi, hn, h0, hm, hk => by
    obtain ⟨k, rfl⟩ : ∃ m, k = m + 1 := ⟨k - 1, by omega⟩
    simp only [laws_markBoolS.l0]
    rw [if_pos (by omega), if_pos (by omega), w64 (by omega) (by omega), w64 (by omega) (by omega), show ((i : Int) + 1) = ((i + 1 : Nat) : Int) by omega, Int.toNat_natCast,
      markBoolS_l0 d (i + 1) k _ (m + 1) (by simp; omega) (by simpa using hn) (by omega) (by omega) (by omega)]
    have ht : (l.set i (Int.tmod m 3 == 0)).take (i + 1) = l.take i ++ [Int.tmod m 3 == 0] := by
      rw [List.take_succ_eq_append_getElem (by simp; omega)]
      simp [List.take_set_of_le]
    rw [ht, List.append_assoc]
    congr 1
    refine Prod.ext ?_ rfl
    show m + 1 + (d : Int) = m + ((d + 1 : Nat) : Int)
    omega
theorem markBoolS_ev (l : List Bool) (m : Int) (hn : l.length ≤ 9223372036854775807) (h0 : 0 ≤ m) (hm : m + l.length ≤ 9223372036854775807) : ∃ K, ∀ k, K ≤ k → laws_markBoolS.f k l m = some (m + l.length, iotaB m l.length) := by
  refine ⟨l.length + 1, fun k hk => ?_⟩
  have := markBoolS_l0 l.length 0 k l m (by omega) hn h0 hm (by omega)
  simpa [laws_markBoolS.f] using this
theorem heldBoolS_l0 (l : List Bool) (hn : l.length ≤ 9223372036854775807) : ∀ (d i k : Nat) (q : Int), i + d = l.length → l.drop i = iotaB q d → 0 ≤ q → q + d ≤ 9223372036854775807 → d < k →
    laws_heldBoolS.l0 k l q (i : Int) = some (q + d)
  | 0, i, k, q, hi, he, h0, hm, hk => by
    obtain ⟨k, rfl⟩ : ∃ m, k = m + 1 := ⟨k - 1, by omega⟩
    simp only [laws_heldBoolS.l0]
    rw [if_neg (by omega)]
    simp
  | d + 1, i, k, q, hi, he, h0, hm, hk => by
    obtain ⟨k, rfl⟩ : ∃ m, k = m + 1 := ⟨k - 1, by omega⟩
    rw [List.drop_eq_getElem_cons (l := l) (i := i) (by omega), iotaB] at he
    injection he with he1 he2
    simp only [laws_heldBoolS.l0]
    rw [if_pos (by omega), if_pos (by omega), rdOf_getB l i (by omega), if_neg (by simp [he1]), w64 (by omega) (by omega), w64 (by omega) (by omega), show ((i : Int) + 1) = ((i + 1 : Nat) : Int) by omega,
      heldBoolS_l0 l hn d (i + 1) k (q + 1) (by omega) he2 (by omega) (by omega) (by omega)]
    congr 1
    omega
theorem heldBoolS_ev (n : Nat) (q : Int) (hn : n ≤ 9223372036854775807) (h0 : 0 ≤ q) (hm : q + n ≤ 9223372036854775807) : ∃ K, ∀ k, K ≤ k → laws_heldBoolS.f k (iotaB q n) q = some (q + n) := by
  refine ⟨n + 1, fun k hk => ?_⟩
  have := heldBoolS_l0 (iotaB q n) (by rw [iotaB_length]; exact hn) n 0 k q (by rw [iotaB_length]; omega) rfl h0 hm (by omega)
  simpa [laws_heldBoolS.f] using this
end Go.Proofs.Ytngoejcaabgidaa.Pure
