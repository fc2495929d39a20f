/- Plain facts about the law's helpers over whole numbers: what copying, comparing, marking and holding answer. -/
import Derived.Test.YtngoejcaabgidaaPb
import Derived.Test.YtngoejcaabgidaaQ6
import Derived.Test.YtngoejcaabgidaaQ12
import Derived.Test.YtngoejcaabgidaaQ19
import Derived.Test.YtngoejcaabgidaaQ3
namespace Go.Proofs.Ytngoejcaabgidaa.Pure
open Go.RowKit Go.Proofs.Ytngoejcaabgidaa.Q Go.Proofs.YtngoejcaabgidaaW.PrintWords Go.Proofs.YtngoejcaabgidaaW.PrintLast

theorem eqIntS_l0 (a b : List Int) (hl : a.length = b.length) (hn : a.length ≤ 9223372036854775807) : ∀ (d i k : Nat), i + d = a.length → d < k →
    laws_eqIntS.l0 k a b (i : Int) = some (decide (a.drop i = b.drop i))
  | 0, i, k, hi, hk => by
    obtain ⟨k, rfl⟩ : ∃ m, k = m + 1 := ⟨k - 1, by omega⟩
    simp only [laws_eqIntS.l0]
    rw [if_neg (by omega), List.drop_of_length_le (by omega), List.drop_of_length_le (by omega)]
    rfl
  | d + 1, i, k, hi, hk => by
    obtain ⟨k, rfl⟩ : ∃ m, k = m + 1 := ⟨k - 1, by omega⟩
    simp only [laws_eqIntS.l0]
    rw [if_pos (by omega), if_pos (by omega), if_pos (by omega), rd_get a i (by omega), rd_get b i (by omega), drop_cons a i (by omega), drop_cons b i (by omega), w64 (by omega) (by omega)]
    by_cases h : a[i]'(by omega) = b[i]'(by omega)
    · rw [if_pos h, show ((i : Int) + 1) = ((i + 1 : Nat) : Int) by omega, eqIntS_l0 a b hl hn d (i + 1) k (by omega) (by omega)]
      simp only [h, List.cons.injEq, true_and]
    · rw [if_neg h]
      simp only [List.cons.injEq, h, false_and, decide_false]
theorem eqIntS_ev (a b : List Int) (hn : a.length ≤ 9223372036854775807) : ∃ K, ∀ k, K ≤ k → laws_eqIntS.f k a b = some (decide (a = b)) := by
  refine ⟨a.length + 1, fun k hk => ?_⟩
  show laws_eqIntS.f k a b = some (decide (a = b))
  unfold laws_eqIntS.f
  by_cases h : a.length = b.length
  · rw [if_pos (by omega)]
    have := eqIntS_l0 a b h hn a.length 0 k (by omega) (by omega)
    simpa using this
  · rw [if_neg (by omega), decide_eq_false (fun e => h (by rw [e]))]
theorem toIntS_l0 (l : List Int) (hn : l.length ≤ 9223372036854775807) : ∀ (d i k : Nat) (out : List Int), out.length = l.length → i + d = l.length → (∀ j, j < i → out[j]? = l[j]?) → d < k →
    laws_toIntS.l0 k l out (i : Int) = some l
  | 0, i, k, out, ho, hi, hj, hk => by
    obtain ⟨k, rfl⟩ : ∃ m, k = m + 1 := ⟨k - 1, by omega⟩
    simp only [laws_toIntS.l0]
    rw [if_neg (by omega)]
    congr 1
    apply List.ext_getElem?
    intro j
    rcases Nat.lt_or_ge j l.length with h | h
    · exact hj j (by omega)
    · rw [List.getElem?_eq_none (by omega), List.getElem?_eq_none h]
  | d + 1, i, k, out, ho, hi, hj, hk => by
    obtain ⟨k, rfl⟩ : ∃ m, k = m + 1 := ⟨k - 1, by omega⟩
    simp only [laws_toIntS.l0]
    rw [if_pos (by omega), if_pos (by omega), if_pos (by omega), w64 (by omega) (by omega), show ((i : Int) + 1) = ((i + 1 : Nat) : Int) by omega]
    refine toIntS_l0 l hn d (i + 1) k _ (by simpa using ho) (by omega) (fun j hji => ?_) (by omega)
    rw [Int.toNat_natCast, rd_get l i (by omega), List.getElem?_set]
    by_cases e : i = j
    · subst e
      rw [if_pos rfl, if_pos (by omega), List.getElem?_eq_getElem (by omega)]
    · rw [if_neg e]
      exact hj j (by omega)
theorem toIntS_ev (l : List Int) (hn : l.length ≤ 35184372088832) : ∃ K, ∀ k, K ≤ k → laws_toIntS.f k l = some l := by
  refine ⟨l.length + 1, fun k hk => ?_⟩
  show laws_toIntS.f k l = some l
  unfold laws_toIntS.f
  rw [if_pos (by omega), if_pos (by omega)]
  exact toIntS_l0 l (by omega) l.length 0 k _ (by simp) (by omega) (fun j hj => absurd hj (Nat.not_lt_zero _)) (by omega)
theorem markIntS_l0 : ∀ (d i k : Nat) (l : List Int) (m : Int), i + d = l.length → l.length ≤ 9223372036854775807 → 0 ≤ m → m + d ≤ 9223372036854775807 → d < k →
    laws_markIntS.l0 k l m (i : Int) = some (m + d, l.take i ++ iota m d)
  | 0, i, k, l, m, hi, hn, h0, hm, hk => by
    obtain ⟨k, rfl⟩ : ∃ m, k = m + 1 := ⟨k - 1, by omega⟩
    simp only [laws_markIntS.l0]
    rw [if_neg (by omega), List.take_of_length_le (by omega)]
    simp [iota]
  | d + 1, i, k, l, m, hi, hn, h0, hm, hk => by
    obtain ⟨k, rfl⟩ : ∃ m, k = m + 1 := ⟨k - 1, by omega⟩
    simp only [laws_markIntS.l0]
    rw [if_pos (by omega), if_pos (by omega), w64 (by omega) (by omega), w64 (by omega) (by omega), show ((i : Int) + 1) = ((i + 1 : Nat) : Int) by omega, Int.toNat_natCast,
      markIntS_l0 d (i + 1) k _ (m + 1) (by simp; omega) (by simpa using hn) (by omega) (by omega) (by omega)]
    have ht : (l.set i m).take (i + 1) = l.take i ++ [m] := by
      rw [List.take_succ_eq_append_getElem (by simp; omega)]
      simp [List.take_set_of_le]
    rw [ht, List.append_assoc]
    congr 1
    refine Prod.ext ?_ rfl
    show m + 1 + (d : Int) = m + ((d + 1 : Nat) : Int)
    omega
theorem markIntS_ev (l : List Int) (m : Int) (hn : l.length ≤ 9223372036854775807) (h0 : 0 ≤ m) (hm : m + l.length ≤ 9223372036854775807) : ∃ K, ∀ k, K ≤ k → laws_markIntS.f k l m = some (m + l.length, iota m l.length) := by
  refine ⟨l.length + 1, fun k hk => ?_⟩
  have := markIntS_l0 l.length 0 k l m (by omega) hn h0 hm (by omega)
  simpa [laws_markIntS.f] using this
theorem heldIntS_l0 (l : List Int) (hn : l.length ≤ 9223372036854775807) : ∀ (d i k : Nat) (q : Int), i + d = l.length → l.drop i = iota q d → 0 ≤ q → q + d ≤ 9223372036854775807 → d < k →
    laws_heldIntS.l0 k l q (i : Int) = some (q + d)
  | 0, i, k, q, hi, he, h0, hm, hk => by
    obtain ⟨k, rfl⟩ : ∃ m, k = m + 1 := ⟨k - 1, by omega⟩
    simp only [laws_heldIntS.l0]
    rw [if_neg (by omega)]
    simp
  | d + 1, i, k, q, hi, he, h0, hm, hk => by
    obtain ⟨k, rfl⟩ : ∃ m, k = m + 1 := ⟨k - 1, by omega⟩
    rw [drop_cons l i (by omega), iota] at he
    injection he with he1 he2
    simp only [laws_heldIntS.l0]
    rw [if_pos (by omega), if_pos (by omega), rd_get l i (by omega), if_pos he1, w64 (by omega) (by omega), w64 (by omega) (by omega), show ((i : Int) + 1) = ((i + 1 : Nat) : Int) by omega,
      heldIntS_l0 l hn d (i + 1) k (q + 1) (by omega) he2 (by omega) (by omega) (by omega)]
    congr 1
    omega
theorem heldIntS_ev (n : Nat) (q : Int) (hn : n ≤ 9223372036854775807) (h0 : 0 ≤ q) (hm : q + n ≤ 9223372036854775807) : ∃ K, ∀ k, K ≤ k → laws_heldIntS.f k (iota q n) q = some (q + n) := by
  refine ⟨n + 1, fun k hk => ?_⟩
  have := heldIntS_l0 (iota q n) (by rw [iota_length]; exact hn) n 0 k q (by rw [iota_length]; omega) rfl h0 hm (by omega)
  simpa [laws_heldIntS.f] using this
end Go.Proofs.Ytngoejcaabgidaa.Pure
