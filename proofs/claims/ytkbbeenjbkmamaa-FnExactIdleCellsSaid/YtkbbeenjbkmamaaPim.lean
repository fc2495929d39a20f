/- Plain facts about the law's helpers over whole numbers: what marking and holding answer. -/
import Derived.Test.YtkbbeenjbkmamaaPie
import Derived.Test.YtkbbeenjbkmamaaQ7
namespace Go.Proofs.Ytkbbeenjbkmamaa.Pure
open Go.RowKit Go.Proofs.Ytkbbeenjbkmamaa.Q Go.Proofs.YtkbbeenjbkmamaaW.PrintWords Go.Proofs.YtkbbeenjbkmamaaW.PrintLast

theorem markIntS_l0 : ∀ (d i k : Nat) (l : List Int) (m : Int), i + d = l.length → l.length ≤ 9223372036854775807 → 0 ≤ m → m + d ≤ 9223372036854775807 → d < k →
    laws_markIntS.l0 k l m (i : Int) = some (m + d, l.take i ++ iota m d)
  | 0, i, k, l, m, hi, hn, h0, hm, hk => by
    obtain ⟨k, rfl⟩ : ∃ m, k = m + 1 := ⟨k - 1, by omega⟩
    simp only [laws_markIntS.l0]
    rw [if_neg (by omega), List.take_of_length_le (by omega)]
    simp [iota]
  | d + 1, i, k, l, m, hi, hn, h0, hm, hk => by
    obtain ⟨k, rfl⟩ : ∃ m, k = m + 1 := ⟨k - 1, by omega⟩
    simp only [laws_markIntS.l0]
    rw [if_pos (by omega), if_pos (by omega), w64 (by omega) (by omega), w64 (by omega) (by omega), show ((i : Int) + 1) = ((i + 1 : Nat) : Int) by omega, Int.toNat_natCast,
      markIntS_l0 d (i + 1) k _ (m + 1) (by simp; omega) (by simpa using hn) (by omega) (by omega) (by omega)]
    have ht : (l.set i m).take (i + 1) = l.take i ++ [m] := by
      rw [List.take_succ_eq_append_getElem (by simp; omega)]
      simp [List.take_set_of_le]
    rw [ht, List.append_assoc]
    congr 1
    refine Prod.ext ?_ rfl
    show m + 1 + (d : Int) = m + ((d + 1 : Nat) : Int)
    omega
theorem markIntS_ev (l : List Int) (m : Int) (hn : l.length ≤ 9223372036854775807) (h0 : 0 ≤ m) (hm : m + l.length ≤ 9223372036854775807) : ∃ K, ∀ k, K ≤ k → laws_markIntS.f k l m = some (m + l.length, iota m l.length) := by
  refine ⟨l.length + 1, fun k hk => ?_⟩
  have := markIntS_l0 l.length 0 k l m (by omega) hn h0 hm (by omega)
  simpa [laws_markIntS.f] using this
theorem heldIntS_l0 (l : List Int) (hn : l.length ≤ 9223372036854775807) : ∀ (d i k : Nat) (q : Int), i + d = l.length → l.drop i = iota q d → 0 ≤ q → q + d ≤ 9223372036854775807 → d < k →
    laws_heldIntS.l0 k l q (i : Int) = some (q + d)
  | 0, i, k, q, hi, he, h0, hm, hk => by
    obtain ⟨k, rfl⟩ : ∃ m, k = m + 1 := ⟨k - 1, by omega⟩
    simp only [laws_heldIntS.l0]
    rw [if_neg (by omega)]
    simp
  | d + 1, i, k, q, hi, he, h0, hm, hk => by
    obtain ⟨k, rfl⟩ : ∃ m, k = m + 1 := ⟨k - 1, by omega⟩
    rw [drop_cons l i (by omega), iota] at he
    injection he with he1 he2
    simp only [laws_heldIntS.l0]
    rw [if_pos (by omega), if_pos (by omega), rd_get l i (by omega), if_pos he1, w64 (by omega) (by omega), w64 (by omega) (by omega), show ((i : Int) + 1) = ((i + 1 : Nat) : Int) by omega,
      heldIntS_l0 l hn d (i + 1) k (q + 1) (by omega) he2 (by omega) (by omega) (by omega)]
    congr 1
    omega
theorem heldIntS_ev (n : Nat) (q : Int) (hn : n ≤ 9223372036854775807) (h0 : 0 ≤ q) (hm : q + n ≤ 9223372036854775807) : ∃ K, ∀ k, K ≤ k → laws_heldIntS.f k (iota q n) q = some (q + n) := by
  refine ⟨n + 1, fun k hk => ?_⟩
  have := heldIntS_l0 (iota q n) (by rw [iota_length]; exact hn) n 0 k q (by rw [iota_length]; omega) rfl h0 hm (by omega)
  simpa [laws_heldIntS.f] using this
end Go.Proofs.Ytkbbeenjbkmamaa.Pure
