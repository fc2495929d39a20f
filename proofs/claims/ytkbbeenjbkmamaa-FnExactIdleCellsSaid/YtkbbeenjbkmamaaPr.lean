/- Plain facts about lists of robots: the law's helpers. -/
import Derived.Test.YtkbbeenjbkmamaaPb
import Derived.Test.YtkbbeenjbkmamaaQ1
import Derived.Test.YtkbbeenjbkmamaaQ2
namespace Go.Proofs.Ytkbbeenjbkmamaa.Pure
open Go.RowKit Go.Proofs.Ytkbbeenjbkmamaa.Q Go.Proofs.YtkbbeenjbkmamaaW.PrintWords Go.Proofs.YtkbbeenjbkmamaaW.PrintLast
abbrev RI := S42
abbrev RL := S44
def toR (x : RL) : RI := ⟨x.f0, x.f1, x.f2, x.f3⟩
theorem rdI_get (l : List RI) (i : Nat) (h : i < l.length) : rd_T42 l (i : Int) = l[i] := by simp [rd_T42, h]
theorem rdL_get (l : List RL) (i : Nat) (h : i < l.length) : rd_T44 l (i : Int) = l[i] := by simp [rd_T44, h]
theorem szR_eq (l : List RL) (hn : l.length ≤ 9223372036854775807) : laws_szRobotS.f l 1048576 = some (if l.length ≤ 1048576 then 1048576 - (l.length : Int) else -1) := by
  unfold laws_szRobotS.f
  rw [w64 (by omega) (by omega)]
  by_cases h : l.length ≤ 1048576
  · rw [if_neg (by omega), if_pos h]
  · rw [if_pos (by omega), if_neg h]
theorem toRobotS_l0 (l : List RL) (hn : l.length ≤ 1048576) : ∀ (d i k : Nat) (out : List RI), out.length = l.length → i + d = l.length → (∀ j, j < i → out[j]? = (l.map toR)[j]?) → d < k →
    laws_toRobotS.l0 k l out (i : Int) = some (l.map toR)
  | 0, i, k, out, ho, hi, hj, hk => by
    obtain ⟨k, rfl⟩ : ∃ m, k = m + 1 := ⟨k - 1, by omega⟩
    simp only [laws_toRobotS.l0]
    rw [if_neg (by omega)]
    congr 1
    apply List.ext_getElem?
    intro j
    rcases Nat.lt_or_ge j l.length with h | h
    · exact hj j (by omega)
    · rw [List.getElem?_eq_none (by omega), List.getElem?_eq_none (by simp; omega)]
  | d + 1, i, k, out, ho, hi, hj, hk => by
    obtain ⟨k, rfl⟩ : ∃ m, k = m + 1 := ⟨k - 1, by omega⟩
    simp only [laws_toRobotS.l0, laws_toRobot.f, Option.bind_some]
    rw [if_pos (by omega), if_pos (by omega), if_pos (by omega), w64 (by omega) (by omega), show ((i : Int) + 1) = ((i + 1 : Nat) : Int) by omega]
    refine toRobotS_l0 l hn d (i + 1) k _ (by simpa using ho) (by omega) (fun j hji => ?_) (by omega)
    rw [Int.toNat_natCast, rdL_get l i (by omega), List.getElem?_set]
    by_cases e : i = j
    · subst e
      rw [if_pos rfl, if_pos (by omega), List.getElem?_map, List.getElem?_eq_getElem (by omega)]
      rfl
    · rw [if_neg e]
      exact hj j (by omega)
theorem toRobotS_ev (l : List RL) (hn : l.length ≤ 1048576) : ∃ K, ∀ k, K ≤ k → laws_toRobotS.f k l = some (l.map toR) := by
  refine ⟨l.length + 1, fun k hk => ?_⟩
  unfold laws_toRobotS.f
  rw [if_pos (by omega), if_pos (by omega)]
  exact toRobotS_l0 l hn l.length 0 k _ (by simp) (by omega) (fun j hj => absurd hj (Nat.not_lt_zero _)) (by omega)
theorem eqRobotS_l0 (a : List RI) (hn : a.length ≤ 9223372036854775807) : ∀ (d i k : Nat), i + d = a.length → d < k → laws_eqRobotS.l0 k a a (i : Int) = some true
  | 0, i, k, hi, hk => by
    obtain ⟨k, rfl⟩ : ∃ m, k = m + 1 := ⟨k - 1, by omega⟩
    simp only [laws_eqRobotS.l0]
    rw [if_neg (by omega)]
  | d + 1, i, k, hi, hk => by
    obtain ⟨k, rfl⟩ : ∃ m, k = m + 1 := ⟨k - 1, by omega⟩
    simp only [laws_eqRobotS.l0, laws_eqRobot.f]
    rw [if_pos (by omega), if_pos (by omega), if_pos (by omega), w64 (by omega) (by omega), show ((i : Int) + 1) = ((i + 1 : Nat) : Int) by omega]
    simp only [bne_self_eq_false, Bool.false_eq_true, if_true, if_false, Option.bind_some]
    exact eqRobotS_l0 a hn d (i + 1) k (by omega) (by omega)
theorem eqRobotS_ev (a : List RI) (hn : a.length ≤ 9223372036854775807) : ∃ K, ∀ k, K ≤ k → laws_eqRobotS.f k a a = some true := by
  refine ⟨a.length + 1, fun k hk => ?_⟩
  unfold laws_eqRobotS.f
  rw [if_pos rfl]
  exact eqRobotS_l0 a hn a.length 0 k (by omega) (by omega)
end Go.Proofs.Ytkbbeenjbkmamaa.Pure
