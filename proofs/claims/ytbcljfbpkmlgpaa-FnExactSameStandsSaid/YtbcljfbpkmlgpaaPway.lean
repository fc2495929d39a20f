/- Plain facts about lists of ways: the law's helpers. -/
import Derived.Test.YtbcljfbpkmlgpaaPi
import Derived.Test.YtbcljfbpkmlgpaaQ1
import Derived.Test.YtbcljfbpkmlgpaaQ2
namespace Go.Proofs.Ytbcljfbpkmlgpaa.Pure
open Go.RowKit Go.Proofs.Ytbcljfbpkmlgpaa.Q Go.Proofs.YtbcljfbpkmlgpaaW.PrintWords Go.Proofs.YtbcljfbpkmlgpaaW.PrintLast
abbrev WI := S42
abbrev WL := S41
def toW (x : WL) : WI := ⟨x.f0⟩
theorem rdWI_get (l : List WI) (i : Nat) (h : i < l.length) : rd_T42 l (i : Int) = l[i] := by simp [rd_T42, h]
theorem rdWL_get (l : List WL) (i : Nat) (h : i < l.length) : rd_T41 l (i : Int) = l[i] := by simp [rd_T41, h]
/-- How many cells the ways have together. -/
def tot : List WI → Nat
  | [] => 0
  | x :: xs => x.f0.length + tot xs
theorem tot_mem : ∀ (l : List WI) (x : WI), x ∈ l → x.f0.length ≤ tot l
  | y :: ys, x, h => by
    unfold tot
    rcases List.mem_cons.mp h with e | h
    · subst e; omega
    · have := tot_mem ys x h; omega
theorem tot_drop (l : List WI) (i : Nat) (h : i < l.length) : tot (l.drop i) = l[i].f0.length + tot (l.drop (i + 1)) := by rw [drop_cons l i h]; rfl
theorem tot_drop_le : ∀ (i : Nat) (l : List WI), tot (l.drop i) ≤ tot l
  | 0, l => Nat.le_refl _
  | i + 1, [] => Nat.le_refl _
  | i + 1, x :: xs => by have := tot_drop_le i xs; show tot (xs.drop i) ≤ x.f0.length + tot xs; omega
/-- Ways that the law takes. -/
def SzOk (l : List WI) : Prop := l.length + tot l ≤ 1048576
theorem szWayS_l0 (l : List WL) : ∀ (d i : Nat) (a : Int), l.length ≤ 1048576 → i + d = l.length → 0 ≤ a → a ≤ 1048576 → (∀ x ∈ l, x.f0.length ≤ 9223372036854775807) → ∃ v K, (∀ k, K ≤ k → laws_szWayS.l0 k l a (i : Int) = some v) ∧ (0 ≤ v → v = a - tot ((l.map toW).drop i))
  | 0, i, a, hl, hi, h0, h1, hx => by
    refine ⟨a, 1, fun k hk => ?_, fun _ => ?_⟩
    · obtain ⟨k, rfl⟩ : ∃ m, k = m + 1 := ⟨k - 1, by omega⟩
      simp only [laws_szWayS.l0]
      rw [if_neg (by omega)]
    · rw [List.drop_of_length_le (by simp; omega)]; simp [tot]
  | d + 1, i, a, hl, hi, h0, h1, hx => by
    have hxi := hx l[i] (List.getElem_mem _)
    have ht : tot ((l.map toW).drop i) = l[i].f0.length + tot ((l.map toW).drop (i + 1)) := by rw [tot_drop _ i (by simp; omega)]; simp [toW]
    by_cases h : a - (l[i].f0.length : Int) < 0
    · refine ⟨-1, 1, fun k hk => ?_, fun h => absurd h (by decide)⟩
      obtain ⟨k, rfl⟩ : ∃ m, k = m + 1 := ⟨k - 1, by omega⟩
      simp only [laws_szWayS.l0, laws_szWay.f, laws_szIntS.f]
      rw [if_pos (by omega), if_pos (by omega), rdWL_get l i (by omega), w64 (by omega) (by omega), if_pos h]
      rfl
    · obtain ⟨v, K, hK, hv⟩ := szWayS_l0 l d (i + 1) (a - (l[i].f0.length : Int)) hl (by omega) (by omega) (by omega) hx
      refine ⟨v, K + 1, fun k hk => ?_, fun h => ?_⟩
      · obtain ⟨k, rfl⟩ : ∃ m, k = m + 1 := ⟨k - 1, by omega⟩
        simp only [laws_szWayS.l0, laws_szWay.f, laws_szIntS.f]
        rw [if_pos (by omega), if_pos (by omega), rdWL_get l i (by omega), w64 (by omega) (by omega), if_neg h]
        simp only [Option.bind_some]
        rw [if_neg h]
        simp only [Option.bind_some]
        rw [if_neg h, w64 (by omega) (by omega), show ((i : Int) + 1) = ((i + 1 : Nat) : Int) by omega]
        exact hK k (by omega)
      · rw [hv h, ht]; omega
theorem szWayS_ev (l : List WL) (hn : l.length ≤ 9223372036854775807) (hx : ∀ x ∈ l, x.f0.length ≤ 9223372036854775807) : ∃ v K, (∀ k, K ≤ k → laws_szWayS.f k l 1048576 = some v) ∧ (0 ≤ v → SzOk (l.map toW) ∧ v = 1048576 - l.length - tot (l.map toW)) := by
  by_cases h : l.length ≤ 1048576
  · obtain ⟨v, K, hK, hv⟩ := szWayS_l0 l l.length 0 (1048576 - l.length) h (by omega) (by omega) (by omega) hx
    refine ⟨v, K, fun k hk => ?_, fun h0 => ?_⟩
    · unfold laws_szWayS.f
      rw [w64 (by omega) (by omega), if_neg (by omega)]
      exact hK k hk
    · have := hv h0
      simp only [List.drop_zero] at this
      exact ⟨by unfold SzOk; simp only [List.length_map]; omega, this⟩
  · refine ⟨-1, 0, fun k _ => ?_, fun h => absurd h (by decide)⟩
    unfold laws_szWayS.f
    rw [w64 (by omega) (by omega), if_pos (by omega)]
theorem SzOk_len {l : List WI} (h : SzOk l) : l.length ≤ 1048576 := by unfold SzOk at h; omega
theorem SzOk_way {l : List WI} (h : SzOk l) {x : WI} (hx : x ∈ l) : x.f0.length ≤ 1048576 := by have := tot_mem l x hx; unfold SzOk at h; omega
theorem toWayS_l0 (l : List WL) (hn : l.length ≤ 1048576) (hx : ∀ x ∈ l, x.f0.length ≤ 1048576) : ∀ (d i : Nat) (out : List WI), out.length = l.length → i + d = l.length → (∀ j, j < i → out[j]? = (l.map toW)[j]?) → ∃ K, ∀ k, K ≤ k →
    laws_toWayS.l0 k l out (i : Int) = some (l.map toW)
  | 0, i, out, ho, hi, hj => by
    refine ⟨1, fun k hk => ?_⟩
    obtain ⟨k, rfl⟩ : ∃ m, k = m + 1 := ⟨k - 1, by omega⟩
    simp only [laws_toWayS.l0]
    rw [if_neg (by omega)]
    congr 1
    apply List.ext_getElem?
    intro j
    rcases Nat.lt_or_ge j l.length with h | h
    · exact hj j (by omega)
    · rw [List.getElem?_eq_none (by omega), List.getElem?_eq_none (by simp; omega)]
  | d + 1, i, out, ho, hi, hj => by
    obtain ⟨K1, h1⟩ := toIntS_ev l[i].f0 (by have := hx l[i] (List.getElem_mem _); omega)
    obtain ⟨K2, h2⟩ := toWayS_l0 l hn hx d (i + 1) (out.set i ⟨l[i].f0⟩) (by simpa using ho) (by omega) (fun j hji => by
      rw [List.getElem?_set]
      by_cases e : i = j
      · subst e
        rw [if_pos rfl, if_pos (by omega), List.getElem?_map, List.getElem?_eq_getElem (by omega)]
        rfl
      · rw [if_neg e]
        exact hj j (by omega))
    refine ⟨K1 + K2 + 1, fun k hk => ?_⟩
    obtain ⟨k, rfl⟩ : ∃ m, k = m + 1 := ⟨k - 1, by omega⟩
    simp only [laws_toWayS.l0, laws_toWay.f]
    rw [if_pos (by omega), if_pos (by omega), rdWL_get l i (by omega), h1 k (by omega)]
    simp only [Option.bind_some]
    rw [if_pos (by omega), w64 (by omega) (by omega), show ((i : Int) + 1) = ((i + 1 : Nat) : Int) by omega, Int.toNat_natCast]
    exact h2 k (by omega)
theorem toWayS_ev (l : List WL) (h : SzOk (l.map toW)) : ∃ K, ∀ k, K ≤ k → laws_toWayS.f k l = some (l.map toW) := by
  have hn : l.length ≤ 1048576 := by simpa using SzOk_len h
  obtain ⟨K, hK⟩ := toWayS_l0 l hn (fun x hx => SzOk_way h (x := toW x) (List.mem_map_of_mem hx)) l.length 0 (List.replicate l.length z42) (by simp) (by omega) (fun j hj => absurd hj (Nat.not_lt_zero _))
  refine ⟨K, fun k hk => ?_⟩
  unfold laws_toWayS.f
  rw [if_pos (by omega), if_pos (by omega)]
  exact hK k hk
theorem eqWayS_l0 (l : List WI) (hl : SzOk l) : ∀ (d i : Nat), i + d = l.length → ∃ K, ∀ k, K ≤ k → laws_eqWayS.l0 k l l (i : Int) = some true
  | 0, i, hi => by
    refine ⟨1, fun k hk => ?_⟩
    obtain ⟨k, rfl⟩ : ∃ m, k = m + 1 := ⟨k - 1, by omega⟩
    simp only [laws_eqWayS.l0]
    rw [if_neg (by omega)]
  | d + 1, i, hi => by
    have hn := SzOk_len hl
    obtain ⟨K1, h1⟩ := eqIntS_ev l[i].f0 l[i].f0 (by have := SzOk_way hl (List.getElem_mem (l := l) (n := i) (by omega)); omega)
    obtain ⟨K2, h2⟩ := eqWayS_l0 l hl d (i + 1) (by omega)
    refine ⟨K1 + K2 + 1, fun k hk => ?_⟩
    obtain ⟨k, rfl⟩ : ∃ m, k = m + 1 := ⟨k - 1, by omega⟩
    simp only [laws_eqWayS.l0, laws_eqWay.f]
    rw [if_pos (by omega), if_pos (by omega), if_pos (by omega), rdWI_get l i (by omega), h1 k (by omega)]
    simp only [Option.bind_some, decide_true, reduceIte]
    rw [w64 (by omega) (by omega), show ((i : Int) + 1) = ((i + 1 : Nat) : Int) by omega]
    exact h2 k (by omega)
theorem eqWayS_ev (l : List WI) (hl : SzOk l) : ∃ K, ∀ k, K ≤ k → laws_eqWayS.f k l l = some true := by
  obtain ⟨K, h⟩ := eqWayS_l0 l hl l.length 0 (by omega)
  refine ⟨K, fun k hk => ?_⟩
  unfold laws_eqWayS.f
  rw [if_pos rfl]
  exact h k hk
end Go.Proofs.Ytbcljfbpkmlgpaa.Pure
