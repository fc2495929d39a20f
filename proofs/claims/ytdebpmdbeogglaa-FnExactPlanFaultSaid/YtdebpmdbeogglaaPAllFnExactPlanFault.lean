/- The plain facts of this claim, in their order. -/
import Derived.Test.YtdebpmdbeogglaaQ0
import Derived.Test.YtdebpmdbeogglaaQ16
import Derived.Test.YtdebpmdbeogglaaQ8
import Derived.Test.YtdebpmdbeogglaaQ1
import Derived.Test.YtdebpmdbeogglaaQ12
import Derived.Test.YtdebpmdbeogglaaQ2
import Derived.Lib.SlicesCompact
import Derived.Test.YtdebpmdbeogglaaQ13
import Derived.Test.YtdebpmdbeogglaaQ14
import Derived.Test.YtdebpmdbeogglaaQ7
import Derived.Test.YtdebpmdbeogglaaQ3
import Derived.Test.YtdebpmdbeogglaaQ4
import Derived.Test.YtdebpmdbeogglaaQ9
import Derived.Test.YtdebpmdbeogglaaQ5
import Derived.Test.YtdebpmdbeogglaaQ11
import Derived.Test.YtdebpmdbeogglaaQ10
import Derived.Test.YtdebpmdbeogglaaQ15
set_option linter.unusedSimpArgs false
set_option linter.unusedSectionVars false
/- Plain facts that all the proofs share. -/
namespace Go.Proofs.Ytdebpmdbeogglaa.Pure
open Go.RowKit Go.Proofs.Ytdebpmdbeogglaa.Q Go.Proofs.YtdebpmdbeogglaaW.PrintWords Go.Proofs.YtdebpmdbeogglaaW.PrintLast

theorem w64 {x : Int} (h0 : -9223372036854775808 ≤ x) (h1 : x ≤ 9223372036854775807) : wrap64 x = x := by unfold wrap64; omega
theorem rd_get (l : List Int) (i : Nat) (h : i < l.length) : rd l (i : Int) = l[i] := by simp [rd, h]
theorem drop_cons {α : Type} (l : List α) (i : Nat) (h : i < l.length) : l.drop i = l[i] :: l.drop (i + 1) := List.drop_eq_getElem_cons h
def iota (m : Int) : Nat → List Int
 | 0 => []
 | d + 1 => m :: iota (m + 1) d
end Go.Proofs.Ytdebpmdbeogglaa.Pure
/- Plain facts about the law's helpers over whole numbers: what comparing answers. -/
namespace Go.Proofs.Ytdebpmdbeogglaa.Pure
open Go.RowKit Go.Proofs.Ytdebpmdbeogglaa.Q Go.Proofs.YtdebpmdbeogglaaW.PrintWords Go.Proofs.YtdebpmdbeogglaaW.PrintLast

theorem eqIntS_l0 (a b : List Int) (hl : a.length = b.length) (hn : a.length ≤ 9223372036854775807) : ∀ (d i k : Nat), i + d = a.length → d < k →
  laws_eqIntS.l0 k a b (i : Int) = some (decide (a.drop i = b.drop i))
 | 0, i, k, hi, hk => by
  obtain ⟨k, rfl⟩ : ∃ m, k = m + 1 := ⟨k - 1, by omega⟩
  simp only [laws_eqIntS.l0]
  rw [if_neg (by omega), List.drop_of_length_le (by omega), List.drop_of_length_le (by omega)]
  rfl
 | d + 1, i, k, hi, hk => by
  obtain ⟨k, rfl⟩ : ∃ m, k = m + 1 := ⟨k - 1, by omega⟩
  simp only [laws_eqIntS.l0]
  rw [if_pos (by omega), if_pos (by omega), if_pos (by omega), rd_get a i (by omega), rd_get b i (by omega), drop_cons a i (by omega), drop_cons b i (by omega), w64 (by omega) (by omega)]
  by_cases h : a[i]'(by omega) = b[i]'(by omega)
  ·rw [if_pos h, show ((i : Int) + 1) = ((i + 1 : Nat) : Int) by omega, eqIntS_l0 a b hl hn d (i + 1) k (by omega) (by omega)]
   simp only [h, List.cons.injEq, true_and]
  ·rw [if_neg h]
   simp only [List.cons.injEq, h, false_and, decide_false]
theorem eqIntS_ev (a b : List Int) (hn : a.length ≤ 9223372036854775807) : ∃ K, ∀ k, K ≤ k → laws_eqIntS.f k a b = some (decide (a = b)) := by
 refine ⟨a.length + 1, fun k hk => ?_⟩
 show laws_eqIntS.f k a b = some (decide (a = b))
 unfold laws_eqIntS.f
 by_cases h : a.length = b.length
 ·rw [if_pos (by omega)]
  have := eqIntS_l0 a b h hn a.length 0 k (by omega) (by omega)
  simpa using this
 ·rw [if_neg (by omega), decide_eq_false (fun e => h (by rw [e]))]
end Go.Proofs.Ytdebpmdbeogglaa.Pure
/- Plain facts about the law's helpers over whole numbers: what copying answers. -/
namespace Go.Proofs.Ytdebpmdbeogglaa.Pure
open Go.RowKit Go.Proofs.Ytdebpmdbeogglaa.Q Go.Proofs.YtdebpmdbeogglaaW.PrintWords Go.Proofs.YtdebpmdbeogglaaW.PrintLast

theorem toIntS_l0 (l : List Int) (hn : l.length ≤ 9223372036854775807) : ∀ (d i k : Nat) (out : List Int), out.length = l.length → i + d = l.length → (∀ j, j < i → out[j]? = l[j]?) → d < k →
  laws_toIntS.l0 k l out (i : Int) = some l
 | 0, i, k, out, ho, hi, hj, hk => by
  obtain ⟨k, rfl⟩ : ∃ m, k = m + 1 := ⟨k - 1, by omega⟩
  simp only [laws_toIntS.l0]
  rw [if_neg (by omega)]
  congr 1
  apply List.ext_getElem?
  intro j
  rcases Nat.lt_or_ge j l.length with h | h
  ·exact hj j (by omega)
  ·rw [List.getElem?_eq_none (by omega), List.getElem?_eq_none h]
 | d + 1, i, k, out, ho, hi, hj, hk => by
  obtain ⟨k, rfl⟩ : ∃ m, k = m + 1 := ⟨k - 1, by omega⟩
  simp only [laws_toIntS.l0]
  rw [if_pos (by omega), if_pos (by omega), if_pos (by omega), w64 (by omega) (by omega), show ((i : Int) + 1) = ((i + 1 : Nat) : Int) by omega]
  refine toIntS_l0 l hn d (i + 1) k _ (by simpa using ho) (by omega) (fun j hji => ?_) (by omega)
  rw [Int.toNat_natCast, rd_get l i (by omega), List.getElem?_set]
  by_cases e : i = j
  ·subst e
   rw [if_pos rfl, if_pos (by omega), List.getElem?_eq_getElem (by omega)]
  ·rw [if_neg e]
   exact hj j (by omega)
theorem toIntS_ev (l : List Int) (hn : l.length ≤ 35184372088832) : ∃ K, ∀ k, K ≤ k → laws_toIntS.f k l = some l := by
 refine ⟨l.length + 1, fun k hk => ?_⟩
 show laws_toIntS.f k l = some l
 unfold laws_toIntS.f
 rw [if_pos (by omega), if_pos (by omega)]
 exact toIntS_l0 l (by omega) l.length 0 k _ (by simp) (by omega) (fun j hj => absurd hj (Nat.not_lt_zero _)) (by omega)
end Go.Proofs.Ytdebpmdbeogglaa.Pure
/- Plain facts about lists of ways: the law's helpers. -/
namespace Go.Proofs.Ytdebpmdbeogglaa.Pure
open Go.RowKit Go.Proofs.Ytdebpmdbeogglaa.Q Go.Proofs.YtdebpmdbeogglaaW.PrintWords Go.Proofs.YtdebpmdbeogglaaW.PrintLast
abbrev WI := S52
abbrev WL := S86
def toW (x : WL) : WI := ⟨x.f0⟩
theorem rdWI_get (l : List WI) (i : Nat) (h : i < l.length) : rd_T52 l (i : Int) = l[i] := by simp [rd_T52, h]
theorem rdWL_get (l : List WL) (i : Nat) (h : i < l.length) : rd_T86 l (i : Int) = l[i] := by simp [rd_T86, h]
def tot : List WI → Nat
 | [] => 0
 | x :: xs => x.f0.length + tot xs
theorem tot_mem : ∀ (l : List WI) (x : WI), x ∈ l → x.f0.length ≤ tot l
 | y :: ys, x, h => by
  unfold tot
  rcases List.mem_cons.mp h with e | h
  ·subst e; omega
  ·have := tot_mem ys x h; omega
theorem tot_drop (l : List WI) (i : Nat) (h : i < l.length) : tot (l.drop i) = l[i].f0.length + tot (l.drop (i + 1)) := by rw [drop_cons l i h]; rfl
def SzOk (l : List WI) : Prop := l.length + tot l ≤ 1048576
theorem szWayS_l0 (l : List WL) : ∀ (d i : Nat) (a : Int), l.length ≤ 1048576 → i + d = l.length → 0 ≤ a → a ≤ 1048576 → (∀ x ∈ l, x.f0.length ≤ 9223372036854775807) → ∃ v K, (∀ k, K ≤ k → laws_szWayS.l0 k l a (i : Int) = some v) ∧ (0 ≤ v → v = a - tot ((l.map toW).drop i))
 | 0, i, a, hl, hi, h0, h1, hx => by
  refine ⟨a, 1, fun k hk => ?_, fun _ => ?_⟩
  ·obtain ⟨k, rfl⟩ : ∃ m, k = m + 1 := ⟨k - 1, by omega⟩
   simp only [laws_szWayS.l0]
   rw [if_neg (by omega)]
  ·rw [List.drop_of_length_le (by simp; omega)]; simp [tot]
 | d + 1, i, a, hl, hi, h0, h1, hx => by
  have hxi := hx l[i] (List.getElem_mem _)
  have ht : tot ((l.map toW).drop i) = l[i].f0.length + tot ((l.map toW).drop (i + 1)) := by rw [tot_drop _ i (by simp; omega)]; simp [toW]
  by_cases h : a - (l[i].f0.length : Int) < 0
  ·refine ⟨-1, 1, fun k hk => ?_, fun h => absurd h (by decide)⟩
   obtain ⟨k, rfl⟩ : ∃ m, k = m + 1 := ⟨k - 1, by omega⟩
   simp only [laws_szWayS.l0, laws_szWay.f, laws_szIntS.f]
   rw [if_pos (by omega), if_pos (by omega), rdWL_get l i (by omega), w64 (by omega) (by omega), if_pos h]
   rfl
  ·obtain ⟨v, K, hK, hv⟩ := szWayS_l0 l d (i + 1) (a - (l[i].f0.length : Int)) hl (by omega) (by omega) (by omega) hx
   refine ⟨v, K + 1, fun k hk => ?_, fun h => ?_⟩
   ·obtain ⟨k, rfl⟩ : ∃ m, k = m + 1 := ⟨k - 1, by omega⟩
    simp only [laws_szWayS.l0, laws_szWay.f, laws_szIntS.f]
    rw [if_pos (by omega), if_pos (by omega), rdWL_get l i (by omega), w64 (by omega) (by omega), if_neg h]
    simp only [Option.bind_some]
    rw [if_neg h]
    simp only [Option.bind_some]
    rw [if_neg h, w64 (by omega) (by omega), show ((i : Int) + 1) = ((i + 1 : Nat) : Int) by omega]
    exact hK k (by omega)
   ·rw [hv h, ht]; omega
theorem SzOk_len {l : List WI} (h : SzOk l) : l.length ≤ 1048576 := by unfold SzOk at h; omega
theorem SzOk_way {l : List WI} (h : SzOk l) {x : WI} (hx : x ∈ l) : x.f0.length ≤ 1048576 := by have := tot_mem l x hx; unfold SzOk at h; omega
theorem toWayS_l0 (l : List WL) (hn : l.length ≤ 1048576) (hx : ∀ x ∈ l, x.f0.length ≤ 1048576) : ∀ (d i : Nat) (out : List WI), out.length = l.length → i + d = l.length → (∀ j, j < i → out[j]? = (l.map toW)[j]?) → ∃ K, ∀ k, K ≤ k →
  laws_toWayS.l0 k l out (i : Int) = some (l.map toW)
 | 0, i, out, ho, hi, hj => by
  refine ⟨1, fun k hk => ?_⟩
  obtain ⟨k, rfl⟩ : ∃ m, k = m + 1 := ⟨k - 1, by omega⟩
  simp only [laws_toWayS.l0]
  rw [if_neg (by omega)]
  congr 1
  apply List.ext_getElem?
  intro j
  rcases Nat.lt_or_ge j l.length with h | h
  ·exact hj j (by omega)
  ·rw [List.getElem?_eq_none (by omega), List.getElem?_eq_none (by simp; omega)]
 | d + 1, i, out, ho, hi, hj => by
  obtain ⟨K1, h1⟩ := toIntS_ev l[i].f0 (by have := hx l[i] (List.getElem_mem _); omega)
  obtain ⟨K2, h2⟩ := toWayS_l0 l hn hx d (i + 1) (out.set i ⟨l[i].f0⟩) (by simpa using ho) (by omega) (fun j hji => by
   rw [List.getElem?_set]
   by_cases e : i = j
   ·subst e
    rw [if_pos rfl, if_pos (by omega), List.getElem?_map, List.getElem?_eq_getElem (by omega)]
    rfl
   ·rw [if_neg e]
    exact hj j (by omega))
  refine ⟨K1 + K2 + 1, fun k hk => ?_⟩
  obtain ⟨k, rfl⟩ : ∃ m, k = m + 1 := ⟨k - 1, by omega⟩
  simp only [laws_toWayS.l0, laws_toWay.f]
  rw [if_pos (by omega), if_pos (by omega), rdWL_get l i (by omega), h1 k (by omega)]
  simp only [Option.bind_some]
  rw [if_pos (by omega), w64 (by omega) (by omega), show ((i : Int) + 1) = ((i + 1 : Nat) : Int) by omega, Int.toNat_natCast]
  exact h2 k (by omega)
theorem toWayS_ev (l : List WL) (h : SzOk (l.map toW)) : ∃ K, ∀ k, K ≤ k → laws_toWayS.f k l = some (l.map toW) := by
 have hn : l.length ≤ 1048576 := by simpa using SzOk_len h
 obtain ⟨K, hK⟩ := toWayS_l0 l hn (fun x hx => SzOk_way h (x := toW x) (List.mem_map_of_mem hx)) l.length 0 (List.replicate l.length z52) (by simp) (by omega) (fun j hj => absurd hj (Nat.not_lt_zero _))
 refine ⟨K, fun k hk => ?_⟩
 unfold laws_toWayS.f
 rw [if_pos (by omega), if_pos (by omega)]
 exact hK k hk
theorem eqWayS_l0 (l : List WI) (hl : SzOk l) : ∀ (d i : Nat), i + d = l.length → ∃ K, ∀ k, K ≤ k → laws_eqWayS.l0 k l l (i : Int) = some true
 | 0, i, hi => by
  refine ⟨1, fun k hk => ?_⟩
  obtain ⟨k, rfl⟩ : ∃ m, k = m + 1 := ⟨k - 1, by omega⟩
  simp only [laws_eqWayS.l0]
  rw [if_neg (by omega)]
 | d + 1, i, hi => by
  have hn := SzOk_len hl
  obtain ⟨K1, h1⟩ := eqIntS_ev l[i].f0 l[i].f0 (by have := SzOk_way hl (List.getElem_mem (l := l) (n := i) (by omega)); omega)
  obtain ⟨K2, h2⟩ := eqWayS_l0 l hl d (i + 1) (by omega)
  refine ⟨K1 + K2 + 1, fun k hk => ?_⟩
  obtain ⟨k, rfl⟩ : ∃ m, k = m + 1 := ⟨k - 1, by omega⟩
  simp only [laws_eqWayS.l0, laws_eqWay.f]
  rw [if_pos (by omega), if_pos (by omega), if_pos (by omega), rdWI_get l i (by omega), h1 k (by omega)]
  simp only [Option.bind_some, decide_true, reduceIte]
  rw [w64 (by omega) (by omega), show ((i : Int) + 1) = ((i + 1 : Nat) : Int) by omega]
  exact h2 k (by omega)
theorem eqWayS_ev (l : List WI) (hl : SzOk l) : ∃ K, ∀ k, K ≤ k → laws_eqWayS.f k l l = some true := by
 obtain ⟨K, h⟩ := eqWayS_l0 l hl l.length 0 (by omega)
 refine ⟨K, fun k hk => ?_⟩
 unfold laws_eqWayS.f
 rw [if_pos rfl]
 exact h k hk
end Go.Proofs.Ytdebpmdbeogglaa.Pure
/- A number between two others. -/
namespace Go.Proofs.Ytdebpmdbeogglaa.Pure
open Go.RowKit Go.Proofs.Ytdebpmdbeogglaa.Q Go.Proofs.YtdebpmdbeogglaaW.PrintWords Go.Proofs.YtdebpmdbeogglaaW.PrintLast
theorem l01In_eq (a b c : Int) : spec_l01In.f a b c = some (decide (b ≤ a ∧ a ≤ c)) := by
 unfold spec_l01In.f
 by_cases h : a ≥ b
 ·rw [if_pos h]; congr 1; exact decide_eq_decide.mpr ⟨fun h2 => ⟨h, h2⟩, fun h2 => h2.2⟩
 ·rw [if_neg h, decide_eq_false (fun h2 => h h2.1)]
end Go.Proofs.Ytdebpmdbeogglaa.Pure
/- Level ways and meetings: what the program answers. -/
namespace Go.Proofs.Ytdebpmdbeogglaa.Pure
open Go.RowKit Go.Proofs.Ytdebpmdbeogglaa.Q Go.Proofs.YtdebpmdbeogglaaW.PrintWords Go.Proofs.YtdebpmdbeogglaaW.PrintLast
def len0 (l : List WI) : Int := ((rd_T52 l 0).f0.length : Int)
def Lev (l : List WI) (t : Int) : Prop := 1 ≤ l.length ∧ l.length ≤ 10 ∧ 0 ≤ t ∧ t < len0 l - 1 ∧ ∀ x ∈ l, (x.f0.length : Int) = len0 l
instance (l : List WI) (t : Int) : Decidable (Lev l t) := by unfold Lev; exact inferInstance
theorem len0_get (l : List WI) (h : 0 < l.length) : len0 l = (l[0].f0.length : Int) := by unfold len0; rw [show (0 : Int) = ((0 : Nat) : Int) from rfl, rdWI_get l 0 h]
theorem len0_le (l : List WI) (h : 0 < l.length) (hl : SzOk l) : len0 l ≤ 1048576 ∧ 0 ≤ len0 l := by
 have := SzOk_way hl (List.getElem_mem (l := l) (n := 0) h)
 rw [len0_get l h]; omega
theorem implLevel_eq (l : List WI) (t : Int) (hl : SzOk l) : impl_LevelWays.f l t = some (decide (Lev l t)) := by
 unfold impl_LevelWays.f impl_areLevel.f hof_areLevel.f
 by_cases c : (l.length : Int) ≥ 1
 ·by_cases c1 : (l.length : Int) ≤ 10
  ·rw [if_pos c, if_pos c1, if_pos (by omega)]
   simp only [Option.bind_some]
   obtain ⟨g1, g2⟩ := len0_le l (by omega) hl
   by_cases c2 : ∀ x ∈ l, (x.f0.length : Int) = len0 l
   ·have e : l.any (hof_areLevel.p l) = false := by
     rw [List.any_eq_false]
     intro x hx
     unfold hof_areLevel.p
     have := c2 x hx
     unfold len0 at this
     simpa using this
    rw [e]
    simp only [Bool.not_false, reduceIte]
    by_cases c3 : t ≥ 0
    ·rw [if_pos c3, if_pos (by omega)]
     show some (decide (t < wrap64 (len0 l - 1))) = _
     rw [w64 (by omega) (by omega)]
     congr 1
     exact decide_eq_decide.mpr ⟨fun h => ⟨by omega, by omega, by omega, h, c2⟩, fun h => h.2.2.2.1⟩
    ·rw [if_neg c3, decide_eq_false]
     rintro ⟨_, _, h, _⟩; omega
   ·have e : l.any (hof_areLevel.p l) = true := by
     rw [List.any_eq_true]
     have : ∃ x, x ∈ l ∧ ¬ (x.f0.length : Int) = len0 l := by
      refine Classical.byContradiction fun hne => c2 fun x hx => Classical.byContradiction fun hx2 => hne ⟨x, hx, hx2⟩
     obtain ⟨x, hx, h⟩ := this
     refine ⟨x, hx, ?_⟩
     unfold hof_areLevel.p
     unfold len0 at h
     simpa using h
    rw [e]
    simp only [Bool.not_true, Bool.false_eq_true, reduceIte]
    rw [decide_eq_false]
    rintro ⟨_, _, _, _, h⟩; exact c2 h
  ·rw [if_pos c, if_neg c1]
   simp only [Option.bind_some, Bool.false_eq_true, reduceIte]
   rw [decide_eq_false]
   rintro ⟨_, h, _⟩; omega
 ·rw [if_neg c]
  simp only [Option.bind_some, Bool.false_eq_true, reduceIte]
  rw [decide_eq_false]
  rintro ⟨h, _⟩; omega
def cel (l : List WI) (i : Nat) (t : Int) : Int := rd (rd_T52 l (i : Int)).f0 t
def Mt (l : List WI) (t : Int) : Prop := ∃ i k, k < i ∧ i < l.length ∧ cel l i t = cel l k t
section
variable (l : List WI) (t : Int) (h10 : l.length ≤ 10) (h0 : 0 ≤ t) (hb : t < 9223372036854775807)
include h10 h0
theorem implMeets_l1 (hx : ∀ x ∈ l, t < (x.f0.length : Int)) (i : Nat) (hi : i < l.length) (P : Prop) (hc : ∃ b K, (∀ q, K ≤ q → impl_meets.l0 q l t (l.length : Int) (wrap64 ((i : Int) + 1)) = some b) ∧ (b = true ↔ P)) :
  ∀ (d k : Nat), k + d = i → ∃ b K, (∀ q, K ≤ q → impl_meets.l1 q l t (i : Int) (l.length : Int) (i : Int) (i : Int) (k : Int) = some b) ∧ (b = true ↔ (∃ k', k ≤ k' ∧ k' < i ∧ cel l i t = cel l k' t) ∨ P)
 | 0, k, hk => by
  obtain ⟨b, K, h, hP⟩ := hc
  refine ⟨b, K + 1, fun q hq => ?_, ?_⟩
  ·obtain ⟨q, rfl⟩ : ∃ m, q = m + 1 := ⟨q - 1, by omega⟩
   simp only [impl_meets.l1]
   rw [if_neg (by omega)]
   exact h q (by omega)
  ·rw [hP]
   exact ⟨.inr, fun h => h.resolve_left (by rintro ⟨k', h1, h2, _⟩; omega)⟩
 | d + 1, k, hk => by
  obtain ⟨b, K, h, hP⟩ := implMeets_l1 hx i hi P hc d (k + 1) (by omega)
  have hxi := hx l[i] (List.getElem_mem _)
  have hxk := hx l[k] (List.getElem_mem _)
  have e1 : (k : Int) < (i : Int) := by omega
  have e2 : (0 : Int) ≤ i := by omega
  have e3 : (i : Int) < (l.length : Int) := by omega
  have e5 : (0 : Int) ≤ k := by omega
  have e6 : (k : Int) < (l.length : Int) := by omega
  have e9 : wrap64 ((k : Int) + 1) = ((k + 1 : Nat) : Int) := by rw [w64 (by omega) (by omega)]; rfl
  by_cases c : cel l i t = cel l k t
  ·refine ⟨true, 1, fun q hq => ?_, ⟨fun _ => .inl ⟨k, Nat.le_refl _, by omega, c⟩, fun _ => rfl⟩⟩
   obtain ⟨q, rfl⟩ : ∃ m, q = m + 1 := ⟨q - 1, by omega⟩
   unfold cel at c
   rw [rdWI_get l i hi, rdWI_get l k (by omega)] at c
   simp only [impl_meets.l1, rdWI_get l i hi, rdWI_get l k (show k < l.length by omega), e1, e2, e3, e5, e6, h0, hxi, hxk, c, reduceIte]
  ·refine ⟨b, K + 1, fun q hq => ?_, ?_⟩
   ·obtain ⟨q, rfl⟩ : ∃ m, q = m + 1 := ⟨q - 1, by omega⟩
    unfold cel at c
    rw [rdWI_get l i hi, rdWI_get l k (by omega)] at c
    simp only [impl_meets.l1, rdWI_get l i hi, rdWI_get l k (show k < l.length by omega), e1, e2, e3, e5, e6, h0, hxi, hxk, c, e9, reduceIte]
    exact h q (by omega)
   ·rw [hP]
    constructor
    ·rintro (⟨k', h1, h2, h3⟩ | h)
     ·exact .inl ⟨k', by omega, h2, h3⟩
     ·exact .inr h
    ·rintro (⟨k', h1, h2, h3⟩ | h)
     ·refine .inl ⟨k', ?_, h2, h3⟩
      rcases Nat.eq_or_lt_of_le h1 with e | e
      ·subst e; exact absurd h3 c
      ·exact e
     ·exact .inr h
theorem implMeets_l0 (hx : ∀ x ∈ l, t < (x.f0.length : Int)) : ∀ (d i : Nat), i + d = l.length → ∃ b K, (∀ q, K ≤ q → impl_meets.l0 q l t (l.length : Int) (i : Int) = some b) ∧ (b = true ↔ ∃ i' k', i ≤ i' ∧ k' < i' ∧ i' < l.length ∧ cel l i' t = cel l k' t)
 | 0, i, hi => by
  refine ⟨false, 1, fun q hq => ?_, ⟨fun h => (by cases h), ?_⟩⟩
  ·obtain ⟨q, rfl⟩ : ∃ m, q = m + 1 := ⟨q - 1, by omega⟩
   simp only [impl_meets.l0]
   rw [if_neg (by omega)]
  ·rintro ⟨i', k', h1, h2, h3, _⟩; omega
 | d + 1, i, hi => by
  have hc := implMeets_l0 hx d (i + 1) (by omega)
  rw [show ((i + 1 : Nat) : Int) = wrap64 ((i : Int) + 1) by rw [w64 (by omega) (by omega)]; rfl] at hc
  obtain ⟨b, K, h, hP⟩ := implMeets_l1 l t h10 h0 hx i (by omega) _ hc i 0 (by omega)
  refine ⟨b, K + 1, fun q hq => ?_, ?_⟩
  ·obtain ⟨q, rfl⟩ : ∃ m, q = m + 1 := ⟨q - 1, by omega⟩
   simp only [impl_meets.l0]
   rw [if_pos (by omega), if_pos (by omega), if_pos (by omega), show ((l.take (i : Int).toNat).length : Int) = (i : Int) by rw [Int.toNat_natCast, List.length_take]; omega]
   exact h q (by omega)
  ·rw [hP]
   constructor
   ·rintro (⟨k', h1, h2, h3⟩ | ⟨i', k', h1, h2, h3, h4⟩)
    ·exact ⟨i, k', Nat.le_refl _, h2, by omega, h3⟩
    ·exact ⟨i', k', by omega, h2, h3, h4⟩
   ·rintro ⟨i', k', h1, h2, h3, h4⟩
    rcases Nat.eq_or_lt_of_le h1 with e | e
    ·subst e; exact .inl ⟨k', Nat.zero_le _, h2, h4⟩
    ·exact .inr ⟨i', k', by omega, h2, h3, h4⟩
theorem implMeets_ev (hx : ∀ x ∈ l, t < (x.f0.length : Int)) : ∃ b K, (∀ q, K ≤ q → impl_meets.f q l t = some b) ∧ (b = true ↔ Mt l t) := by
 obtain ⟨b, K, h, hP⟩ := implMeets_l0 l t h10 h0 hx l.length 0 (by omega)
 refine ⟨b, K, fun q hq => h q hq, ?_⟩
 rw [hP]; unfold Mt
 exact ⟨fun ⟨i, k, _, h⟩ => ⟨i, k, h⟩, fun ⟨i, k, h⟩ => ⟨i, k, Nat.zero_le _, h⟩⟩
end
def Meets (l : List WI) (t : Int) : Prop := Lev l t ∧ (Mt l t ∨ Mt l (t + 1))
theorem implMeet_ev (l : List WI) (t : Int) (hl : SzOk l) : ∃ b K, (∀ k, K ≤ k → impl_MeetAt.f k l t = some b) ∧ (b = true ↔ Meets l t) := by
 by_cases h : Lev l t
 ·obtain ⟨g1, g2, g3, g4, g5⟩ := h
  obtain ⟨q1, q2⟩ := len0_le l (by omega) hl
  have hx : ∀ x ∈ l, t + 1 < (x.f0.length : Int) := fun x hx => by rw [g5 x hx]; omega
  obtain ⟨b1, K1, h2, hP1⟩ := implMeets_ev l t g2 g3 (fun x hm => by have := hx x hm; omega)
  obtain ⟨b2, K2, h3, hP2⟩ := implMeets_ev l (t + 1) g2 (by omega) hx
  have hlev : Lev l t := ⟨g1, g2, g3, g4, g5⟩
  refine ⟨b1 || b2, K1 + K2, fun k hk => ?_, ?_⟩
  ·unfold impl_MeetAt.f
   rw [implLevel_eq l t hl, Option.bind_some, decide_eq_true hlev, if_pos rfl, h2 k (by omega), Option.bind_some]
   cases b1 with
   | true => rw [if_pos rfl]; rfl
   | false => rw [if_neg (by decide), w64 (by omega) (by omega), h3 k (by omega), Option.bind_some]; rfl
  ·rw [Bool.or_eq_true, hP1, hP2]
   exact ⟨fun h => ⟨hlev, h⟩, fun h => h.2⟩
 ·refine ⟨false, 0, fun k hk => ?_, ⟨fun h => (by cases h), fun h2 => absurd h2.1 h⟩⟩
  unfold impl_MeetAt.f
  rw [implLevel_eq l t hl, Option.bind_some, decide_eq_false h, if_neg (by decide)]
end Go.Proofs.Ytdebpmdbeogglaa.Pure
/- Rings and swaps: the next robot of each, and how long a ring is. -/
namespace Go.Proofs.Ytdebpmdbeogglaa.Pure
open Go.RowKit Go.Proofs.Ytdebpmdbeogglaa.Q Go.Proofs.YtdebpmdbeogglaaW.PrintWords Go.Proofs.YtdebpmdbeogglaaW.PrintLast
theorem findI_spec {α : Type} (p : α → Bool) : ∀ l : List α, (findI p l = -1 ∧ ∀ (j : Nat) (h : j < l.length), p l[j] = false) ∨ (∃ (j : Nat) (h : j < l.length), findI p l = (j : Int) ∧ p l[j] = true)
 | [] => .inl ⟨rfl, fun j h => absurd h (Nat.not_lt_zero _)⟩
 | x :: xs => by
  unfold findI
  by_cases c : p x = true
  ·rw [if_pos c]
   exact .inr ⟨0, by simp, rfl, c⟩
  ·rw [if_neg c]
   rcases findI_spec p xs with ⟨h1, h2⟩ | ⟨j, h, h1, h2⟩
   ·left
    refine ⟨by simp [h1], fun j h => ?_⟩
    cases j with
    | zero => simpa using c
    | succ j => simpa using h2 j (by simpa using h)
   ·right
    refine ⟨j + 1, by simpa using h, ?_, by simpa using h2⟩
    simp only [h1]
    rw [if_neg (by omega)]
    omega
theorem php : ∀ (n : Nat) (L : List Nat), L.Nodup → (∀ x ∈ L, x < n) → L.length ≤ n
 | 0, L, _, h => by
  cases L with
  | nil => exact Nat.le_refl _
  | cons x xs => exact absurd (h x List.mem_cons_self) (Nat.not_lt_zero _)
 | n + 1, L, hd, h => by
  by_cases c : n ∈ L
  ·have h1 := php n (L.erase n) (hd.erase n) (fun x hx => by
    have := (List.Nodup.mem_erase_iff hd).mp hx
    have := h x this.2
    omega)
   have h2 := List.length_erase_of_mem c
   have h3 : 0 < L.length := List.length_pos_of_mem c
   omega
  ·have h1 := php n L hd (fun x hx => by
    have := h x hx
    rcases Nat.lt_or_ge x n with g | g
    ·exact g
    ·exact absurd (by rwa [show n = x by omega]) c)
   omega
def nxt (l : List WI) (t : Int) (i : Nat) : Int := findI (hof_nextOf.p t (rd_T52 l (i : Int)).f0) l
def nextL (l : List WI) (t : Int) : List Int := (List.range l.length).map (nxt l t)
theorem nextL_length (l : List WI) (t : Int) : (nextL l t).length = l.length := by simp [nextL]
theorem nextL_rd (l : List WI) (t : Int) (i : Nat) (h : i < l.length) : rd (nextL l t) (i : Int) = nxt l t i := by
 rw [rd_get _ i (by rw [nextL_length]; exact h)]; simp [nextL]
def itN (l : List WI) (t : Int) (i : Nat) : Nat → Int
 | 0 => (i : Int)
 | n + 1 => if itN l t i n < 0 then -1 else nxt l t (itN l t i n).toNat
def RingIs (l : List WI) (t : Int) (i : Nat) (v : Int) : Prop := (v = 0 ∧ ∃ m, itN l t i m = -1) ∨ (1 ≤ v ∧ itN l t i v.toNat = (i : Int) ∧ (v = 1 → nxt l t i = (i : Int)) ∧ (2 ≤ v → nxt l t i ≠ (i : Int)))
theorem itN_next (l : List WI) (t : Int) (i x n : Nat) (h : itN l t i n = (x : Int)) : itN l t i (n + 1) = nxt l t x := by
 rw [itN, if_neg (by omega), h, Int.toNat_natCast]
section
variable (l : List WI) (t : Int) (hv : Lev l t) (hm : ¬ Mt l t) (hm1 : ¬ Mt l (t + 1)) (hl : SzOk l)
include hv hl
theorem tw : wrap64 (t + 1) = t + 1 := by
 obtain ⟨g1, g2, g3, g4, g5⟩ := hv
 obtain ⟨q1, q2⟩ := len0_le l (by omega) hl
 exact w64 (by omega) (by omega)
theorem nxt_p (i : Nat) (j : Nat) (hj : j < l.length) : hof_nextOf.p t (rd_T52 l (i : Int)).f0 l[j] = decide (cel l j t = cel l i (t + 1)) := by
 unfold hof_nextOf.p cel
 rw [tw l t hv hl, rdWI_get l j hj]
include hm
theorem nxt_iff (i : Nat) (j : Nat) (hj : j < l.length) : cel l j t = cel l i (t + 1) ↔ nxt l t i = (j : Int) := by
 unfold nxt
 rcases findI_spec (hof_nextOf.p t (rd_T52 l (i : Int)).f0) l with ⟨h1, h2⟩ | ⟨q, hq, h1, h2⟩
 ·rw [h1]
  constructor
  ·intro h
   have := h2 j hj
   rw [nxt_p l t hv hl i j hj, decide_eq_true h] at this
   cases this
  ·intro h; omega
 ·rw [h1]
  rw [nxt_p l t hv hl i q hq] at h2
  have h2 := of_decide_eq_true h2
  constructor
  ·intro h
   rcases Nat.lt_trichotomy q j with g | g | g
   ·exact absurd ⟨j, q, g, hj, by rw [h, h2]⟩ hm
   ·omega
   ·exact absurd ⟨q, j, g, hq, by rw [h, h2]⟩ hm
  ·intro h
   have : q = j := by omega
   subst this; exact h2
theorem nxt_range (i : Nat) : nxt l t i = -1 ∨ ∃ j : Nat, j < l.length ∧ nxt l t i = (j : Int) := by
 unfold nxt
 rcases findI_spec (hof_nextOf.p t (rd_T52 l (i : Int)).f0) l with ⟨h1, _⟩ | ⟨q, hq, h1, _⟩
 ·exact .inl h1
 ·exact .inr ⟨q, hq, h1⟩
include hm1
theorem nxt_inj (i j q : Nat) (hi : i < l.length) (hj : j < l.length) (hq : q < l.length) (h1 : nxt l t i = (q : Int)) (h2 : nxt l t j = (q : Int)) : i = j := by
 have e1 := (nxt_iff l t hv hm hl i q hq).mpr h1
 have e2 := (nxt_iff l t hv hm hl j q hq).mpr h2
 rcases Nat.lt_trichotomy i j with g | g | g
 ·exact absurd ⟨j, i, g, hj, by rw [← e1, ← e2]⟩ hm1
 ·exact g
 ·exact absurd ⟨i, j, g, hi, by rw [← e1, ← e2]⟩ hm1
omit hm1
theorem specRing_l1 (i x : Nat) (size : Int) (hx : x < l.length) (v : Int) (K : Nat)
  (h : ∀ k, K ≤ k → (if nxt l t x < 0 then some 0 else if nxt l t x = (i : Int) then some size else spec_l12Ring.l0 k l t (i : Int) (nxt l t x) (wrap64 (size + 1))) = some v) :
  ∀ (d j k : Nat), j + d = l.length → K + d + 1 ≤ k → spec_l12Ring.l1 k l t (i : Int) (x : Int) size (if nxt l t x < (j : Int) then nxt l t x else -1) (j : Int) = some v
 | 0, j, k, hj, hk => by
  obtain ⟨k, rfl⟩ : ∃ m, k = m + 1 := ⟨k - 1, by omega⟩
  have hr : nxt l t x < (j : Int) := by
   rcases nxt_range l t hv hm hl x with e | ⟨q, hq, e⟩ <;> omega
  simp only [spec_l12Ring.l1]
  rw [if_neg (by omega), if_pos hr]
  exact h k (by omega)
 | d + 1, j, k, hj, hk => by
  obtain ⟨k, rfl⟩ : ∃ m, k = m + 1 := ⟨k - 1, by omega⟩
  obtain ⟨hjl, hk1, hk2⟩ : j < l.length ∧ j + 1 + d = l.length ∧ K + d + 1 ≤ k := by clear h; omega
  obtain ⟨g1, g2, g3, g4, g5⟩ := hv
  obtain ⟨b1, b2, b4, b5, b6⟩ : (j : Int) < (l.length : Int) ∧ (0 : Int) ≤ j ∧ (0 : Int) ≤ x ∧ (x : Int) < (l.length : Int) ∧ 0 ≤ t + 1 := by clear h; omega
  have b3 : t < (l[j].f0.length : Int) := by
   have a1 := g5 l[j] (List.getElem_mem _)
   clear h; omega
  have b7 : t + 1 < (l[x].f0.length : Int) := by
   have a1 := g5 l[x] (List.getElem_mem _)
   clear h; omega
  have e9 : wrap64 ((j : Int) + 1) = ((j + 1 : Nat) : Int) := by
   rw [w64 (by clear h; omega) (by clear h; omega)]; rfl
  have hv : Lev l t := ⟨g1, g2, g3, g4, g5⟩
  have ih := specRing_l1 i x size hx v K h d (j + 1) k hk1 hk2
  have hi := nxt_iff l t hv hm hl x j hjl
  have b8 := tw l t hv hl
  unfold cel at hi
  have r1 := rdWI_get l j hjl
  have r2 := rdWI_get l x hx
  rw [r1, r2] at hi
  have b9 := g3
  clear g1 g2 g3 g4 g5 hv hk hk1 hk2 h
  generalize nxt l t x = N at ih hi ⊢
  by_cases c : rd l[j].f0 t = rd l[x].f0 (t + 1)
  ·have e := hi.mp c
   have b10 : N < ((j + 1 : Nat) : Int) := by clear ih hi c b3 b7 b8 e9; omega
   rw [if_pos b10, e] at ih
   simp only [spec_l12Ring.l1, r1, r2, b1, b2, b3, b4, b5, b6, b7, b8, b9, c, e9, reduceIte]
   exact ih
  ·have e : N ≠ (j : Int) := fun h => c (hi.mpr h)
   simp only [spec_l12Ring.l1, r1, r2, b1, b2, b3, b4, b5, b6, b7, b8, b9, c, e9, reduceIte]
   by_cases c2 : N < (j : Int)
   ·have b10 : N < ((j + 1 : Nat) : Int) := by clear ih hi c b3 b7 b8 e9; omega
    rw [if_pos c2]
    rw [if_pos b10] at ih
    exact ih
   ·have b10 : ¬ N < ((j + 1 : Nat) : Int) := by clear ih hi c b3 b7 b8 e9; omega
    rw [if_neg c2]
    rw [if_neg b10] at ih
    exact ih
include hm1
theorem ring_l0 (i : Nat) (hi : i < l.length) : ∀ (d x : Nat) (tl : List Nat), tl.length + 1 + d = l.length → (x :: tl).Nodup → (∀ u ∈ x :: tl, u < l.length) → (∀ u ∈ x :: tl, u ≠ i → ∃ u' ∈ tl, nxt l t u' = (u : Int)) → itN l t i tl.length = (x : Int) → (tl = [] → x = i) → (tl ≠ [] → nxt l t i ≠ (i : Int)) →
  ∃ v K, (∀ k, K ≤ k → spec_l12Ring.l0 k l t (i : Int) (x : Int) ((tl.length + 1 : Nat) : Int) = some v ∧ impl_ringOf.l0 k (nextL l t) (i : Int) ((tl.length + 1 : Nat) : Int) (nxt l t x) = some v) ∧ 0 ≤ v ∧ v ≤ l.length ∧ RingIs l t i v := by
 intro d
 induction d with
 | zero =>
  intro x tl hd hn hlt hch hit hx0 hne0
  have hnx := itN_next l t i x tl.length hit
  have h10 := hv.2.1
  have hx := hlt x List.mem_cons_self
  have hend : nxt l t x < 0 ∨ nxt l t x = (i : Int) := by
   rcases nxt_range l t hv hm hl x with e | ⟨q, hq, e⟩
   ·left; omega
   ·right
    refine Classical.byContradiction fun hne => ?_
    have hqi : q ≠ i := fun h => hne (by rw [e, h])
    have hnm : q ∉ x :: tl := fun hmem => by
     obtain ⟨u', hu', e'⟩ := hch q hmem hqi
     have := nxt_inj l t hv hm hm1 hl x u' q hx (hlt u' (List.mem_cons_of_mem _ hu')) hq e e'
     subst this
     exact (List.nodup_cons.mp hn).1 hu'
    have := php l.length (q :: x :: tl) (List.nodup_cons.mpr ⟨hnm, hn⟩) (fun u hu => by
     rcases List.mem_cons.mp hu with h | h
     ·omega
     ·exact hlt u h)
    simp at this
    omega
  have e1 : ((tl.length + 1 : Nat) : Int) ≤ (l.length : Int) := by omega
  by_cases c : nxt l t x < 0
  ·refine ⟨0, l.length + 3, fun k hk => ⟨?_, ?_⟩, by omega, by omega, .inl ⟨rfl, tl.length + 1, by rw [hnx]; rcases nxt_range l t hv hm hl x with e' | ⟨q', hq', e'⟩ <;> omega⟩⟩
   ·obtain ⟨k, rfl⟩ : ∃ m, k = m + 1 := ⟨k - 1, by omega⟩
    simp only [spec_l12Ring.l0]
    rw [if_pos e1]
    have := specRing_l1 l t hv hm hl i x ((tl.length + 1 : Nat) : Int) hx 0 0 (fun k _ => by rw [if_pos c]) l.length 0 k (by omega) (by omega)
    have hz : (if nxt l t x < ((0 : Nat) : Int) then nxt l t x else -1) = -1 := by
     rcases nxt_range l t hv hm hl x with e | ⟨q, hq, e⟩
     ·rw [e]; rfl
     ·rw [if_neg (by omega)]
    rw [hz] at this
    exact this
   ·obtain ⟨k, rfl⟩ : ∃ m, k = m + 1 := ⟨k - 1, by omega⟩
    simp only [impl_ringOf.l0]
    rw [if_neg (by omega), if_pos c]
  ·have c2 : nxt l t x = (i : Int) := hend.resolve_left c
   refine ⟨((tl.length + 1 : Nat) : Int), l.length + 3, fun k hk => ⟨?_, ?_⟩, by omega, by omega, .inr ⟨by omega, by rw [Int.toNat_natCast, hnx]; omega, fun h1 => by rw [← hx0 (List.eq_nil_of_length_eq_zero (by omega))]; rw [hx0 (List.eq_nil_of_length_eq_zero (by omega))] at *; omega, fun h2 => hne0 (fun h3 => by rw [h3] at h2; simp at h2)⟩⟩
   ·obtain ⟨k, rfl⟩ : ∃ m, k = m + 1 := ⟨k - 1, by omega⟩
    simp only [spec_l12Ring.l0]
    rw [if_pos e1]
    have := specRing_l1 l t hv hm hl i x ((tl.length + 1 : Nat) : Int) hx ((tl.length + 1 : Nat) : Int) 0 (fun k _ => by rw [if_neg c, if_pos c2]) l.length 0 k (by omega) (by omega)
    have hz : (if nxt l t x < ((0 : Nat) : Int) then nxt l t x else -1) = -1 := by rw [if_neg (by omega)]
    rw [hz] at this
    exact this
   ·obtain ⟨k, rfl⟩ : ∃ m, k = m + 1 := ⟨k - 1, by omega⟩
    simp only [impl_ringOf.l0]
    rw [if_pos c2]
 | succ d ih =>
  intro x tl hd hn hlt hch hit hx0 hne0
  have hnx := itN_next l t i x tl.length hit
  have h10 := hv.2.1
  have hx := hlt x List.mem_cons_self
  have e1 : ((tl.length + 1 : Nat) : Int) ≤ (l.length : Int) := by omega
  have e9 : wrap64 (((tl.length + 1 : Nat) : Int) + 1) = (((x :: tl).length + 1 : Nat) : Int) := by rw [w64 (by omega) (by omega)]; rfl
  have hz : (if nxt l t x < ((0 : Nat) : Int) then nxt l t x else -1) = -1 := by
   rcases nxt_range l t hv hm hl x with e | ⟨q, hq, e⟩
   ·rw [e]; rfl
   ·rw [if_neg (by omega)]
  rcases nxt_range l t hv hm hl x with e | ⟨q, hq, e⟩
  ·refine ⟨0, l.length + 3, fun k hk => ⟨?_, ?_⟩, by omega, by omega, .inl ⟨rfl, tl.length + 1, by rw [hnx]; rcases nxt_range l t hv hm hl x with e' | ⟨q', hq', e'⟩ <;> omega⟩⟩
   ·obtain ⟨k, rfl⟩ : ∃ m, k = m + 1 := ⟨k - 1, by omega⟩
    simp only [spec_l12Ring.l0]
    rw [if_pos e1]
    have := specRing_l1 l t hv hm hl i x ((tl.length + 1 : Nat) : Int) hx 0 0 (fun k _ => by rw [if_pos (by omega)]) l.length 0 k (by omega) (by omega)
    rw [hz] at this
    exact this
   ·obtain ⟨k, rfl⟩ : ∃ m, k = m + 1 := ⟨k - 1, by omega⟩
    simp only [impl_ringOf.l0]
    rw [if_neg (by omega), if_pos (by omega)]
  ·by_cases c : q = i
   ·refine ⟨((tl.length + 1 : Nat) : Int), l.length + 3, fun k hk => ⟨?_, ?_⟩, by omega, by omega, .inr ⟨by omega, by rw [Int.toNat_natCast, hnx]; omega, fun h1 => by rw [← hx0 (List.eq_nil_of_length_eq_zero (by omega))]; rw [hx0 (List.eq_nil_of_length_eq_zero (by omega))] at *; omega, fun h2 => hne0 (fun h3 => by rw [h3] at h2; simp at h2)⟩⟩
    ·obtain ⟨k, rfl⟩ : ∃ m, k = m + 1 := ⟨k - 1, by omega⟩
     simp only [spec_l12Ring.l0]
     rw [if_pos e1]
     have := specRing_l1 l t hv hm hl i x ((tl.length + 1 : Nat) : Int) hx ((tl.length + 1 : Nat) : Int) 0 (fun k _ => by rw [if_neg (by omega), if_pos (by omega)]) l.length 0 k (by omega) (by omega)
     rw [hz] at this
     exact this
    ·obtain ⟨k, rfl⟩ : ∃ m, k = m + 1 := ⟨k - 1, by omega⟩
     simp only [impl_ringOf.l0]
     rw [if_pos (by omega)]
   ·have hnm : q ∉ x :: tl := fun hmem => by
     obtain ⟨u', hu', e'⟩ := hch q hmem c
     have := nxt_inj l t hv hm hm1 hl x u' q hx (hlt u' (List.mem_cons_of_mem _ hu')) hq e e'
     subst this
     exact (List.nodup_cons.mp hn).1 hu'
    obtain ⟨v, K, hh, hv0, hv1, hv2⟩ := ih q (x :: tl) (by simp only [List.length_cons]; omega) (List.nodup_cons.mpr ⟨hnm, hn⟩)
     (fun u hu => by
      rcases List.mem_cons.mp hu with h | h
      ·omega
      ·exact hlt u h)
     (fun u hu hui => by
      rcases List.mem_cons.mp hu with h | h
      ·exact ⟨x, List.mem_cons_self, by rw [e, h]⟩
      ·obtain ⟨u', hu', e'⟩ := hch u h hui
       exact ⟨u', List.mem_cons_of_mem _ hu', e'⟩)
     (by rw [List.length_cons, hnx, e]) (fun h => by cases h) (fun _ h => by
      by_cases hn0 : tl = []
      ·have := hx0 hn0; subst this; rw [e] at h; omega
      ·exact hne0 hn0 h)
    refine ⟨v, K + l.length + 3, fun k hk => ⟨?_, ?_⟩, hv0, hv1, hv2⟩
    ·obtain ⟨k, rfl⟩ : ∃ m, k = m + 1 := ⟨k - 1, by omega⟩
     simp only [spec_l12Ring.l0]
     rw [if_pos e1]
     have := specRing_l1 l t hv hm hl i x ((tl.length + 1 : Nat) : Int) hx v K (fun k hk => by rw [if_neg (by omega), if_neg (by omega), e9, e]; exact (hh k hk).1) l.length 0 k (by omega) (by omega)
     rw [hz] at this
     exact this
    ·obtain ⟨k, rfl⟩ : ∃ m, k = m + 1 := ⟨k - 1, by omega⟩
     simp only [impl_ringOf.l0]
     rw [if_neg (by omega), if_neg (by omega), if_neg (by rw [nextL_length]; omega), if_pos (by omega), if_pos (by rw [nextL_length]; omega), e9, e, nextL_rd l t q hq]
     exact (hh k (by omega)).2
theorem ring_evM (i : Nat) (hi : i < l.length) : ∃ v K, (∀ k, K ≤ k → spec_l12Ring.f k l t (i : Int) = some v ∧ impl_ringOf.f k (nextL l t) (i : Int) = some v) ∧ 0 ≤ v ∧ v ≤ l.length ∧ RingIs l t i v := by
 obtain ⟨v, K, h, h1⟩ := ring_l0 l t hv hm hm1 hl i hi (l.length - 1) i [] (by simp; omega) (by simp) (by simpa using hi) (by
  intro u hu hne
  exact absurd (by simpa using hu) hne) rfl (fun _ => rfl) (fun h => absurd rfl h)
 refine ⟨v, K, fun k hk => ⟨(h k hk).1, ?_⟩, h1⟩
 unfold impl_ringOf.f
 rw [if_pos (by omega), if_pos (by rw [nextL_length]; omega), nextL_rd l t i hi]
 exact (h k hk).2
theorem ring_ev (i : Nat) (hi : i < l.length) : ∃ v K, (∀ k, K ≤ k → spec_l12Ring.f k l t (i : Int) = some v ∧ impl_ringOf.f k (nextL l t) (i : Int) = some v) ∧ 0 ≤ v ∧ v ≤ l.length := by
 obtain ⟨v, K, h, h1, h2, _⟩ := ring_evM l t hv hm hm1 hl i hi
 exact ⟨v, K, h, h1, h2⟩
end
section
variable (l : List WI) (t : Int) (hv : Lev l t) (hl : SzOk l)
include hv hl
theorem implNext_l0 : ∀ (d i k : Nat), i + d = l.length → d < k → impl_nextOf.l0 k l ((List.range i).map (nxt l t)) l (l.length : Int) (i : Int) t = some (nextL l t)
 | 0, i, k, hi, hk => by
  obtain ⟨k, rfl⟩ : ∃ m, k = m + 1 := ⟨k - 1, by omega⟩
  simp only [impl_nextOf.l0]
  rw [if_neg (by omega), show i = l.length by omega]
  rfl
 | d + 1, i, k, hi, hk => by
  obtain ⟨k, rfl⟩ : ∃ m, k = m + 1 := ⟨k - 1, by omega⟩
  have ih := implNext_l0 d (i + 1) k (by omega) (by omega)
  obtain ⟨g1, g2, g3, g4, g5⟩ := hv
  obtain ⟨q1, q2⟩ := len0_le l (by omega) hl
  have a1 := g5 l[i] (List.getElem_mem _)
  simp only [impl_nextOf.l0, hof_nextOf.f]
  rw [if_pos (by omega), if_pos (by omega), if_pos (by omega), if_pos ⟨g3, by omega, by rw [rdWI_get l i (by omega)]; omega, fun x hx => by have := g5 x hx; omega⟩]
  simp only [Option.bind_some]
  rw [if_pos (by simp; omega), w64 (by omega) (by omega), show ((i : Int) + 1) = ((i + 1 : Nat) : Int) by omega]
  rw [List.range_succ, List.map_append] at ih
  exact ih
end
def Calm (l : List WI) (t : Int) : Prop := Lev l t ∧ ¬ Mt l t ∧ ¬ Mt l (t + 1)
theorem implNext_ev (l : List WI) (t : Int) (hl : SzOk l) : (Calm l t → ∃ K, ∀ k, K ≤ k → impl_nextOf.f k l t = some (nextL l t)) ∧ (¬ Calm l t → ∃ K, ∀ k, K ≤ k → impl_nextOf.f k l t = some []) := by
 obtain ⟨b, K, h, hb⟩ := implMeet_ev l t hl
 constructor
 ·rintro ⟨c1, c2, c3⟩
  refine ⟨K + l.length + 2, fun k hk => ?_⟩
  obtain ⟨k, rfl⟩ : ∃ m, k = m + 1 := ⟨k - 1, by omega⟩
  have hbf : b = false := by
   cases b with
   | false => rfl
   | true => exact absurd (hb.mp rfl).2 (fun h => h.elim c2 c3)
  unfold impl_nextOf.f
  rw [implLevel_eq l t hl, Option.bind_some, decide_eq_true c1, if_pos rfl, h (k + 1) (by omega), Option.bind_some, hbf]
  simp only [impl_nextOf.j0, Bool.false_eq_true, reduceIte]
  exact implNext_l0 l t c1 hl l.length 0 k (by omega) (by omega)
 ·intro hc
  refine ⟨K + 1, fun k hk => ?_⟩
  obtain ⟨k, rfl⟩ : ∃ m, k = m + 1 := ⟨k - 1, by omega⟩
  unfold impl_nextOf.f
  rw [implLevel_eq l t hl, Option.bind_some]
  by_cases c1 : Lev l t
  ·have hbt : b = true := hb.mpr ⟨c1, Classical.byContradiction fun h => hc ⟨c1, fun h1 => h (.inl h1), fun h1 => h (.inr h1)⟩⟩
   rw [decide_eq_true c1, if_pos rfl, h (k + 1) (by omega), Option.bind_some, hbt]
   simp only [impl_nextOf.j0, reduceIte]
  ·rw [decide_eq_false c1, if_neg (by decide)]
   simp only [impl_nextOf.j0, reduceIte]
end Go.Proofs.Ytdebpmdbeogglaa.Pure
/- Level ways and meetings: what the program and the reference answer. -/
namespace Go.Proofs.Ytdebpmdbeogglaa.Pure
open Go.RowKit Go.Proofs.Ytdebpmdbeogglaa.Q Go.Proofs.YtdebpmdbeogglaaW.PrintWords Go.Proofs.YtdebpmdbeogglaaW.PrintLast
theorem specLevel_l0 (l : List WI) (hl : SzOk l) (h0 : 0 < l.length) : ∀ (d i k : Nat), i + d = l.length → d < k → spec_LevelWays.l0 k l (i : Int) = some (decide (∀ x ∈ l.drop i, (x.f0.length : Int) = len0 l))
 | 0, i, k, hi, hk => by
  obtain ⟨k, rfl⟩ : ∃ m, k = m + 1 := ⟨k - 1, by omega⟩
  simp only [spec_LevelWays.l0]
  rw [if_neg (by omega), List.drop_of_length_le (by omega)]
  simp
 | d + 1, i, k, hi, hk => by
  obtain ⟨k, rfl⟩ : ∃ m, k = m + 1 := ⟨k - 1, by omega⟩
  have hn := SzOk_len hl
  simp only [spec_LevelWays.l0]
  rw [if_pos (by omega), if_pos (by omega), if_pos (by omega), rdWI_get l i (by omega), w64 (by omega) (by omega), show ((i : Int) + 1) = ((i + 1 : Nat) : Int) by omega, drop_cons l i (by omega)]
  show (if (l[i].f0.length : Int) = len0 l then _ else _) = _
  by_cases c : (l[i].f0.length : Int) = len0 l
  ·rw [if_pos c, specLevel_l0 l hl h0 d (i + 1) k (by omega) (by omega)]
   congr 1
   refine decide_eq_decide.mpr ⟨fun h x hx => ?_, fun h x hx => h x (List.mem_cons_of_mem _ hx)⟩
   rcases List.mem_cons.mp hx with e | hx
   ·subst e; exact c
   ·exact h x hx
  ·rw [if_neg c, decide_eq_false (fun h => c (h _ List.mem_cons_self))]
theorem specLevel_ev (l : List WI) (t : Int) (hl : SzOk l) (k : Nat) (hk : l.length + 2 ≤ k) : spec_LevelWays.f k l t = some (decide (Lev l t)) := by
 obtain ⟨k, rfl⟩ : ∃ m, k = m + 1 := ⟨k - 1, by omega⟩
 unfold spec_LevelWays.f
 rw [l01In_eq, Option.bind_some]
 have hj : spec_LevelWays.j0 (k + 1) l true = some false := by simp only [spec_LevelWays.j0, reduceIte]
 by_cases c : 1 ≤ (l.length : Int) ∧ (l.length : Int) ≤ 10
 ·rw [decide_eq_true c, if_pos rfl]
  by_cases c1 : t < 0
  ·rw [if_pos c1, hj, decide_eq_false]
   rintro ⟨_, _, h, _⟩; omega
  ·obtain ⟨g1, g2⟩ := len0_le l (by omega) hl
   rw [if_neg c1, if_pos (by omega)]
   show spec_LevelWays.j0 (k + 1) l (decide (t ≥ wrap64 (len0 l - 1))) = _
   rw [w64 (by omega) (by omega)]
   by_cases c2 : t ≥ len0 l - 1
   ·rw [decide_eq_true c2, hj, decide_eq_false]
    rintro ⟨_, _, _, h, _⟩; omega
   ·rw [decide_eq_false c2]
    simp only [spec_LevelWays.j0, Bool.false_eq_true, reduceIte]
    have := specLevel_l0 l hl (by omega) l.length 0 k (by omega) (by omega)
    rw [show (0 : Int) = ((0 : Nat) : Int) from rfl, this]
    congr 1
    refine decide_eq_decide.mpr ⟨fun h => ⟨by omega, by omega, by omega, by omega, h⟩, fun h => h.2.2.2.2⟩
 ·rw [decide_eq_false c, if_neg (by decide), hj, decide_eq_false]
  rintro ⟨h1, h2, _⟩; exact c ⟨by omega, by omega⟩
section
variable (l : List WI) (t : Int) (h10 : l.length ≤ 10) (h0 : 0 ≤ t) (hb : t < 9223372036854775807)
include h10 h0
theorem specMeet_l1 (ht : t + 1 ≤ 9223372036854775807) (hx : ∀ x ∈ l, t + 1 < (x.f0.length : Int)) (i : Nat) (hi : i < l.length) (P : Prop) (hc : ∃ b K, (∀ q, K ≤ q → spec_MeetAt.l0 q l t (wrap64 ((i : Int) + 1)) = some b) ∧ (b = true ↔ P)) :
  ∀ (d k : Nat), k + d = i → ∃ b K, (∀ q, K ≤ q → spec_MeetAt.l1 q l t (i : Int) (k : Int) = some b) ∧ (b = true ↔ (∃ k', k ≤ k' ∧ k' < i ∧ (cel l i t = cel l k' t ∨ cel l i (t + 1) = cel l k' (t + 1))) ∨ P)
 | 0, k, hk => by
  obtain ⟨b, K, h, hP⟩ := hc
  refine ⟨b, K + 1, fun q hq => ?_, ?_⟩
  ·obtain ⟨q, rfl⟩ : ∃ m, q = m + 1 := ⟨q - 1, by omega⟩
   simp only [spec_MeetAt.l1]
   rw [if_neg (by omega)]
   exact h q (by omega)
  ·rw [hP]
   exact ⟨.inr, fun h => h.resolve_left (by rintro ⟨k', h1, h2, _⟩; omega)⟩
 | d + 1, k, hk => by
  obtain ⟨b, K, h, hP⟩ := specMeet_l1 ht hx i hi P hc d (k + 1) (by omega)
  have hxi := hx l[i] (List.getElem_mem _)
  have hxk := hx l[k] (List.getElem_mem _)
  have hxi0 : t < (l[i].f0.length : Int) := by omega
  have hxk0 : t < (l[k].f0.length : Int) := by omega
  have e1 : (k : Int) < (i : Int) := by omega
  have e2 : (0 : Int) ≤ i := by omega
  have e3 : (i : Int) < (l.length : Int) := by omega
  have e5 : (0 : Int) ≤ k := by omega
  have e6 : (k : Int) < (l.length : Int) := by omega
  have e7 : wrap64 (t + 1) = t + 1 := w64 (by omega) (by omega)
  have e8 : 0 ≤ t + 1 := by omega
  have e9 : wrap64 ((k : Int) + 1) = ((k + 1 : Nat) : Int) := by rw [w64 (by omega) (by omega)]; rfl
  have r1 := rdWI_get l i hi
  have r2 := rdWI_get l k (show k < l.length by omega)
  by_cases c : cel l i t = cel l k t
  ·refine ⟨true, 1, fun q hq => ?_, ⟨fun _ => .inl ⟨k, Nat.le_refl _, by omega, .inl c⟩, fun _ => rfl⟩⟩
   obtain ⟨q, rfl⟩ : ∃ m, q = m + 1 := ⟨q - 1, by omega⟩
   unfold cel at c
   rw [r1, r2] at c
   simp only [spec_MeetAt.l1, r1, r2, e1, e2, e3, e5, e6, h0, hxi0, hxk0, c, reduceIte]
  ·by_cases c2 : cel l i (t + 1) = cel l k (t + 1)
   ·refine ⟨true, 1, fun q hq => ?_, ⟨fun _ => .inl ⟨k, Nat.le_refl _, by omega, .inr c2⟩, fun _ => rfl⟩⟩
    obtain ⟨q, rfl⟩ : ∃ m, q = m + 1 := ⟨q - 1, by omega⟩
    unfold cel at c c2
    rw [r1, r2] at c c2
    simp only [spec_MeetAt.l1, r1, r2, e1, e2, e3, e5, e6, e7, e8, h0, hxi, hxk, hxi0, hxk0, c, c2, reduceIte]
   ·refine ⟨b, K + 1, fun q hq => ?_, ?_⟩
    ·obtain ⟨q, rfl⟩ : ∃ m, q = m + 1 := ⟨q - 1, by omega⟩
     unfold cel at c c2
     rw [r1, r2] at c c2
     simp only [spec_MeetAt.l1, r1, r2, e1, e2, e3, e5, e6, e7, e8, e9, h0, hxi, hxk, hxi0, hxk0, c, c2, reduceIte]
     exact h q (by omega)
    ·rw [hP]
     constructor
     ·rintro (⟨k', h1, h2, h3⟩ | h)
      ·exact .inl ⟨k', by omega, h2, h3⟩
      ·exact .inr h
     ·rintro (⟨k', h1, h2, h3⟩ | h)
      ·refine .inl ⟨k', ?_, h2, h3⟩
       rcases Nat.eq_or_lt_of_le h1 with e | e
       ·subst e; exact absurd h3 (fun h => h.elim c c2)
       ·exact e
      ·exact .inr h
theorem specMeet_l0 (ht : t + 1 ≤ 9223372036854775807) (hx : ∀ x ∈ l, t + 1 < (x.f0.length : Int)) : ∀ (d i : Nat), i + d = l.length → ∃ b K, (∀ q, K ≤ q → spec_MeetAt.l0 q l t (i : Int) = some b) ∧ (b = true ↔ ∃ i' k', i ≤ i' ∧ k' < i' ∧ i' < l.length ∧ (cel l i' t = cel l k' t ∨ cel l i' (t + 1) = cel l k' (t + 1)))
 | 0, i, hi => by
  refine ⟨false, 1, fun q hq => ?_, ⟨fun h => (by cases h), ?_⟩⟩
  ·obtain ⟨q, rfl⟩ : ∃ m, q = m + 1 := ⟨q - 1, by omega⟩
   simp only [spec_MeetAt.l0]
   rw [if_neg (by omega)]
  ·rintro ⟨i', k', h1, h2, h3, _⟩; omega
 | d + 1, i, hi => by
  have hc := specMeet_l0 ht hx d (i + 1) (by omega)
  rw [show ((i + 1 : Nat) : Int) = wrap64 ((i : Int) + 1) by rw [w64 (by omega) (by omega)]; rfl] at hc
  obtain ⟨b, K, h, hP⟩ := specMeet_l1 l t h10 h0 ht hx i (by omega) _ hc i 0 (by omega)
  refine ⟨b, K + 1, fun q hq => ?_, ?_⟩
  ·obtain ⟨q, rfl⟩ : ∃ m, q = m + 1 := ⟨q - 1, by omega⟩
   simp only [spec_MeetAt.l0]
   rw [if_pos (by omega)]
   exact h q (by omega)
  ·rw [hP]
   constructor
   ·rintro (⟨k', h1, h2, h3⟩ | ⟨i', k', h1, h2, h3, h4⟩)
    ·exact ⟨i, k', Nat.le_refl _, h2, by omega, h3⟩
    ·exact ⟨i', k', by omega, h2, h3, h4⟩
   ·rintro ⟨i', k', h1, h2, h3, h4⟩
    rcases Nat.eq_or_lt_of_le h1 with e | e
    ·subst e; exact .inl ⟨k', Nat.zero_le _, h2, h4⟩
    ·exact .inr ⟨i', k', by omega, h2, h3, h4⟩
end
theorem meet_ev (l : List WI) (t : Int) (hl : SzOk l) : ∃ b K, (∀ k, K ≤ k → spec_MeetAt.f k l t = some b ∧ impl_MeetAt.f k l t = some b) ∧ (b = true ↔ Meets l t) := by
 by_cases h : Lev l t
 ·obtain ⟨g1, g2, g3, g4, g5⟩ := h
  obtain ⟨q1, q2⟩ := len0_le l (by omega) hl
  have hx : ∀ x ∈ l, t + 1 < (x.f0.length : Int) := fun x hx => by rw [g5 x hx]; omega
  obtain ⟨b, K, h1, hP⟩ := specMeet_l0 l t g2 g3 (by omega) hx l.length 0 (by omega)
  obtain ⟨b1, K1, h2, hP1⟩ := implMeets_ev l t g2 g3 (fun x hm => by have := hx x hm; omega)
  obtain ⟨b2, K2, h3, hP2⟩ := implMeets_ev l (t + 1) g2 (by omega) hx
  have hM : b = true ↔ Mt l t ∨ Mt l (t + 1) := by
   rw [hP]; unfold Mt
   constructor
   ·rintro ⟨i, k, _, h1, h2, h3 | h3⟩
    ·exact .inl ⟨i, k, h1, h2, h3⟩
    ·exact .inr ⟨i, k, h1, h2, h3⟩
   ·rintro (⟨i, k, h1, h2, h3⟩ | ⟨i, k, h1, h2, h3⟩)
    ·exact ⟨i, k, Nat.zero_le _, h1, h2, .inl h3⟩
    ·exact ⟨i, k, Nat.zero_le _, h1, h2, .inr h3⟩
  have hlev : Lev l t := ⟨g1, g2, g3, g4, g5⟩
  refine ⟨b, K + K1 + K2 + l.length + 2, fun k hk => ⟨?_, ?_⟩, ?_⟩
  ·unfold spec_MeetAt.f
   rw [specLevel_ev l t hl k (by omega), Option.bind_some, decide_eq_true hlev, if_pos rfl]
   exact h1 k (by omega)
  ·unfold impl_MeetAt.f
   rw [implLevel_eq l t hl, Option.bind_some, decide_eq_true hlev, if_pos rfl, h2 k (by omega), Option.bind_some]
   cases b1 with
   | true => rw [if_pos rfl, hM.mpr (.inl (hP1.mp rfl))]
   | false =>
    rw [if_neg (by decide), w64 (by omega) (by omega), h3 k (by omega), Option.bind_some]
    congr 1
    cases b2 with
    | true => rw [hM.mpr (.inr (hP2.mp rfl))]
    | false =>
     cases b with
     | false => rfl
     | true =>
      rcases hM.mp rfl with h | h
      ·exact absurd (hP1.mpr h) (by decide)
      ·exact absurd (hP2.mpr h) (by decide)
  ·rw [hM]; unfold Meets
   exact ⟨fun h => ⟨hlev, h⟩, fun h => h.2⟩
 ·refine ⟨false, l.length + 2, fun k hk => ⟨?_, ?_⟩, ⟨fun h => (by cases h), fun h2 => absurd h2.1 h⟩⟩
  ·unfold spec_MeetAt.f
   rw [specLevel_ev l t hl k (by omega), Option.bind_some, decide_eq_false h, if_neg (by decide)]
  ·unfold impl_MeetAt.f
   rw [implLevel_eq l t hl, Option.bind_some, decide_eq_false h, if_neg (by decide)]
end Go.Proofs.Ytdebpmdbeogglaa.Pure
/- Rings and swaps: the next robot of each, and how long a ring is. -/
namespace Go.Proofs.Ytdebpmdbeogglaa.Pure
open Go.RowKit Go.Proofs.Ytdebpmdbeogglaa.Q Go.Proofs.YtdebpmdbeogglaaW.PrintWords Go.Proofs.YtdebpmdbeogglaaW.PrintLast
theorem swaps_l0 (l : List WI) (t : Int) (hc : Calm l t) (hl : SzOk l) : ∀ (d i : Nat) (c : Int), i + d = l.length → 0 ≤ c → c ≤ i → ∃ v K, (∀ k, K ≤ k → spec_l12Count.l0 k l t 2 2 c (i : Int) = some v ∧ impl_SwapsAt.l0 k (nextL l t) c (l.length : Int) (i : Int) = some (wrap64 (Int.tdiv v 2))) ∧ 0 ≤ v ∧ v ≤ 10
 | 0, i, c, hi, h0, h1 => by
  have h10 := hc.1.2.1
  refine ⟨c, 1, fun k hk => ?_, by omega, by omega⟩
  obtain ⟨k, rfl⟩ : ∃ m, k = m + 1 := ⟨k - 1, by omega⟩
  have e1 : ¬ (i : Int) < (l.length : Int) := by omega
  simp only [spec_l12Count.l0, impl_SwapsAt.l0, e1, reduceIte, and_self]
 | d + 1, i, c, hi, h0, h1 => by
  have h10 := hc.1.2.1
  obtain ⟨r, K1, hr, r0, r1⟩ := ring_ev l t hc.1 hc.2.1 hc.2.2 hl i (by omega)
  have e1 : (i : Int) < (l.length : Int) := by omega
  have e9 : wrap64 ((i : Int) + 1) = ((i + 1 : Nat) : Int) := by rw [w64 (by omega) (by omega)]; rfl
  have e8 : wrap64 (c + 1) = c + 1 := w64 (by omega) (by omega)
  by_cases c2 : r = 2
  ·obtain ⟨v, K, h, hv⟩ := swaps_l0 l t hc hl d (i + 1) (c + 1) (by omega) (by omega) (by omega)
   refine ⟨v, K1 + K + 1, fun k hk => ?_, hv⟩
   obtain ⟨k, rfl⟩ : ∃ m, k = m + 1 := ⟨k - 1, by omega⟩
   have hd : decide (2 ≤ r ∧ r ≤ 2) = true := decide_eq_true (by omega)
   simp only [spec_l12Count.l0, impl_SwapsAt.l0, e1, e8, e9, (hr k (by omega)).1, (hr k (by omega)).2, Option.bind_some, l01In_eq, hd, c2, reduceIte]
   simp only [c2] at hd
   simp only [hd, reduceIte]
   exact h k (by omega)
  ·obtain ⟨v, K, h, hv⟩ := swaps_l0 l t hc hl d (i + 1) c (by omega) (by omega) (by omega)
   refine ⟨v, K1 + K + 1, fun k hk => ?_, hv⟩
   obtain ⟨k, rfl⟩ : ∃ m, k = m + 1 := ⟨k - 1, by omega⟩
   have hd : decide (2 ≤ r ∧ r ≤ 2) = false := decide_eq_false (by omega)
   simp only [spec_l12Count.l0, impl_SwapsAt.l0, e1, e8, e9, (hr k (by omega)).1, (hr k (by omega)).2, Option.bind_some, l01In_eq, hd, c2, Bool.false_eq_true, reduceIte]
   exact h k (by omega)
theorem rings_l0 (l : List WI) (t : Int) (hc : Calm l t) (hl : SzOk l) : ∀ (d i : Nat) (c : Int), i + d = l.length → 0 ≤ c → c ≤ i → ∃ v K, (∀ k, K ≤ k → spec_l12Count.l0 k l t 3 10 c (i : Int) = some v ∧ impl_RingsAt.l0 k (nextL l t) c (l.length : Int) (i : Int) = some v) ∧ 0 ≤ v ∧ v ≤ 10
 | 0, i, c, hi, h0, h1 => by
  have h10 := hc.1.2.1
  refine ⟨c, 1, fun k hk => ?_, by omega, by omega⟩
  obtain ⟨k, rfl⟩ : ∃ m, k = m + 1 := ⟨k - 1, by omega⟩
  have e1 : ¬ (i : Int) < (l.length : Int) := by omega
  simp only [spec_l12Count.l0, impl_RingsAt.l0, e1, reduceIte, and_self]
 | d + 1, i, c, hi, h0, h1 => by
  have h10 := hc.1.2.1
  obtain ⟨r, K1, hr, r0, r1⟩ := ring_ev l t hc.1 hc.2.1 hc.2.2 hl i (by omega)
  have e1 : (i : Int) < (l.length : Int) := by omega
  have e9 : wrap64 ((i : Int) + 1) = ((i + 1 : Nat) : Int) := by rw [w64 (by omega) (by omega)]; rfl
  have e8 : wrap64 (c + 1) = c + 1 := w64 (by omega) (by omega)
  by_cases c2 : r > 2
  ·obtain ⟨v, K, h, hv⟩ := rings_l0 l t hc hl d (i + 1) (c + 1) (by omega) (by omega) (by omega)
   refine ⟨v, K1 + K + 1, fun k hk => ?_, hv⟩
   obtain ⟨k, rfl⟩ : ∃ m, k = m + 1 := ⟨k - 1, by omega⟩
   have hd : decide (3 ≤ r ∧ r ≤ 10) = true := decide_eq_true (by omega)
   simp only [spec_l12Count.l0, impl_RingsAt.l0, e1, e8, e9, (hr k (by omega)).1, (hr k (by omega)).2, Option.bind_some, l01In_eq, hd, c2, reduceIte]
   exact h k (by omega)
  ·obtain ⟨v, K, h, hv⟩ := rings_l0 l t hc hl d (i + 1) c (by omega) (by omega) (by omega)
   refine ⟨v, K1 + K + 1, fun k hk => ?_, hv⟩
   obtain ⟨k, rfl⟩ : ∃ m, k = m + 1 := ⟨k - 1, by omega⟩
   have hd : decide (3 ≤ r ∧ r ≤ 10) = false := decide_eq_false (by omega)
   simp only [spec_l12Count.l0, impl_RingsAt.l0, e1, e8, e9, (hr k (by omega)).1, (hr k (by omega)).2, Option.bind_some, l01In_eq, hd, c2, Bool.false_eq_true, reduceIte]
   exact h k (by omega)
theorem specCount_calm (l : List WI) (t a b : Int) (hc : Calm l t) (hl : SzOk l) (v : Int) (K : Nat) (h : ∀ k, K ≤ k → spec_l12Count.l0 k l t a b 0 0 = some v) : ∃ K', ∀ k, K' ≤ k → spec_l12Count.f k l t a b = some v := by
 obtain ⟨bb, K1, hm, hb⟩ := meet_ev l t hl
 have hbf : bb = false := by
  cases bb with
  | false => rfl
  | true => exact absurd (hb.mp rfl).2 (fun h => h.elim hc.2.1 hc.2.2)
 refine ⟨K + K1 + l.length + 3, fun k hk => ?_⟩
 obtain ⟨k, rfl⟩ : ∃ m, k = m + 1 := ⟨k - 1, by omega⟩
 unfold spec_l12Count.f
 rw [specLevel_ev l t hl (k + 1) (by omega), Option.bind_some, decide_eq_true hc.1, if_pos rfl, (hm (k + 1) (by omega)).1, Option.bind_some, hbf]
 simp only [spec_l12Count.j0, Bool.false_eq_true, reduceIte]
 exact h k (by omega)
theorem specCount_not (l : List WI) (t a b : Int) (hc : ¬ Calm l t) (hl : SzOk l) : ∃ K', ∀ k, K' ≤ k → spec_l12Count.f k l t a b = some 0 := by
 obtain ⟨bb, K1, hm, hb⟩ := meet_ev l t hl
 refine ⟨K1 + l.length + 3, fun k hk => ?_⟩
 obtain ⟨k, rfl⟩ : ∃ m, k = m + 1 := ⟨k - 1, by omega⟩
 unfold spec_l12Count.f
 rw [specLevel_ev l t hl (k + 1) (by omega), Option.bind_some]
 by_cases c1 : Lev l t
 ·have hbt : bb = true := hb.mpr ⟨c1, Classical.byContradiction fun h => hc ⟨c1, fun h1 => h (.inl h1), fun h1 => h (.inr h1)⟩⟩
  rw [decide_eq_true c1, if_pos rfl, (hm (k + 1) (by omega)).1, Option.bind_some, hbt]
  simp only [spec_l12Count.j0, reduceIte]
 ·rw [decide_eq_false c1, if_neg (by decide)]
  simp only [spec_l12Count.j0, reduceIte]
theorem swaps_evR (l : List WI) (t : Int) (hl : SzOk l) : ∃ v K, (∀ k, K ≤ k → spec_SwapsAt.f k l t = some v ∧ impl_SwapsAt.f k l t = some v) ∧ 0 ≤ v ∧ v ≤ 5 := by
 by_cases hc : Calm l t
 ·obtain ⟨v, K, h, hv0, hv1⟩ := swaps_l0 l t hc hl l.length 0 0 (by omega) (by omega) (by omega)
  obtain ⟨K1, h1⟩ := specCount_calm l t 2 2 hc hl v K (fun k hk => (h k hk).1)
  obtain ⟨K2, h2⟩ := (implNext_ev l t hl).1 hc
  have ht : Int.tdiv v 2 = v / 2 := Int.tdiv_eq_ediv_of_nonneg hv0
  refine ⟨wrap64 (Int.tdiv v 2), K + K1 + K2 + 1, fun k hk => ⟨?_, ?_⟩, by rw [ht, w64 (by omega) (by omega)]; omega, by rw [ht, w64 (by omega) (by omega)]; omega⟩
  ·unfold spec_SwapsAt.f
   rw [h1 k (by omega)]; rfl
  ·unfold impl_SwapsAt.f
   rw [h2 k (by omega), Option.bind_some, nextL_length]
   exact (h k (by omega)).2
 ·obtain ⟨K1, h1⟩ := specCount_not l t 2 2 hc hl
  obtain ⟨K2, h2⟩ := (implNext_ev l t hl).2 hc
  refine ⟨0, K1 + K2 + 1, fun k hk => ⟨?_, ?_⟩, by omega, by omega⟩
  ·unfold spec_SwapsAt.f
   rw [h1 k (by omega)]; simp [wrap64]
  ·obtain ⟨k, rfl⟩ : ∃ m, k = m + 1 := ⟨k - 1, by omega⟩
   unfold impl_SwapsAt.f
   rw [h2 (k + 1) (by omega), Option.bind_some]
   simp [impl_SwapsAt.l0, wrap64]
theorem rings_evR (l : List WI) (t : Int) (hl : SzOk l) : ∃ v K, (∀ k, K ≤ k → spec_RingsAt.f k l t = some v ∧ impl_RingsAt.f k l t = some v) ∧ 0 ≤ v ∧ v ≤ 10 := by
 by_cases hc : Calm l t
 ·obtain ⟨v, K, h, hv0, hv1⟩ := rings_l0 l t hc hl l.length 0 0 (by omega) (by omega) (by omega)
  obtain ⟨K1, h1⟩ := specCount_calm l t 3 10 hc hl v K (fun k hk => (h k hk).1)
  obtain ⟨K2, h2⟩ := (implNext_ev l t hl).1 hc
  refine ⟨v, K + K1 + K2 + 1, fun k hk => ⟨?_, ?_⟩, hv0, hv1⟩
  ·unfold spec_RingsAt.f
   rw [h1 k (by omega)]; rfl
  ·unfold impl_RingsAt.f
   rw [h2 k (by omega), Option.bind_some, nextL_length]
   exact (h k (by omega)).2
 ·obtain ⟨K1, h1⟩ := specCount_not l t 3 10 hc hl
  obtain ⟨K2, h2⟩ := (implNext_ev l t hl).2 hc
  refine ⟨0, K1 + K2 + 1, fun k hk => ⟨?_, ?_⟩, by omega, by omega⟩
  ·unfold spec_RingsAt.f
   rw [h1 k (by omega)]; rfl
  ·obtain ⟨k, rfl⟩ : ∃ m, k = m + 1 := ⟨k - 1, by omega⟩
   unfold impl_RingsAt.f
   rw [h2 (k + 1) (by omega), Option.bind_some]
   simp [impl_RingsAt.l0]
end Go.Proofs.Ytdebpmdbeogglaa.Pure
/- Plain facts about sorting: a sorted list without its neighbours' doubles is the one strictly ascending list of the same numbers. -/
namespace Go.Proofs.Ytdebpmdbeogglaa.Pure
open Go.Lib
abbrev Asc (l : List Int) : Prop := l.Pairwise (· < ·)
theorem asc_unique : ∀ (a b : List Int), Asc a → Asc b → (∀ x, x ∈ a ↔ x ∈ b) → a = b
 | [], [], _, _, _ => rfl
 | [], y :: ys, _, _, h => absurd ((h y).mpr List.mem_cons_self) (by simp)
 | x :: xs, [], _, _, h => absurd ((h x).mp List.mem_cons_self) (by simp)
 | x :: xs, y :: ys, ha, hb, h => by
  obtain ⟨ha1, ha2⟩ := List.pairwise_cons.mp ha
  obtain ⟨hb1, hb2⟩ := List.pairwise_cons.mp hb
  have hxy : x = y := by
   rcases List.mem_cons.mp ((h x).mp List.mem_cons_self) with e | e
   ·exact e
   ·rcases List.mem_cons.mp ((h y).mpr List.mem_cons_self) with e2 | e2
    ·exact e2.symm
    ·have := ha1 y e2; have := hb1 x e; omega
  subst hxy
  congr 1
  refine asc_unique xs ys ha2 hb2 fun z => ?_
  constructor
  ·intro hz
   rcases List.mem_cons.mp ((h z).mp (List.mem_cons_of_mem _ hz)) with e | e
   ·have := ha1 z hz; omega
   ·exact e
  ·intro hz
   rcases List.mem_cons.mp ((h z).mpr (List.mem_cons_of_mem _ hz)) with e | e
   ·have := hb1 z hz; omega
   ·exact e
theorem compactUpTo_asc (d : Array Int) (hs : ∀ i j, i < j → j < d.size → d[i]! ≤ d[j]!) : ∀ m, m ≤ d.size → Asc (compactUpTo d m) ∧ (∀ x, x ∈ compactUpTo d m ↔ ∃ j, j < m ∧ d[j]! = x)
 | 0, _ => ⟨by simp [compactUpTo], fun x => by simp [compactUpTo]⟩
 | m + 1, hm => by
  obtain ⟨h1, h2⟩ := compactUpTo_asc d hs m (by omega)
  rw [compactUpTo_succ]
  by_cases hk : keeps d m = true
  ·rw [if_pos hk]
   constructor
   ·refine List.pairwise_append.mpr ⟨h1, List.pairwise_singleton _ _, fun x hx y hy => ?_⟩
    obtain rfl := List.mem_singleton.mp hy
    obtain ⟨j, hj, rfl⟩ := (h2 x).mp hx
    have hk' : m = 0 ∨ d[m]! ≠ d[m - 1]! := by simpa [keeps] using hk
    rcases hk' with e | e
    ·omega
    ·have e1 := hs (m - 1) m (by omega) (by omega)
     rcases Nat.eq_or_lt_of_le (show j ≤ m - 1 by omega) with e2 | e2
     ·subst e2; omega
     ·have := hs j (m - 1) e2 (by omega); omega
   ·intro x
    rw [List.mem_append, h2, List.mem_singleton]
    constructor
    ·rintro (⟨j, hj, e⟩ | e)
     ·exact ⟨j, by omega, e⟩
     ·exact ⟨m, by omega, e.symm⟩
    ·rintro ⟨j, hj, e⟩
     by_cases c : j = m
     ·subst c; exact .inr e.symm
     ·exact .inl ⟨j, by omega, e⟩
  ·rw [if_neg hk, List.append_nil]
   refine ⟨h1, fun x => ?_⟩
   rw [h2]
   have hk' : ¬ (m = 0 ∨ d[m]! ≠ d[m - 1]!) := by simpa [keeps] using hk
   have hm0 : m ≠ 0 := fun e => hk' (.inl e)
   have he : d[m]! = d[m - 1]! := Decidable.not_not.mp (fun e => hk' (.inr e))
   constructor
   ·rintro ⟨j, hj, e⟩; exact ⟨j, by omega, e⟩
   ·rintro ⟨j, hj, e⟩
    by_cases c : j = m
    ·subst c; exact ⟨j - 1, by omega, by rw [← he]; exact e⟩
    ·exact ⟨j, by omega, e⟩
def asc (l : List Int) : List Int := Lib.compact (l.mergeSort fun x y => decide (x ≤ y))
theorem asc_spec (l : List Int) : Asc (asc l) ∧ ∀ x, x ∈ asc l ↔ x ∈ l := by
 have hp : (l.mergeSort fun x y => decide (x ≤ y)).Pairwise fun x y => decide (x ≤ y) = true :=
  List.pairwise_mergeSort (fun a b c h1 h2 => decide_eq_true (by have := of_decide_eq_true h1; have := of_decide_eq_true h2; omega)) (fun a b => by
   by_cases h : a ≤ b
   ·simp [h]
   ·simp; omega) l
 have hperm := List.mergeSort_perm l fun x y => decide (x ≤ y)
 unfold asc
 generalize (l.mergeSort fun x y => decide (x ≤ y)) = s at hp hperm
 have hs : ∀ i j, i < j → j < s.toArray.size → s.toArray[i]! ≤ s.toArray[j]! := by
  intro i j h1 h2
  have h2' : j < s.length := by simpa using h2
  have := List.pairwise_iff_getElem.mp hp i j (by omega) h2' h1
  rw [getElem!_pos s.toArray i (by simp; omega), getElem!_pos s.toArray j h2]
  simpa using this
 obtain ⟨h1, h2⟩ := compactUpTo_asc s.toArray hs s.length (by simp)
 refine ⟨h1, fun x => ?_⟩
 unfold Lib.compact
 rw [h2, ← hperm.mem_iff]
 constructor
 ·rintro ⟨j, hj, rfl⟩
  rw [getElem!_pos s.toArray j (by simpa using hj)]
  simp
 ·intro hx
  obtain ⟨j, hj, e⟩ := List.getElem_of_mem hx
  exact ⟨j, hj, by rw [getElem!_pos s.toArray j (by simpa using hj)]; simpa using e⟩
theorem asc_of (l m : List Int) (h : Asc m) (hm : ∀ x, x ∈ m ↔ x ∈ l) : asc l = m :=
 asc_unique _ _ (asc_spec l).1 h fun x => by rw [(asc_spec l).2, hm]
theorem nodup_sub_length : ∀ (a b : List Int), a.Nodup → (∀ x, x ∈ a → x ∈ b) → a.length ≤ b.length
 | [], _, _, _ => Nat.zero_le _
 | x :: xs, b, hn, h => by
  obtain ⟨h1, h2⟩ := List.nodup_cons.mp hn
  have hx : x ∈ b := h x List.mem_cons_self
  have := nodup_sub_length xs (b.erase x) h2 fun y hy => (List.mem_erase_of_ne (fun e => h1 (by rw [← e]; exact hy))).mpr (h y (List.mem_cons_of_mem _ hy))
  rw [List.length_erase_of_mem hx] at this
  have hb : 0 < b.length := List.length_pos_of_mem hx
  simp only [List.length_cons]
  omega
theorem asc_nodup {l : List Int} (h : Asc l) : l.Nodup := List.Pairwise.imp (fun hlt e => by omega) h
theorem asc_length (l : List Int) : (asc l).length ≤ l.length := nodup_sub_length _ _ (asc_nodup (asc_spec l).1) fun x hx => ((asc_spec l).2 x).mp hx
end Go.Proofs.Ytdebpmdbeogglaa.Pure
/- The reference's sorted lists: ascending, each number once. -/
namespace Go.Proofs.Ytdebpmdbeogglaa.Pure
open Go.RowKit Go.Proofs.Ytdebpmdbeogglaa.Q Go.Proofs.YtdebpmdbeogglaaW.PrintWords Go.Proofs.YtdebpmdbeogglaaW.PrintLast
def push (out : List Int) (x : Int) : List Int := if out.length = 0 then out ++ [x] else if rd out ((out.length - 1 : Nat) : Int) = x then out else out ++ [x]
theorem push_len (out : List Int) (x : Int) : (push out x).length ≤ out.length + 1 := by
 unfold push
 split
 ·simp
 ·split <;> simp
theorem asc_last (out : List Int) (h : Asc out) (h0 : out.length ≠ 0) : rd out ((out.length - 1 : Nat) : Int) ∈ out ∧ ∀ x ∈ out, x ≤ rd out ((out.length - 1 : Nat) : Int) := by
 have hl : out.length - 1 < out.length := by omega
 rw [rd_get out _ hl]
 refine ⟨List.getElem_mem hl, fun x hx => ?_⟩
 obtain ⟨i, hi, e⟩ := List.getElem_of_mem hx
 by_cases c : i = out.length - 1
 ·subst c; omega
 ·have := List.pairwise_iff_getElem.mp h i (out.length - 1) hi hl (by omega)
  omega
theorem push_spec (out : List Int) (y : Int) (h : Asc out) (hy : ∀ x ∈ out, x ≤ y) : Asc (push out y) ∧ ∀ x, x ∈ push out y ↔ x ∈ out ∨ x = y := by
 unfold push
 by_cases h0 : out.length = 0
 ·rw [if_pos h0, List.eq_nil_of_length_eq_zero h0]
  simp
 ·rw [if_neg h0]
  obtain ⟨h1, h2⟩ := asc_last out h h0
  by_cases e : rd out ((out.length - 1 : Nat) : Int) = y
  ·rw [if_pos e]
   exact ⟨h, fun x => ⟨.inl, fun hx => hx.elim id (fun e2 => by rw [e2, ← e]; exact h1)⟩⟩
  ·rw [if_neg e]
   refine ⟨List.pairwise_append.mpr ⟨h, List.pairwise_singleton _ _, fun x hx z hz => ?_⟩, fun x => by simp⟩
   obtain rfl := List.mem_singleton.mp hz
   have := h2 x hx
   have := hy _ h1
   omega
theorem j2_push (out : List Int) (x : Int) (hl : out.length < 17592186044416) (A B : Option (List Int)) : (if (out.length : Int) = 0 then (if out.length < 17592186044416 then A else (none)) else (if 0 ≤ (wrap64 ((out.length : Int) - 1)) then (if (wrap64 ((out.length : Int) - 1)) < (out.length : Int) then (if (rd out (wrap64 ((out.length : Int) - 1))) = x then B else (if out.length < 17592186044416 then A else (none))) else (none)) else (none))) = (if out.length = 0 then A else if rd out ((out.length - 1 : Nat) : Int) = x then B else A) := by
 by_cases h0 : out.length = 0
 ·rw [if_pos (by omega), if_pos hl, if_pos h0]
 ·have e : wrap64 ((out.length : Int) - 1) = ((out.length - 1 : Nat) : Int) := by rw [w64 (by omega) (by omega)]; omega
  rw [if_neg (by omega), e, if_pos (by omega), if_pos (by omega), if_pos hl, if_neg h0]
theorem push_ite (k : Nat) (a b out : List Int) (x i j : Int) : (if out.length = 0 then spec_l11Sorted.l0 k a b (out ++ [x]) i j else if rd out ((out.length - 1 : Nat) : Int) = x then spec_l11Sorted.l0 k a b out i j else spec_l11Sorted.l0 k a b (out ++ [x]) i j) = spec_l11Sorted.l0 k a b (push out x) i j := by
 unfold push
 by_cases h0 : out.length = 0
 ·rw [if_pos h0, if_pos h0]
 ·rw [if_neg h0, if_neg h0]
  by_cases h1 : rd out ((out.length - 1 : Nat) : Int) = x
  ·rw [if_pos h1, if_pos h1]
  ·rw [if_neg h1, if_neg h1]
theorem j2_true (k : Nat) (a b out : List Int) (i : Nat) (y : Int) (hi : (i : Int) < (a.length : Int)) (ho : out.length < 17592186044416) (hn : (i : Int) + 1 ≤ 9223372036854775807) : spec_l11Sorted.j2 (k + 1) a b out (i : Int) y true = spec_l11Sorted.l0 k a b (push out (rd a (i : Int))) ((i + 1 : Nat) : Int) y := by
 have e9 : wrap64 ((i : Int) + 1) = ((i + 1 : Nat) : Int) := by rw [w64 (by omega) (by omega)]; rfl
 have h0 : (0 : Int) ≤ i := by omega
 rw [spec_l11Sorted.j2, if_pos rfl, if_pos h0, if_pos hi, e9]
 exact (j2_push out (rd a (i : Int)) ho (spec_l11Sorted.l0 k a b (out ++ [rd a (i : Int)]) ((i + 1 : Nat) : Int) y) (spec_l11Sorted.l0 k a b out ((i + 1 : Nat) : Int) y)).trans (push_ite k a b out (rd a (i : Int)) ((i + 1 : Nat) : Int) y)
theorem j2_false (k : Nat) (a b out : List Int) (x : Int) (j : Nat) (hj : (j : Int) < (b.length : Int)) (ho : out.length < 17592186044416) (hn : (j : Int) + 1 ≤ 9223372036854775807) : spec_l11Sorted.j2 (k + 1) a b out x (j : Int) false = spec_l11Sorted.l0 k a b (push out (rd b (j : Int))) x ((j + 1 : Nat) : Int) := by
 have e9 : wrap64 ((j : Int) + 1) = ((j + 1 : Nat) : Int) := by rw [w64 (by omega) (by omega)]; rfl
 have h0 : (0 : Int) ≤ j := by omega
 rw [spec_l11Sorted.j2, if_neg (by decide), if_pos h0, if_pos hj, e9]
 exact (j2_push out (rd b (j : Int)) ho (spec_l11Sorted.l0 k a b (out ++ [rd b (j : Int)]) x ((j + 1 : Nat) : Int)) (spec_l11Sorted.l0 k a b out x ((j + 1 : Nat) : Int))).trans (push_ite k a b out (rd b (j : Int)) x ((j + 1 : Nat) : Int))
theorem step_a (k : Nat) (a b out : List Int) (i j : Nat) (hi : i < a.length) (hc : b.length ≤ j ∨ rd a (i : Int) ≤ rd b (j : Int)) (ho : out.length < 17592186044416) (hn : a.length ≤ 2000000) : spec_l11Sorted.l0 (k + 3) a b out (i : Int) (j : Int) = spec_l11Sorted.l0 k a b (push out (rd a (i : Int))) ((i + 1 : Nat) : Int) (j : Int) := by
 have h1 : (i : Int) < (a.length : Int) := by omega
 have h2 : (0 : Int) ≤ i := by omega
 have h3 : (0 : Int) ≤ j := by omega
 have hj := j2_true k a b out i (j : Int) h1 ho (by omega)
 rw [spec_l11Sorted.l0, if_pos h1, spec_l11Sorted.j1, if_pos rfl]
 by_cases cj : (j : Int) ≥ (b.length : Int)
 ·rw [if_pos cj]; exact hj
 ·have h4 : (j : Int) < (b.length : Int) := by omega
  have h5 : rd a (i : Int) ≤ rd b (j : Int) := hc.elim (fun h => absurd (show (j : Int) ≥ (b.length : Int) by omega) cj) id
  rw [if_neg cj, if_pos h1, if_pos h2, if_pos h3, if_pos h4, decide_eq_true h5]
  exact hj
theorem step_b (k : Nat) (a b out : List Int) (i j : Nat) (hj : j < b.length) (hc : i < a.length → ¬ rd a (i : Int) ≤ rd b (j : Int)) (ho : out.length < 17592186044416) (hn : b.length ≤ 2000000) : spec_l11Sorted.l0 (k + 3) a b out (i : Int) (j : Int) = spec_l11Sorted.l0 k a b (push out (rd b (j : Int))) (i : Int) ((j + 1 : Nat) : Int) := by
 have h1 : (j : Int) < (b.length : Int) := by omega
 have h2 : (0 : Int) ≤ i := by omega
 have h3 : (0 : Int) ≤ j := by omega
 have h4 : ¬ (j : Int) ≥ (b.length : Int) := by omega
 have hj2 := j2_false k a b out (i : Int) j h1 ho (by omega)
 have hj1 : spec_l11Sorted.j1 (k + 2) a b out (i : Int) (j : Int) true = spec_l11Sorted.l0 k a b (push out (rd b (j : Int))) (i : Int) ((j + 1 : Nat) : Int) := by
  rw [spec_l11Sorted.j1, if_pos rfl, if_neg h4]
  by_cases ci : (i : Int) < (a.length : Int)
  ·have h5 := hc (by omega)
   rw [if_pos ci, if_pos h2, if_pos h3, if_pos h1, decide_eq_false h5]
   exact hj2
  ·rw [if_neg ci]; exact hj2
 rw [spec_l11Sorted.l0]
 by_cases ci : (i : Int) < (a.length : Int)
 ·rw [if_pos ci]; exact hj1
 ·rw [if_neg ci, decide_eq_true h1]; exact hj1
theorem step_end (k : Nat) (a b out : List Int) (i j : Nat) (hi : a.length ≤ i) (hj : b.length ≤ j) : spec_l11Sorted.l0 (k + 2) a b out (i : Int) (j : Int) = some out := by
 have h1 : ¬ (i : Int) < (a.length : Int) := by omega
 have h2 : ¬ (j : Int) < (b.length : Int) := by omega
 rw [spec_l11Sorted.l0, if_neg h1, decide_eq_false h2, spec_l11Sorted.j1, if_neg (by decide)]
theorem merge_l0 (a b : List Int) (ha : Asc a) (hb : Asc b) (hn : a.length + b.length ≤ 2000000) : ∀ (d i j : Nat) (out : List Int), (a.length - i) + (b.length - j) = d → i ≤ a.length → j ≤ b.length → out.length ≤ i + j → Asc out → (∀ x ∈ out, (∀ y ∈ a.drop i, x ≤ y) ∧ (∀ y ∈ b.drop j, x ≤ y)) →
  ∃ v K, (∀ k, K ≤ k → spec_l11Sorted.l0 k a b out (i : Int) (j : Int) = some v) ∧ Asc v ∧ ∀ x, x ∈ v ↔ x ∈ out ∨ x ∈ a.drop i ∨ x ∈ b.drop j
 | 0, i, j, out, hd, hi, hj, ho, hA, hle => by
  refine ⟨out, 2, fun k hk => ?_, hA, fun x => ?_⟩
  ·obtain ⟨k, rfl⟩ : ∃ m, k = m + 2 := ⟨k - 2, by omega⟩
   exact step_end k a b out i j (by omega) (by omega)
  ·rw [List.drop_of_length_le (by omega), List.drop_of_length_le (by omega)]
   simp
 | d + 1, i, j, out, hd, hi, hj, ho, hA, hle => by
  by_cases hc : i < a.length ∧ (b.length ≤ j ∨ rd a (i : Int) ≤ rd b (j : Int))
  ·obtain ⟨hia, hcmp⟩ := hc
   have hda := drop_cons a i hia
   have hra := rd_get a i hia
   have hmin : ∀ x ∈ out, x ≤ a[i] := fun x hx => (hle x hx).1 _ (by rw [hda]; exact List.mem_cons_self)
   obtain ⟨hp1, hp2⟩ := push_spec out a[i] hA hmin
   have hpl := push_len out a[i]
   have hasc := List.pairwise_cons.mp (by rw [← hda]; exact List.Pairwise.sublist (List.drop_sublist i a) ha)
   obtain ⟨v, K, h, hv, hm⟩ := merge_l0 a b ha hb hn d (i + 1) j (push out a[i]) (by omega) (by omega) hj (by omega) hp1 (fun x hx => by
    rcases (hp2 x).mp hx with hx | rfl
    ·exact ⟨fun y hy => (hle x hx).1 y (by rw [hda]; exact List.mem_cons_of_mem _ hy), (hle x hx).2⟩
    ·refine ⟨fun y hy => Int.le_of_lt (hasc.1 y hy), fun y hy => ?_⟩
     rcases hcmp with hcmp | hcmp
     ·rw [List.drop_of_length_le hcmp] at hy; cases hy
     ·have hjb : j < b.length := by
       rcases Nat.lt_or_ge j b.length with h | h
       ·exact h
       ·rw [List.drop_of_length_le h] at hy; cases hy
      rw [hra, rd_get b j hjb] at hcmp
      rw [drop_cons b j hjb] at hy
      have hbs := List.pairwise_cons.mp (by rw [← drop_cons b j hjb]; exact List.Pairwise.sublist (List.drop_sublist j b) hb)
      rcases List.mem_cons.mp hy with rfl | hy
      ·exact hcmp
      ·have := hbs.1 y hy; omega)
   refine ⟨v, K + 3, fun k hk => ?_, hv, fun x => ?_⟩
   ·obtain ⟨k, rfl⟩ : ∃ m, k = m + 3 := ⟨k - 3, by omega⟩
    rw [step_a k a b out i j hia hcmp (by omega) (by omega), hra]
    exact h k (by omega)
   ·rw [hm, hp2, hda, List.mem_cons]
    constructor
    ·rintro ((h | h) | h | h)
     ·exact .inl h
     ·exact .inr (.inl (.inl h))
     ·exact .inr (.inl (.inr h))
     ·exact .inr (.inr h)
    ·rintro (h | (h | h) | h)
     ·exact .inl (.inl h)
     ·exact .inl (.inr h)
     ·exact .inr (.inl h)
     ·exact .inr (.inr h)
  ·have hjb : j < b.length := by
    rcases Nat.lt_or_ge j b.length with h | h
    ·exact h
    ·exact absurd ⟨by omega, .inl h⟩ hc
   have hdb := drop_cons b j hjb
   have hrb := rd_get b j hjb
   have hmin : ∀ x ∈ out, x ≤ b[j] := fun x hx => (hle x hx).2 _ (by rw [hdb]; exact List.mem_cons_self)
   obtain ⟨hp1, hp2⟩ := push_spec out b[j] hA hmin
   have hpl := push_len out b[j]
   have hasc := List.pairwise_cons.mp (by rw [← hdb]; exact List.Pairwise.sublist (List.drop_sublist j b) hb)
   obtain ⟨v, K, h, hv, hm⟩ := merge_l0 a b ha hb hn d i (j + 1) (push out b[j]) (by omega) hi (by omega) (by omega) hp1 (fun x hx => by
    rcases (hp2 x).mp hx with hx | rfl
    ·exact ⟨(hle x hx).1, fun y hy => (hle x hx).2 y (by rw [hdb]; exact List.mem_cons_of_mem _ hy)⟩
    ·refine ⟨fun y hy => ?_, fun y hy => Int.le_of_lt (hasc.1 y hy)⟩
     have hia : i < a.length := by
      rcases Nat.lt_or_ge i a.length with h | h
      ·exact h
      ·rw [List.drop_of_length_le h] at hy; cases hy
     have hcmp : ¬ rd a (i : Int) ≤ rd b (j : Int) := fun h => hc ⟨hia, .inr h⟩
     rw [hrb, rd_get a i hia] at hcmp
     rw [drop_cons a i hia] at hy
     have has := List.pairwise_cons.mp (by rw [← drop_cons a i hia]; exact List.Pairwise.sublist (List.drop_sublist i a) ha)
     rcases List.mem_cons.mp hy with rfl | hy
     ·omega
     ·have := has.1 y hy; omega)
   refine ⟨v, K + 3, fun k hk => ?_, hv, fun x => ?_⟩
   ·obtain ⟨k, rfl⟩ : ∃ m, k = m + 3 := ⟨k - 3, by omega⟩
    rw [step_b k a b out i j hjb (fun h h2 => hc ⟨h, .inr h2⟩) (by omega) (by omega), hrb]
    exact h k (by omega)
   ·rw [hm, hp2, hdb, List.mem_cons]
    constructor
    ·rintro ((h | h) | h | h)
     ·exact .inl h
     ·exact .inr (.inr (.inl h))
     ·exact .inr (.inl h)
     ·exact .inr (.inr (.inr h))
    ·rintro (h | h | h | h)
     ·exact .inl (.inl h)
     ·exact .inr (.inl h)
     ·exact .inl (.inr h)
     ·exact .inr (.inr h)
theorem sorted_ev : ∀ (n : Nat) (l : List Int), l.length ≤ n → l.length ≤ 1048576 → ∃ v K, (∀ k, K ≤ k → spec_l11Sorted.f k l = some v) ∧ Asc v ∧ ∀ x, x ∈ v ↔ x ∈ l
 | 0, l, h, _ => by
  obtain rfl := List.eq_nil_of_length_eq_zero (Nat.le_zero.mp h)
  refine ⟨[], 1, fun k hk => ?_, List.Pairwise.nil, fun x => Iff.rfl⟩
  obtain ⟨k, rfl⟩ : ∃ m, k = m + 1 := ⟨k - 1, by omega⟩
  simp only [spec_l11Sorted.f]
  rw [if_pos (by decide), Option.bind_some, if_pos (by decide)]
  rfl
 | n + 1, l, h, hl => by
  by_cases h2 : l.length < 2
  ·refine ⟨l, 1, fun k hk => ?_, ?_, fun x => Iff.rfl⟩
   ·obtain ⟨k, rfl⟩ : ∃ m, k = m + 1 := ⟨k - 1, by omega⟩
    simp only [spec_l11Sorted.f]
    rw [if_pos (by omega), Option.bind_some, if_pos (by simp; omega)]
    rfl
   ·match l, h2 with
    | [], _ => exact List.Pairwise.nil
    | [x], _ => exact List.pairwise_singleton _ _
  ·have e1 : wrap64 ((l.length : Int) / 2) = ((l.length / 2 : Nat) : Int) := by rw [w64 (by omega) (by omega)]; omega
   obtain ⟨a, K1, h1, ha, hma⟩ := sorted_ev n (l.take (l.length / 2)) (by simp; omega) (by simp; omega)
   obtain ⟨b, K2, h2', hb, hmb⟩ := sorted_ev n (l.drop (l.length / 2)) (by simp; omega) (by simp; omega)
   have hla := nodup_sub_length a _ (asc_nodup ha) (fun x hx => (hma x).mp hx)
   have hlb := nodup_sub_length b _ (asc_nodup hb) (fun x hx => (hmb x).mp hx)
   rw [List.length_take] at hla
   rw [List.length_drop] at hlb
   obtain ⟨v, K3, h3, hv, hm⟩ := merge_l0 a b ha hb (by omega) _ 0 0 [] rfl (Nat.zero_le _) (Nat.zero_le _) (Nat.zero_le _) List.Pairwise.nil (fun x hx => by cases hx)
   refine ⟨v, K1 + K2 + K3 + 1, fun k hk => ?_, hv, fun x => ?_⟩
   ·obtain ⟨k, rfl⟩ : ∃ m, k = m + 1 := ⟨k - 1, by omega⟩
    simp only [spec_l11Sorted.f]
    rw [if_neg (by omega), e1, if_pos (by omega), if_pos (by omega), Int.toNat_natCast, h1 k (by omega), Option.bind_some, h2' k (by omega), Option.bind_some]
    exact h3 k (by omega)
   ·rw [hm, List.drop_zero, List.drop_zero, hma, hmb]
    constructor
    ·rintro (hx | hx | hx)
     ·cases hx
     ·exact List.mem_of_mem_take hx
     ·exact List.mem_of_mem_drop hx
    ·intro hx
     rw [← List.take_append_drop (l.length / 2) l, List.mem_append] at hx
     exact .inr hx
theorem specSorted_ev (l : List Int) (hl : l.length ≤ 1048576) : ∃ K, ∀ k, K ≤ k → spec_l11Sorted.f k l = some (asc l) := by
 obtain ⟨v, K, h, h1, h2⟩ := sorted_ev l.length l (Nat.le_refl _) hl
 exact ⟨K, fun k hk => by rw [h k hk, asc_of l v h1 h2]⟩
end Go.Proofs.Ytdebpmdbeogglaa.Pure
/- The program's ordered lists: ascending, each number once. -/
namespace Go.Proofs.Ytdebpmdbeogglaa.Pure
open Go.RowKit Go.Proofs.Ytdebpmdbeogglaa.Q Go.Proofs.YtdebpmdbeogglaaW.PrintWords Go.Proofs.YtdebpmdbeogglaaW.PrintLast
theorem ascI_asc (l : List Int) : ascI l = asc l := rfl
theorem implOrdered_eq (l : List Int) (hl : l.length ≤ 1048576) : impl_ordered.f l = some (asc l) := by
 unfold impl_ordered.f
 rw [if_pos (by omega), ascI_asc]
end Go.Proofs.Ytdebpmdbeogglaa.Pure
/- The cells at which paths end: what the program and the reference answer. -/
namespace Go.Proofs.Ytdebpmdbeogglaa.Pure
open Go.RowKit Go.Proofs.Ytdebpmdbeogglaa.Q Go.Proofs.YtdebpmdbeogglaaW.PrintWords Go.Proofs.YtdebpmdbeogglaaW.PrintLast
def lasts : List WI → List Int
 | [] => []
 | x :: xs => if (x.f0.length : Int) > 0 then rd x.f0 ((x.f0.length - 1 : Nat) : Int) :: lasts xs else lasts xs
theorem lasts_len : ∀ l : List WI, (lasts l).length ≤ l.length
 | [] => Nat.le_refl _
 | x :: xs => by
  unfold lasts
  have := lasts_len xs
  split <;> simp <;> omega
theorem specEnds_l0 (l : List WI) (hl : SzOk l) : ∀ (d i : Nat) (acc : List Int), i + d = l.length → acc.length ≤ i → ∃ K, ∀ k, K ≤ k → spec_EndsOf.l0 k l acc (i : Int) = some (asc (acc ++ lasts (l.drop i))) ∧ impl_EndsOf.l0 k acc l (l.length : Int) (i : Int) = some (asc (acc ++ lasts (l.drop i)))
 | 0, i, acc, hi, ha => by
  have hn := SzOk_len hl
  obtain ⟨K, h⟩ := specSorted_ev acc (by omega)
  refine ⟨K + 1, fun k hk => ?_⟩
  obtain ⟨k, rfl⟩ : ∃ m, k = m + 1 := ⟨k - 1, by omega⟩
  have h1 : ¬ (i : Int) < (l.length : Int) := by omega
  rw [List.drop_of_length_le (by omega), lasts, List.append_nil, spec_EndsOf.l0, impl_EndsOf.l0, if_neg h1, if_neg h1, h k (by omega), implOrdered_eq acc (by omega)]
  exact ⟨rfl, rfl⟩
 | d + 1, i, acc, hi, ha => by
  have hn := SzOk_len hl
  have hlt : i < l.length := by omega
  have h1 : (i : Int) < (l.length : Int) := by omega
  have h2 : (0 : Int) ≤ i := by omega
  have e9 : wrap64 ((i : Int) + 1) = ((i + 1 : Nat) : Int) := by rw [w64 (by omega) (by omega)]; rfl
  have hw := SzOk_way hl (List.getElem_mem hlt)
  rw [drop_cons l i hlt, lasts]
  by_cases c : ((l[i]).f0.length : Int) > 0
  ·have e8 : wrap64 (((l[i]).f0.length : Int) - 1) = (((l[i]).f0.length - 1 : Nat) : Int) := by rw [w64 (by omega) (by omega)]; omega
   have h3 : (0 : Int) ≤ (((l[i]).f0.length - 1 : Nat) : Int) := by omega
   have h4 : (((l[i]).f0.length - 1 : Nat) : Int) < ((l[i]).f0.length : Int) := by omega
   have h5 : acc.length < 17592186044416 := by omega
   obtain ⟨K, h⟩ := specEnds_l0 l hl d (i + 1) (acc ++ [rd (l[i]).f0 (((l[i]).f0.length - 1 : Nat) : Int)]) (by omega) (by simp; omega)
   refine ⟨K + 1, fun k hk => ?_⟩
   obtain ⟨k, rfl⟩ : ∃ m, k = m + 1 := ⟨k - 1, by omega⟩
   obtain ⟨q1, q2⟩ := h k (by omega)
   rw [spec_EndsOf.l0, impl_EndsOf.l0, if_pos h1, if_pos h1, if_pos h2, if_pos h2, if_pos h1, rdWI_get l i hlt, if_pos c, if_pos c, if_pos c, e8, if_pos h3, if_pos h3, if_pos h4, if_pos h4, if_pos h5, if_pos h5, e9, q1, q2, List.append_assoc, List.singleton_append]
   exact ⟨rfl, rfl⟩
  ·obtain ⟨K, h⟩ := specEnds_l0 l hl d (i + 1) acc (by omega) (by omega)
   refine ⟨K + 1, fun k hk => ?_⟩
   obtain ⟨k, rfl⟩ : ∃ m, k = m + 1 := ⟨k - 1, by omega⟩
   obtain ⟨q1, q2⟩ := h k (by omega)
   rw [spec_EndsOf.l0, impl_EndsOf.l0, if_pos h1, if_pos h1, if_pos h2, if_pos h2, if_pos h1, rdWI_get l i hlt, if_neg c, if_neg c, if_neg c, e9, q1, q2]
   exact ⟨rfl, rfl⟩
def endsOf (l : List WI) : List Int := asc (lasts l)
theorem ends_ev (l : List WI) (hl : SzOk l) : ∃ K, ∀ k, K ≤ k → spec_EndsOf.f k l = some (endsOf l) ∧ impl_EndsOf.f k l = some (endsOf l) := by
 obtain ⟨K, h⟩ := specEnds_l0 l hl l.length 0 [] (by omega) (Nat.zero_le _)
 refine ⟨K, fun k hk => ?_⟩
 have := h k hk
 rw [List.nil_append, List.drop_zero, show ((0 : Nat) : Int) = 0 from rfl] at this
 exact this
end Go.Proofs.Ytdebpmdbeogglaa.Pure
/- How often ways move: what the program and the reference answer. -/
namespace Go.Proofs.Ytdebpmdbeogglaa.Pure
open Go.RowKit Go.Proofs.Ytdebpmdbeogglaa.Q Go.Proofs.YtdebpmdbeogglaaW.PrintWords Go.Proofs.YtdebpmdbeogglaaW.PrintLast
def mv (x : List Int) : Nat → Nat → Nat
 | 0, _ => 0
 | d + 1, j => (if rd x (j : Int) = rd x ((j : Int) - 1) then 0 else 1) + mv x d (j + 1)
theorem mv_le (x : List Int) : ∀ d j, mv x d j ≤ d
 | 0, _ => Nat.le_refl _
 | d + 1, j => by unfold mv; have := mv_le x d (j + 1); split <;> omega
theorem implMoves_l0 (x : List Int) (hx : x.length ≤ 1048576) : ∀ (d j k : Nat) (n : Int), 1 ≤ j → (j + d = x.length ∨ d = 0 ∧ x.length ≤ j) → 0 ≤ n → n + d ≤ 1048576 → d < k → impl_movesAfter.l0 k n (j : Int) x = some (n + mv x d j)
 | 0, j, k, n, hj, hd, h0, h1, hk => by
  obtain ⟨k, rfl⟩ : ∃ m, k = m + 1 := ⟨k - 1, by omega⟩
  simp only [impl_movesAfter.l0]
  rw [if_neg (by omega)]; simp [mv]
 | d + 1, j, k, n, hj, hd, h0, h1, hk => by
  obtain ⟨k, rfl⟩ : ∃ m, k = m + 1 := ⟨k - 1, by omega⟩
  simp only [impl_movesAfter.l0]
  rw [if_pos (by omega), if_pos (by omega), w64 (x := (j : Int) - 1) (by omega) (by omega), if_pos (by omega), if_pos (by omega), w64 (x := (j : Int) + 1) (by omega) (by omega), w64 (by omega) (by omega), show ((j : Int) + 1) = ((j + 1 : Nat) : Int) by omega]
  unfold mv
  by_cases c : rd x (j : Int) = rd x ((j : Int) - 1)
  ·rw [if_pos c, if_pos c, implMoves_l0 x hx d (j + 1) k n (by omega) (by omega) h0 (by omega) (by omega)]
   congr 1; omega
  ·rw [if_neg c, if_neg c, implMoves_l0 x hx d (j + 1) k (n + 1) (by omega) (by omega) (by omega) (by omega) (by omega)]
   congr 1; omega
theorem specMoves_l1 (l : List WI) (hl : SzOk l) (i : Nat) (hi : i < l.length) (v : Int) (K : Nat) : ∀ (d j : Nat) (n : Int), 1 ≤ j → (j + d = l[i].f0.length ∨ d = 0 ∧ l[i].f0.length ≤ j) → 0 ≤ n → n + d ≤ 1048576 →
  (∀ k, K ≤ k → spec_MovesOf.l0 k l (n + mv l[i].f0 d j) (wrap64 ((i : Int) + 1)) = some v) → ∀ k, K + d + 1 ≤ k → spec_MovesOf.l1 k l n (i : Int) (j : Int) = some v
 | 0, j, n, hj, hd, h0, h1, h, k, hk => by
  obtain ⟨k, rfl⟩ : ∃ m, k = m + 1 := ⟨k - 1, by omega⟩
  simp only [spec_MovesOf.l1]
  rw [if_pos (by omega), if_pos (by omega), rdWI_get l i hi, if_neg (by omega)]
  have := h k (by omega)
  simpa [mv] using this
 | d + 1, j, n, hj, hd, h0, h1, h, k, hk => by
  obtain ⟨k, rfl⟩ : ∃ m, k = m + 1 := ⟨k - 1, by omega⟩
  have hx := SzOk_way hl (List.getElem_mem (l := l) (n := i) hi)
  simp only [spec_MovesOf.l1]
  rw [if_pos (by omega), if_pos (by omega), rdWI_get l i hi, if_pos (by omega), if_pos (by omega), w64 (x := (j : Int) - 1) (by omega) (by omega), if_pos (by omega), if_pos (by omega), w64 (x := (j : Int) + 1) (by omega) (by omega), w64 (x := n + 1) (by omega) (by omega), show ((j : Int) + 1) = ((j + 1 : Nat) : Int) by omega]
  unfold mv at h
  by_cases c : rd l[i].f0 (j : Int) = rd l[i].f0 ((j : Int) - 1)
  ·rw [if_pos c]
   refine specMoves_l1 l hl i hi v K d (j + 1) n (by omega) (by omega) h0 (by omega) (fun k hk => ?_) k (by omega)
   rw [← h k hk, if_pos c]; congr 1; omega
  ·rw [if_neg c]
   refine specMoves_l1 l hl i hi v K d (j + 1) (n + 1) (by omega) (by omega) (by omega) (by omega) (fun k hk => ?_) k (by omega)
   rw [← h k hk, if_neg c]; congr 1; omega
theorem moves_l0 (l : List WI) (hl : SzOk l) : ∀ (d i : Nat) (n : Int), i + d = l.length → 0 ≤ n → n + tot (l.drop i) ≤ 1048576 → ∃ v K, ∀ k, K ≤ k → spec_MovesOf.l0 k l n (i : Int) = some v ∧ impl_MovesOf.l0 k n l (l.length : Int) (i : Int) = some v
 | 0, i, n, hi, h0, h1 => by
  refine ⟨n, 1, fun k hk => ?_⟩
  obtain ⟨k, rfl⟩ : ∃ m, k = m + 1 := ⟨k - 1, by omega⟩
  have e1 : ¬ (i : Int) < (l.length : Int) := by omega
  simp only [spec_MovesOf.l0, impl_MovesOf.l0, e1, reduceIte, and_self]
 | d + 1, i, n, hi, h0, h1 => by
  have hn := SzOk_len hl
  have hx := SzOk_way hl (List.getElem_mem (l := l) (n := i) (by omega))
  rw [tot_drop l i (by omega)] at h1
  obtain ⟨D, hD⟩ : ∃ D, 1 + D = l[i].f0.length ∨ D = 0 ∧ l[i].f0.length ≤ 1 := ⟨l[i].f0.length - 1, by omega⟩
  have hle := mv_le l[i].f0 D 1
  obtain ⟨v, K, h⟩ := moves_l0 l hl d (i + 1) (n + mv l[i].f0 D 1) (by omega) (by omega) (by omega)
  have e9 : wrap64 ((i : Int) + 1) = ((i + 1 : Nat) : Int) := by rw [w64 (by omega) (by omega)]; rfl
  refine ⟨v, K + D + 2, fun k hk => ?_⟩
  obtain ⟨k, rfl⟩ : ∃ m, k = m + 1 := ⟨k - 1, by omega⟩
  constructor
  ·simp only [spec_MovesOf.l0]
   rw [if_pos (by omega)]
   exact specMoves_l1 l hl i (by omega) v K D 1 n (by omega) hD h0 (by omega) (fun k hk => by rw [e9]; exact (h k hk).1) k (by omega)
  ·simp only [impl_MovesOf.l0, impl_movesAfter.f]
   rw [if_pos (by omega), if_pos (by omega), if_pos (by omega), rdWI_get l i (by omega)]
   have := implMoves_l0 l[i].f0 hx D 1 k 0 (by omega) hD (by omega) (by omega) (by omega)
   rw [show wrap64 (mx 0 0 + 1) = ((1 : Nat) : Int) by simp [mx, wrap64], this, Option.bind_some, Int.zero_add, w64 (x := n + _) (by omega) (by omega), e9]
   exact (h k (by omega)).2
theorem moves_ev (l : List WI) (hl : SzOk l) : ∃ v K, ∀ k, K ≤ k → spec_MovesOf.f k l = some v ∧ impl_MovesOf.f k l = some v := by
 obtain ⟨v, K, h⟩ := moves_l0 l hl l.length 0 0 (by omega) (by omega) (by unfold SzOk at hl; simp; omega)
 exact ⟨v, K, fun k hk => h k hk⟩
end Go.Proofs.Ytdebpmdbeogglaa.Pure
/- Grids: what the program and the reference call right, and a free cell. -/
namespace Go.Proofs.Ytdebpmdbeogglaa.Pure
open Go.RowKit Go.Proofs.Ytdebpmdbeogglaa.Q Go.Proofs.YtdebpmdbeogglaaW.PrintWords Go.Proofs.YtdebpmdbeogglaaW.PrintLast
def Kind (c : Int) : Prop := c = 46 ∨ c = 35 ∨ (97 ≤ c ∧ c ≤ 102) ∨ (65 ≤ c ∧ c ≤ 70)
theorem kind_eq (c : Int) : ∃ b, spec_l02Kind.f c = some b ∧ (b = true ↔ Kind c) := by
 unfold spec_l02Kind.f Kind
 by_cases h1 : c = 46
 ·exact ⟨true, by rw [if_pos h1], by simp [h1]⟩
 ·by_cases h2 : c = 35
  ·exact ⟨true, by rw [if_neg h1, if_pos h2], by simp [h2]⟩
  ·by_cases h3 : c ≥ 97
   ·by_cases h4 : c ≤ 102
    ·exact ⟨true, by rw [if_neg h1, if_neg h2, if_pos h3, if_pos h4], ⟨fun _ => by omega, fun _ => rfl⟩⟩
    ·refine ⟨decide (c ≤ 70), by rw [if_neg h1, if_neg h2, if_pos h3, if_neg h4, if_pos (by omega)], ⟨fun h => (by have := of_decide_eq_true h; omega), fun h => decide_eq_true (by omega)⟩⟩
   ·by_cases h5 : c ≥ 65
    ·exact ⟨decide (c ≤ 70), by rw [if_neg h1, if_neg h2, if_neg h3, if_pos h5], ⟨fun h => (by have := of_decide_eq_true h; omega), fun h => decide_eq_true (by omega)⟩⟩
    ·exact ⟨false, by rw [if_neg h1, if_neg h2, if_neg h3, if_neg h5], ⟨fun h => (by cases h), fun h => (by omega)⟩⟩
def Gok (a b : Int) (s : ByteArray) : Prop := 1 ≤ a ∧ a ≤ 8 ∧ 1 ≤ b ∧ b ≤ 8 ∧ (s.size : Int) = a * b ∧ ∀ i : Nat, i < s.size → Kind (bt s (i : Int))
theorem Gok_size {a b : Int} {s : ByteArray} (h : Gok a b s) : s.size ≤ 64 := by
 obtain ⟨h1, h2, h3, h4, h5, _⟩ := h
 have : a * b ≤ 8 * 8 := Int.mul_le_mul h2 h4 (by omega) (by omega)
 omega
theorem implKind_eq (c : Int) (b : Bool) (hb : b = true ↔ Kind c) (X : Option Bool) : (if c = 46 then X else (if c = 35 then X else (if c < 97 then (if c < 65 then (some false) else (if c > 70 then (some false) else X)) else (if c > 102 then (if c < 65 then (some false) else (if c > 70 then (some false) else X)) else X)))) = (if b = true then X else some false) := by
 unfold Kind at hb
 cases b with
 | true =>
  have h := hb.mp rfl
  rw [if_pos rfl]
  repeat' split
  all_goals first | rfl | (exfalso; omega)
 | false =>
  have h : ¬ (c = 46 ∨ c = 35 ∨ (97 ≤ c ∧ c ≤ 102) ∨ (65 ≤ c ∧ c ≤ 70)) := fun h => absurd (hb.mpr h) Bool.false_ne_true
  rw [if_neg Bool.false_ne_true]
  repeat' split
  all_goals first | rfl | (exfalso; omega)
theorem gridOk_l0 (a b : Int) (s : ByteArray) (hs : s.size ≤ 1048576) : ∀ (d i : Nat), i + d = s.size → ∃ g K, (∀ k, K ≤ k → spec_GridOk.l0 k (i : Int) a b s = some g ∧ impl_GridOk.l0 k (i : Int) a b s = some g) ∧ (g = true ↔ ∀ j : Nat, i ≤ j → j < s.size → Kind (bt s (j : Int)))
 | 0, i, hi => by
  refine ⟨true, 1, fun k hk => ?_, ⟨fun _ j h1 h2 => by omega, fun _ => rfl⟩⟩
  obtain ⟨k, rfl⟩ : ∃ m, k = m + 1 := ⟨k - 1, by omega⟩
  have e1 : ¬ (i : Int) < (s.size : Int) := by omega
  simp only [spec_GridOk.l0, impl_GridOk.l0, e1, reduceIte, and_self]
 | d + 1, i, hi => by
  obtain ⟨g, K, h, hg⟩ := gridOk_l0 a b s hs d (i + 1) (by omega)
  have e1 : (i : Int) < (s.size : Int) := by omega
  have e2 : (0 : Int) ≤ i := by omega
  have e9 : wrap64 ((i : Int) + 1) = ((i + 1 : Nat) : Int) := by rw [w64 (by omega) (by omega)]; rfl
  obtain ⟨q, hq, hqk⟩ := kind_eq (bt s (i : Int))
  have hstep : (∀ j : Nat, i ≤ j → j < s.size → Kind (bt s (j : Int))) ↔ Kind (bt s (i : Int)) ∧ ∀ j : Nat, i + 1 ≤ j → j < s.size → Kind (bt s (j : Int)) := by
   constructor
   ·exact fun h => ⟨h i (Nat.le_refl _) (by omega), fun j h1 h2 => h j (by omega) h2⟩
   ·rintro ⟨h0, h⟩ j h1 h2
    rcases Nat.eq_or_lt_of_le h1 with e | e
    ·subst e; exact h0
    ·exact h j e h2
  rw [hstep]
  cases q with
  | true =>
   refine ⟨g, K + 1, fun k hk => ?_, by rw [hg]; exact ⟨fun h => ⟨hqk.mp rfl, h⟩, fun h => h.2⟩⟩
   obtain ⟨k, rfl⟩ : ∃ m, k = m + 1 := ⟨k - 1, by omega⟩
   obtain ⟨q1, q2⟩ := h k (by omega)
   simp only [spec_GridOk.l0, impl_GridOk.l0]
   rw [if_pos e1, if_pos e2, if_pos e1, if_pos e2, hq, e9, implKind_eq _ true hqk]
   simp only [Option.bind_some, reduceIte]
   exact ⟨q1, q2⟩
  | false =>
   refine ⟨false, 1, fun k hk => ?_, ⟨fun h => (by cases h), fun h => absurd (hqk.mpr h.1) (by decide)⟩⟩
   obtain ⟨k, rfl⟩ : ∃ m, k = m + 1 := ⟨k - 1, by omega⟩
   simp only [spec_GridOk.l0, impl_GridOk.l0]
   rw [if_pos e1, if_pos e2, if_pos e1, if_pos e2, hq, e9, implKind_eq _ false hqk]
   simp only [Option.bind_some, Bool.false_eq_true, reduceIte, and_self]
theorem gridOk_ev (a b : Int) (s : ByteArray) (hs : s.size ≤ 1048576) : ∃ g K, (∀ k, K ≤ k → spec_GridOk.f k a b s = some g ∧ impl_GridOk.f k a b s = some g) ∧ (g = true ↔ Gok a b s) := by
 obtain ⟨g, K, h, hg⟩ := gridOk_l0 a b s hs s.size 0 (by omega)
 by_cases ha : 1 ≤ a ∧ a ≤ 8
 ·by_cases hb : 1 ≤ b ∧ b ≤ 8
  ·have hm : wrap64 (a * b) = a * b := by
    have h1 : a * b ≤ 8 * 8 := Int.mul_le_mul ha.2 hb.2 (by omega) (by omega)
    have h2 : 0 ≤ a * b := Int.mul_nonneg (by omega) (by omega)
    exact w64 (by omega) (by omega)
   have a1 : ¬ a < 1 := by omega
   have a2 : ¬ a > 8 := by omega
   have b1 : ¬ b < 1 := by omega
   have b2 : ¬ b > 8 := by omega
   by_cases hsz : (s.size : Int) = a * b
   ·have e : ((s.size : Int) != wrap64 (a * b)) = false := by rw [hm]; simp [hsz]
    refine ⟨g, K + 1, fun k hk => ?_, ?_⟩
    ·obtain ⟨k, rfl⟩ : ∃ m, k = m + 1 := ⟨k - 1, by omega⟩
     unfold spec_GridOk.f impl_GridOk.f
     simp only [l01In_eq, ha, hb, a1, a2, b1, b2, e, and_self, decide_true, Option.bind_some, reduceIte]
     simp only [spec_GridOk.j0, impl_GridOk.j0, Bool.false_eq_true, reduceIte]
     exact h k (by omega)
    ·rw [hg]
     exact ⟨fun h => ⟨ha.1, ha.2, hb.1, hb.2, hsz, fun i hi => h i (Nat.zero_le _) hi⟩, fun h j _ hj => h.2.2.2.2.2 j hj⟩
   ·have e : ((s.size : Int) != wrap64 (a * b)) = true := by rw [hm]; simp [hsz]
    refine ⟨false, 1, fun k hk => ?_, ⟨fun h => (by cases h), fun h => absurd h.2.2.2.2.1 hsz⟩⟩
    obtain ⟨k, rfl⟩ : ∃ m, k = m + 1 := ⟨k - 1, by omega⟩
    unfold spec_GridOk.f impl_GridOk.f
    simp only [l01In_eq, ha, hb, a1, a2, b1, b2, e, and_self, decide_true, Option.bind_some, reduceIte]
    simp only [spec_GridOk.j0, impl_GridOk.j0, reduceIte, and_self]
  ·refine ⟨false, 1, fun k hk => ?_, ⟨fun h => (by cases h), fun h => absurd ⟨h.2.2.1, h.2.2.2.1⟩ hb⟩⟩
   obtain ⟨k, rfl⟩ : ∃ m, k = m + 1 := ⟨k - 1, by omega⟩
   have a1 : ¬ a < 1 := by omega
   have a2 : ¬ a > 8 := by omega
   unfold spec_GridOk.f impl_GridOk.f
   simp only [l01In_eq, ha, hb, a1, a2, and_self, decide_true, decide_false, Option.bind_some, Bool.false_eq_true, reduceIte]
   by_cases b1 : b < 1
   ·simp only [b1, spec_GridOk.j0, impl_GridOk.j0, reduceIte, and_self]
   ·have b2 : b > 8 := by omega
    simp only [b1, b2, spec_GridOk.j0, impl_GridOk.j0, reduceIte, and_self]
 ·refine ⟨false, 1, fun k hk => ?_, ⟨fun h => (by cases h), fun h => absurd ⟨h.1, h.2.1⟩ ha⟩⟩
  obtain ⟨k, rfl⟩ : ∃ m, k = m + 1 := ⟨k - 1, by omega⟩
  unfold spec_GridOk.f impl_GridOk.f
  simp only [l01In_eq, ha, decide_false, Option.bind_some, Bool.false_eq_true, reduceIte]
  by_cases a1 : a < 1
  ·simp only [a1, spec_GridOk.j0, impl_GridOk.j0, reduceIte, and_self]
  ·have a2 : a > 8 := by omega
   simp only [a1, a2, spec_GridOk.j0, impl_GridOk.j0, reduceIte, and_self]
def Fr (s : ByteArray) (c : Int) : Prop := 0 ≤ c ∧ c < (s.size : Int) ∧ bt s c ≠ 35
instance (s : ByteArray) (c : Int) : Decidable (Fr s c) := by unfold Fr; exact inferInstance
theorem fr_nest (s : ByteArray) (c : Int) : (if c ≥ 0 then (if c < (s.size : Int) then (if 0 ≤ c then (some ((bt s c) != 35)) else (none)) else (some false)) else (some false)) = some (decide (Fr s c)) := by
 by_cases h1 : c ≥ 0
 ·by_cases h2 : c < (s.size : Int)
  ·rw [if_pos h1, if_pos h2, if_pos h1]
   by_cases h3 : bt s c = 35
   ·rw [decide_eq_false (fun h : Fr s c => h.2.2 h3), h3]; rfl
   ·rw [decide_eq_true (show Fr s c from ⟨h1, h2, h3⟩)]
    congr 1
    simpa using h3
  ·rw [if_pos h1, if_neg h2, decide_eq_false (fun h : Fr s c => h2 h.2.1)]
 ·rw [if_neg h1, decide_eq_false (fun h : Fr s c => h1 h.1)]
theorem isFree_eq (a b : Int) (s : ByteArray) (c : Int) : impl_isFree.f a b s c = some (decide (Fr s c)) := fr_nest s c
theorem specFreeAt_ev (a b : Int) (s : ByteArray) (hs : s.size ≤ 1048576) (c : Int) : ∃ g K, (∀ k, K ≤ k → spec_FreeAt.f k a b s c = some g) ∧ (g = true ↔ Gok a b s ∧ Fr s c) := by
 obtain ⟨g, K, h, hg⟩ := gridOk_ev a b s hs
 cases g with
 | false =>
  refine ⟨false, K, fun k hk => ?_, ⟨fun h => (by cases h), fun h2 => absurd (hg.mpr h2.1) (by decide)⟩⟩
  unfold spec_FreeAt.f
  rw [(h k hk).1]
  rfl
 | true =>
  refine ⟨decide (Fr s c), K, fun k hk => ?_, ⟨fun h => ⟨hg.mp rfl, of_decide_eq_true h⟩, fun h => decide_eq_true h.2⟩⟩
  unfold spec_FreeAt.f
  rw [(h k hk).1]
  simp only [Option.bind_some, reduceIte, isFree_eq]
  exact fr_nest s c
end Go.Proofs.Ytdebpmdbeogglaa.Pure
/- Grids and their free cells: what the program and the reference answer. -/
namespace Go.Proofs.Ytdebpmdbeogglaa.Pure
open Go.RowKit Go.Proofs.Ytdebpmdbeogglaa.Q Go.Proofs.YtdebpmdbeogglaaW.PrintWords Go.Proofs.YtdebpmdbeogglaaW.PrintLast
def fr (s : ByteArray) : Nat → Nat → List Int
 | 0, _ => []
 | d + 1, i => if Fr s (i : Int) then (i : Int) :: fr s d (i + 1) else fr s d (i + 1)
open Classical in
noncomputable def frees (a b : Int) (s : ByteArray) : List Int := if Gok a b s then fr s s.size 0 else []
theorem implFree_go (a b : Int) (s : ByteArray) (hg : Gok a b s) : ∀ (d i : Nat) (acc : List Int), i + d = s.size → acc.length ≤ i → impl_FreeCells.go a b s d i acc = some (acc ++ fr s d i)
 | 0, i, acc, hi, ha => by simp [impl_FreeCells.go, fr]
 | d + 1, i, acc, hi, ha => by
  have hsz := Gok_size hg
  have hk := hg.2.2.2.2.2 i (by omega)
  have hb : bt s (i : Int) = ((s[i]'(by omega)).toNat : Int) := by
   unfold bt
   rw [dif_pos (by rw [Int.toNat_natCast]; omega)]
   simp
  have hlt : (s[i]'(by omega)).toNat < 128 := by
   unfold Kind at hk
   rw [hb] at hk
   omega
  unfold impl_FreeCells.go fr
  rw [dif_pos (by omega), if_pos hlt, isFree_eq, Option.bind_some]
  by_cases c : Fr s (i : Int)
  ·rw [decide_eq_true c, if_pos rfl, if_pos (by omega), if_pos c, implFree_go a b s hg d (i + 1) _ (by omega) (by simp; omega)]
   simp
  ·rw [decide_eq_false c, if_neg (by decide), if_neg c, implFree_go a b s hg d (i + 1) _ (by omega) (by omega)]
theorem implFree_ev (a b : Int) (s : ByteArray) (hs : s.size ≤ 1048576) : ∃ K, ∀ k, K ≤ k → impl_FreeCells.f k a b s = some (frees a b s) := by
 obtain ⟨g, K, h, hg⟩ := gridOk_ev a b s hs
 refine ⟨K, fun k hk => ?_⟩
 unfold impl_FreeCells.f frees
 rw [(h k hk).2, Option.bind_some]
 cases g with
 | true =>
  have hG := hg.mp rfl
  rw [if_pos rfl, if_pos hG, implFree_go a b s hG s.size 0 [] (by omega) (by simp)]
  simp
 | false =>
  rw [if_neg (by decide), if_neg (fun h => absurd (hg.mpr h) (by decide))]
end Go.Proofs.Ytdebpmdbeogglaa.Pure
/- Starts and goals: what the program and the reference ask of them. -/
namespace Go.Proofs.Ytdebpmdbeogglaa.Pure
open Go.RowKit Go.Proofs.Ytdebpmdbeogglaa.Q Go.Proofs.YtdebpmdbeogglaaW.PrintWords Go.Proofs.YtdebpmdbeogglaaW.PrintLast
def AscFrom (l : List Int) (i : Nat) : Prop := ∀ j : Nat, i ≤ j → j < l.length → 0 < j → rd l ((j : Int) - 1) < rd l (j : Int)
def FrFrom (s : ByteArray) (l : List Int) (i : Nat) : Prop := ∀ j : Nat, i ≤ j → j < l.length → Fr s (rd l (j : Int))
theorem AscFrom_step (l : List Int) (i : Nat) (hi : i < l.length) : AscFrom l i ↔ (0 < i → rd l ((i : Int) - 1) < rd l (i : Int)) ∧ AscFrom l (i + 1) := by
 constructor
 ·exact fun h => ⟨h i (Nat.le_refl _) hi, fun j h1 => h j (by omega)⟩
 ·rintro ⟨h0, h⟩ j h1 h2 h3
  rcases Nat.eq_or_lt_of_le h1 with e | e
  ·subst e; exact h0 h3
  ·exact h j e h2 h3
theorem FrFrom_step (s : ByteArray) (l : List Int) (i : Nat) (hi : i < l.length) : FrFrom s l i ↔ Fr s (rd l (i : Int)) ∧ FrFrom s l (i + 1) := by
 constructor
 ·exact fun h => ⟨h i (Nat.le_refl _) hi, fun j h1 => h j (by omega)⟩
 ·rintro ⟨h0, h⟩ j h1 h2
  rcases Nat.eq_or_lt_of_le h1 with e | e
  ·subst e; exact h0
  ·exact h j e h2
theorem specCells_l0 (a b : Int) (s : ByteArray) (hs : s.size ≤ 1048576) (hG : Gok a b s) (l : List Int) (hl : l.length ≤ 1048576) : ∀ (d i : Nat), i + d = l.length → ∃ g K, (∀ k, K ≤ k → spec_l10Cells.l0 k l (i : Int) a b s = some g) ∧ (g = true ↔ FrFrom s l i ∧ AscFrom l i)
 | 0, i, hi => by
  refine ⟨true, 1, fun k hk => ?_, ⟨fun _ => ⟨fun j h1 h2 => by omega, fun j h1 h2 => by omega⟩, fun _ => rfl⟩⟩
  obtain ⟨k, rfl⟩ : ∃ m, k = m + 1 := ⟨k - 1, by omega⟩
  simp only [spec_l10Cells.l0]
  rw [if_neg (by omega)]
 | d + 1, i, hi => by
  obtain ⟨g, K, h, hg⟩ := specCells_l0 a b s hs hG l hl d (i + 1) (by omega)
  obtain ⟨q, K1, h1, hq⟩ := specFreeAt_ev a b s hs (rd l (i : Int))
  rw [FrFrom_step s l i (by omega), AscFrom_step l i (by omega)]
  have e9 : wrap64 ((i : Int) + 1) = ((i + 1 : Nat) : Int) := by rw [w64 (by omega) (by omega)]; rfl
  have e8 : wrap64 ((i : Int) - 1) = (i : Int) - 1 := w64 (by omega) (by omega)
  cases q with
  | false =>
   refine ⟨false, K1 + 1, fun k hk => ?_, ⟨fun h => (by cases h), fun h => absurd (hq.mpr ⟨hG, h.1.1⟩) (by decide)⟩⟩
   obtain ⟨k, rfl⟩ : ∃ m, k = m + 1 := ⟨k - 1, by omega⟩
   simp only [spec_l10Cells.l0]
   rw [if_pos (by omega), if_pos (by omega), h1 k (by omega), Option.bind_some, if_neg (by decide)]
  | true =>
   have hfr := (hq.mp rfl).2
   by_cases c : 0 < i
   ·by_cases c2 : rd l ((i : Int) - 1) ≥ rd l (i : Int)
    ·refine ⟨false, K1 + 1, fun k hk => ?_, ⟨fun h => (by cases h), fun h => absurd (h.2.1 c) (by omega)⟩⟩
     obtain ⟨k, rfl⟩ : ∃ m, k = m + 1 := ⟨k - 1, by omega⟩
     simp only [spec_l10Cells.l0]
     rw [if_pos (by omega), if_pos (by omega), h1 k (by omega), Option.bind_some, if_pos rfl, if_pos (by omega), e8, if_pos (by omega), if_pos (by omega), if_pos c2]
    ·refine ⟨g, K1 + K + 1, fun k hk => ?_, by rw [hg]; exact ⟨fun h => ⟨⟨hfr, h.1⟩, ⟨fun _ => by omega, h.2⟩⟩, fun h => ⟨h.1.2, h.2.2⟩⟩⟩
     obtain ⟨k, rfl⟩ : ∃ m, k = m + 1 := ⟨k - 1, by omega⟩
     simp only [spec_l10Cells.l0]
     rw [if_pos (by omega), if_pos (by omega), h1 k (by omega), Option.bind_some, if_pos rfl, if_pos (by omega), e8, if_pos (by omega), if_pos (by omega), if_neg c2, e9]
     exact h k (by omega)
   ·refine ⟨g, K1 + K + 1, fun k hk => ?_, by rw [hg]; exact ⟨fun h => ⟨⟨hfr, h.1⟩, ⟨fun h2 => absurd h2 c, h.2⟩⟩, fun h => ⟨h.1.2, h.2.2⟩⟩⟩
    obtain ⟨k, rfl⟩ : ∃ m, k = m + 1 := ⟨k - 1, by omega⟩
    simp only [spec_l10Cells.l0]
    rw [if_pos (by omega), if_pos (by omega), h1 k (by omega), Option.bind_some, if_pos rfl, if_neg (by omega), e9]
    exact h k (by omega)
theorem implAsc_l0 (l : List Int) (hl : l.length ≤ 1048576) : ∀ (d i : Nat), 1 ≤ i → (i + d = l.length ∨ (d = 0 ∧ l.length ≤ i)) → ∃ g K, (∀ k, K ≤ k → impl_isAscending.l0 k l (i : Int) = some g) ∧ (g = true ↔ AscFrom l i)
 | 0, i, h1, hi => by
  refine ⟨true, 1, fun k hk => ?_, ⟨fun _ j h1 h2 => by omega, fun _ => rfl⟩⟩
  obtain ⟨k, rfl⟩ : ∃ m, k = m + 1 := ⟨k - 1, by omega⟩
  simp only [impl_isAscending.l0]
  rw [if_neg (by omega)]
 | d + 1, i, h1, hi => by
  obtain ⟨g, K, h, hg⟩ := implAsc_l0 l hl d (i + 1) (by omega) (by omega)
  rw [AscFrom_step l i (by omega)]
  have e9 : wrap64 ((i : Int) + 1) = ((i + 1 : Nat) : Int) := by rw [w64 (by omega) (by omega)]; rfl
  have e8 : wrap64 ((i : Int) - 1) = (i : Int) - 1 := w64 (by omega) (by omega)
  by_cases c2 : rd l ((i : Int) - 1) ≥ rd l (i : Int)
  ·refine ⟨false, 1, fun k hk => ?_, ⟨fun h => (by cases h), fun h => absurd (h.1 (by omega)) (by omega)⟩⟩
   obtain ⟨k, rfl⟩ : ∃ m, k = m + 1 := ⟨k - 1, by omega⟩
   simp only [impl_isAscending.l0]
   rw [if_pos (by omega), e8, if_pos (by omega), if_pos (by omega), if_pos (by omega), if_pos c2]
  ·refine ⟨g, K + 1, fun k hk => ?_, by rw [hg]; exact ⟨fun h => ⟨fun _ => by omega, h⟩, fun h => h.2⟩⟩
   obtain ⟨k, rfl⟩ : ∃ m, k = m + 1 := ⟨k - 1, by omega⟩
   simp only [impl_isAscending.l0]
   rw [if_pos (by omega), e8, if_pos (by omega), if_pos (by omega), if_pos (by omega), if_neg c2, e9]
   exact h k (by omega)
theorem AscFrom_one (l : List Int) : AscFrom l 1 ↔ AscFrom l 0 := ⟨fun h j _ h2 h3 => h j (by omega) h2 h3, fun h j _ h2 h3 => h j (by omega) h2 h3⟩
theorem implAsc_ev (l : List Int) (hl : l.length ≤ 1048576) : ∃ g K, (∀ k, K ≤ k → impl_isAscending.f k l = some g) ∧ (g = true ↔ AscFrom l 0) := by
 obtain ⟨D, hD⟩ : ∃ D, 1 + D = l.length ∨ (D = 0 ∧ l.length ≤ 1) := ⟨l.length - 1, by omega⟩
 obtain ⟨g, K, h, hg⟩ := implAsc_l0 l hl D 1 (by omega) hD
 exact ⟨g, K, fun k hk => h k hk, by rw [hg, AscFrom_one]⟩
theorem FrFrom_all (s : ByteArray) (l : List Int) : FrFrom s l 0 ↔ ∀ x ∈ l, Fr s x := by
 constructor
 ·intro h x hx
  obtain ⟨i, hi, e⟩ := List.getElem_of_mem hx
  have := h i (Nat.zero_le _) hi
  rwa [rd_get l i hi, e] at this
 ·intro h j _ hj
  rw [rd_get l j hj]
  exact h _ (List.getElem_mem _)
theorem areFree_ev (a b : Int) (s : ByteArray) (hs : s.size ≤ 1048576) (l : List Int) : ∃ g K, (∀ k, K ≤ k → impl_areFree.f k a b s l = some g) ∧ (g = true ↔ Gok a b s ∧ FrFrom s l 0) := by
 obtain ⟨q, K, h, hq⟩ := gridOk_ev a b s hs
 cases q with
 | false =>
  refine ⟨false, K, fun k hk => ?_, ⟨fun h => (by cases h), fun h => absurd (hq.mpr h.1) (by decide)⟩⟩
  unfold impl_areFree.f
  rw [(h k hk).2, Option.bind_some, if_neg (by decide)]
 | true =>
  refine ⟨!(l.any (hof_areFree.p s)), K, fun k hk => ?_, ?_⟩
  ·unfold impl_areFree.f hof_areFree.f
   rw [(h k hk).2, Option.bind_some, if_pos rfl, Option.bind_some]
  ·rw [FrFrom_all, Bool.not_eq_true', List.any_eq_false]
   have hp : ∀ x, ¬ (hof_areFree.p s x = true) ↔ Fr s x := fun x => by
    unfold hof_areFree.p Fr
    simp
   exact ⟨fun h => ⟨hq.mp rfl, fun x hx => (hp x).mp (h x hx)⟩, fun h x hx => (hp x).mpr (h.2 x hx)⟩
end Go.Proofs.Ytdebpmdbeogglaa.Pure
/- What a grid weighs. -/
namespace Go.Proofs.Ytdebpmdbeogglaa.Pure
open Go.RowKit Go.Proofs.Ytdebpmdbeogglaa.Q Go.Proofs.YtdebpmdbeogglaaW.PrintWords Go.Proofs.YtdebpmdbeogglaaW.PrintLast
theorem szGrid_eq (a b : Int) (s : ByteArray) (hs : s.size ≤ maxLen) (m : Int) (hm0 : 0 ≤ m) (hm : m ≤ 1048576) : laws_szGrid.f a b s m = some (if (s.size : Int) ≤ m then m - (s.size : Int) else -1) := by
 unfold laws_szGrid.f
 unfold maxLen at hs
 rw [w64 (by omega) (by omega)]
 by_cases h : (s.size : Int) ≤ m
 ·rw [if_neg (by omega), if_pos h]
 ·rw [if_pos (by omega), if_neg h]
end Go.Proofs.Ytdebpmdbeogglaa.Pure
/- What is asked for: starts and goals. -/
namespace Go.Proofs.Ytdebpmdbeogglaa.Pure
open Go.RowKit Go.Proofs.Ytdebpmdbeogglaa.Q Go.Proofs.YtdebpmdbeogglaaW.PrintWords Go.Proofs.YtdebpmdbeogglaaW.PrintLast
def Asked (a b : Int) (s : ByteArray) (l m : List Int) : Prop := Gok a b s ∧ FrFrom s l 0 ∧ FrFrom s m 0 ∧ 1 ≤ l.length ∧ l.length ≤ 10 ∧ AscFrom l 0 ∧ AscFrom m 0 ∧ m.length ≤ l.length
theorem isAsked_ev (a b : Int) (s : ByteArray) (hs : s.size ≤ 1048576) (l m : List Int) (hl : l.length ≤ 1048576) (hm : m.length ≤ 1048576) : ∃ g K, (∀ k, K ≤ k → impl_isAsked.f k a b s l m = some g) ∧ (g = true ↔ Asked a b s l m) := by
 obtain ⟨g1, K1, h1, q1⟩ := areFree_ev a b s hs l
 obtain ⟨g2, K2, h2, q2⟩ := areFree_ev a b s hs m
 obtain ⟨g3, K3, h3, q3⟩ := implAsc_ev l hl
 obtain ⟨g4, K4, h4, q4⟩ := implAsc_ev m hm
 have hj : ∀ k, impl_isAsked.j0 (k + 1) l m true = some false := fun k => by simp only [impl_isAsked.j0, reduceIte]
 by_cases hA : Asked a b s l m
 ·obtain ⟨x1, x2, x3, x4, x5, x6, x7, x8⟩ := id hA
  obtain rfl := q1.mpr ⟨x1, x2⟩
  obtain rfl := q2.mpr ⟨x1, x3⟩
  obtain rfl := q3.mpr x6
  obtain rfl := q4.mpr x7
  refine ⟨true, K1 + K2 + K3 + K4 + 1, fun k hk => ?_, ⟨fun _ => hA, fun _ => rfl⟩⟩
  obtain ⟨k, rfl⟩ : ∃ m, k = m + 1 := ⟨k - 1, by omega⟩
  unfold impl_isAsked.f
  rw [h1 (k + 1) (by omega), Option.bind_some, if_pos rfl, h2 (k + 1) (by omega), Option.bind_some, if_pos rfl, if_neg (by omega), decide_eq_false (by omega)]
  simp only [impl_isAsked.j0, Bool.false_eq_true, reduceIte]
  rw [h3 k (by omega), Option.bind_some, if_pos rfl, h4 k (by omega), Option.bind_some, if_pos rfl, decide_eq_true (by omega)]
 ·refine ⟨false, K1 + K2 + K3 + K4 + 1, fun k hk => ?_, ⟨fun h => (by cases h), fun h => absurd h hA⟩⟩
  obtain ⟨k, rfl⟩ : ∃ m, k = m + 1 := ⟨k - 1, by omega⟩
  unfold impl_isAsked.f
  rw [h1 (k + 1) (by omega), Option.bind_some]
  cases g1 with
  | false => rw [if_neg (by decide), hj]
  | true =>
   rw [if_pos rfl, h2 (k + 1) (by omega), Option.bind_some]
   cases g2 with
   | false => rw [if_neg (by decide), hj]
   | true =>
    rw [if_pos rfl]
    by_cases c1 : (l.length : Int) < 1
    ·rw [if_pos c1, hj]
    ·rw [if_neg c1]
     by_cases c2 : (l.length : Int) > 10
     ·rw [decide_eq_true c2, hj]
     ·rw [decide_eq_false c2]
      simp only [impl_isAsked.j0, Bool.false_eq_true, reduceIte]
      rw [h3 k (by omega), Option.bind_some]
      cases g3 with
      | false => rw [if_neg (by decide)]
      | true =>
       rw [if_pos rfl, h4 k (by omega), Option.bind_some]
       cases g4 with
       | false => rw [if_neg (by decide)]
       | true =>
        rw [if_pos rfl, decide_eq_false]
        intro c3
        exact hA ⟨(q1.mp rfl).1, (q1.mp rfl).2, (q2.mp rfl).2, by omega, by omega, q3.mp rfl, q4.mp rfl, by omega⟩
end Go.Proofs.Ytdebpmdbeogglaa.Pure
/- The reference's free cells. -/
namespace Go.Proofs.Ytdebpmdbeogglaa.Pure
open Go.RowKit Go.Proofs.Ytdebpmdbeogglaa.Q Go.Proofs.YtdebpmdbeogglaaW.PrintWords Go.Proofs.YtdebpmdbeogglaaW.PrintLast
theorem specFree_l0 (a b : Int) (s : ByteArray) (hs : s.size ≤ 1048576) : ∀ (d i : Nat) (acc : List Int), i + d = min s.size 64 → acc.length ≤ i → ∃ v K, (∀ k, K ≤ k → spec_FreeCells.l0 k acc (i : Int) a b s = some v) ∧ (Gok a b s → v = acc ++ fr s d i) ∧ (¬ Gok a b s → v = acc)
 | 0, i, acc, hi, ha => by
  refine ⟨acc, 2, fun k hk => ?_, by simp [fr], fun _ => rfl⟩
  obtain ⟨k, rfl⟩ : ∃ m, k = m + 2 := ⟨k - 2, by omega⟩
  simp only [spec_FreeCells.l0]
  by_cases c : (i : Int) < (s.size : Int)
  ·rw [if_pos c, decide_eq_false (by omega)]
   simp only [spec_FreeCells.j1, Bool.false_eq_true, reduceIte]
  ·rw [if_neg c]
   simp only [spec_FreeCells.j1, Bool.false_eq_true, reduceIte]
 | d + 1, i, acc, hi, ha => by
  obtain ⟨g, K1, h1, hg⟩ := specFreeAt_ev a b s hs (i : Int)
  have e1 : (i : Int) < (s.size : Int) := by omega
  have e2 : decide ((i : Int) < 64) = true := decide_eq_true (by omega)
  have e9 : wrap64 ((i : Int) + 1) = ((i + 1 : Nat) : Int) := by rw [w64 (by omega) (by omega)]; rfl
  cases g with
  | true =>
   obtain ⟨v, K, h, hv, hw⟩ := specFree_l0 a b s hs d (i + 1) (acc ++ [(i : Int)]) (by omega) (by simp; omega)
   refine ⟨v, K + K1 + 2, fun k hk => ?_, fun hG => ?_, fun hG => absurd (hg.mp rfl).1 hG⟩
   ·obtain ⟨k, rfl⟩ : ∃ m, k = m + 2 := ⟨k - 2, by omega⟩
    simp only [spec_FreeCells.l0]
    rw [if_pos e1, e2]
    simp only [spec_FreeCells.j1, reduceIte]
    rw [h1 k (by omega), Option.bind_some, if_pos rfl, if_pos (by omega), e9]
    exact h k (by omega)
   ·rw [hv hG, fr, if_pos (hg.mp rfl).2]; simp
  | false =>
   obtain ⟨v, K, h, hv, hw⟩ := specFree_l0 a b s hs d (i + 1) acc (by omega) (by omega)
   refine ⟨v, K + K1 + 2, fun k hk => ?_, fun hG => ?_, hw⟩
   ·obtain ⟨k, rfl⟩ : ∃ m, k = m + 2 := ⟨k - 2, by omega⟩
    simp only [spec_FreeCells.l0]
    rw [if_pos e1, e2]
    simp only [spec_FreeCells.j1, reduceIte]
    rw [h1 k (by omega), Option.bind_some, if_neg (by decide), e9]
    exact h k (by omega)
   ·rw [hv hG, fr, if_neg (fun h => absurd (hg.mpr ⟨hG, h⟩) (by decide))]
theorem specFree_ev (a b : Int) (s : ByteArray) (hs : s.size ≤ 1048576) : ∃ K, ∀ k, K ≤ k → spec_FreeCells.f k a b s = some (frees a b s) := by
 obtain ⟨v, K, h, hv, hw⟩ := specFree_l0 a b s hs (min s.size 64) 0 [] (by omega) (by simp)
 refine ⟨K, fun k hk => ?_⟩
 unfold spec_FreeCells.f frees
 have := h k hk
 by_cases hG : Gok a b s
 ·rw [if_pos hG]
  have hsz := Gok_size hG
  rw [hv hG, show min s.size 64 = s.size by omega] at this
  simpa using this
 ·rw [if_neg hG]
  rw [hw hG] at this
  exact this
end Go.Proofs.Ytdebpmdbeogglaa.Pure
/- Starts and goals that may be asked: the program and the reference answer alike. -/
namespace Go.Proofs.Ytdebpmdbeogglaa.Pure
open Go.RowKit Go.Proofs.Ytdebpmdbeogglaa.Q Go.Proofs.YtdebpmdbeogglaaW.PrintWords Go.Proofs.YtdebpmdbeogglaaW.PrintLast
theorem askOk_ev2 (a b : Int) (s : ByteArray) (hs : s.size ≤ 1048576) (l m : List Int) (hl : l.length ≤ 1048576) (hm : m.length ≤ 1048576) (t : Int) : ∃ v K, (∀ k, K ≤ k → spec_AskOk.f k a b s l m t = some v ∧ impl_AskOk.f k a b s l m t = some v) ∧ (v = true → Asked a b s l m ∧ 0 ≤ t ∧ t ≤ 20) := by
 obtain ⟨g, K1, h1, q1⟩ := isAsked_ev a b s hs l m hl hm
 obtain ⟨g0, K0, h0, q0⟩ := gridOk_ev a b s hs
 obtain ⟨K2, h2⟩ := specFree_ev a b s hs
 obtain ⟨K3, h3⟩ := implFree_ev a b s hs
 have hj : ∀ k, spec_AskOk.j0 (k + 1) l m t true a b s = some false := fun k => by simp only [spec_AskOk.j0, reduceIte]
 have himpl : ∀ k, K1 + K3 ≤ k → impl_AskOk.f k a b s l m t = some (decide (g = true ∧ 0 ≤ t ∧ t ≤ 20 ∧ wrap64 (((frees a b s).length : Int) * wrap64 (t + 1)) ≤ 240)) := fun k hk => by
  unfold impl_AskOk.f
  rw [h1 k (by omega), Option.bind_some]
  cases g with
  | false => rw [if_neg (by decide), decide_eq_false (fun h => absurd h.1 (by decide))]
  | true =>
   rw [if_pos rfl]
   by_cases c1 : t ≥ 0
   ·by_cases c2 : t ≤ 20
    ·rw [if_pos c1, if_pos c2, h3 k (by omega), Option.bind_some]
     congr 1
     exact decide_eq_decide.mpr ⟨fun h => ⟨rfl, c1, c2, h⟩, fun h => h.2.2.2⟩
    ·rw [if_pos c1, if_neg c2, decide_eq_false (fun h => c2 h.2.2.1)]
   ·rw [if_neg c1, decide_eq_false (fun h => c1 h.2.1)]
 cases g0 with
 | false =>
  have hg : g = false := by
   cases g with
   | false => rfl
   | true => exact absurd (q0.mpr (q1.mp rfl).1) (by decide)
  refine ⟨false, K0 + K1 + K3 + 1, fun k hk => ⟨?_, ?_⟩, fun h => by cases h⟩
  ·obtain ⟨k, rfl⟩ : ∃ m, k = m + 1 := ⟨k - 1, by omega⟩
   unfold spec_AskOk.f
   rw [(h0 (k + 1) (by omega)).1, Option.bind_some, if_neg (by decide), hj]
  ·rw [himpl k (by omega), hg, decide_eq_false (fun h => absurd h.1 (by decide))]
 | true =>
  have hG := q0.mp rfl
  obtain ⟨c1, K4, h4, q4⟩ := specCells_l0 a b s hs hG l hl l.length 0 (by omega)
  obtain ⟨c2, K5, h5, q5⟩ := specCells_l0 a b s hs hG m hm m.length 0 (by omega)
  refine ⟨_, K0 + K1 + K2 + K3 + K4 + K5 + 1, fun k hk => ⟨?_, himpl k (by omega)⟩, fun h => ⟨q1.mp (of_decide_eq_true h).1, (of_decide_eq_true h).2.1, (of_decide_eq_true h).2.2.1⟩⟩
  obtain ⟨k, rfl⟩ : ∃ m, k = m + 1 := ⟨k - 1, by omega⟩
  unfold spec_AskOk.f
  rw [(h0 (k + 1) (by omega)).1, Option.bind_some, if_pos rfl, l01In_eq, Option.bind_some]
  by_cases d1 : 1 ≤ (l.length : Int) ∧ (l.length : Int) ≤ 10
  ·rw [decide_eq_true d1, if_pos rfl]
   by_cases d2 : (m.length : Int) > (l.length : Int)
   ·rw [if_pos d2, hj, decide_eq_false]
    rintro ⟨h, _⟩
    have := (q1.mp h).2.2.2.2.2.2.2
    omega
   ·rw [if_neg d2, l01In_eq, Option.bind_some]
    by_cases d3 : 0 ≤ t ∧ t ≤ 20
    ·rw [decide_eq_true d3]
     simp only [Bool.not_true, spec_AskOk.j0, Bool.false_eq_true, reduceIte, spec_l10Cells.f]
     have h4' := h4 k (by omega)
     have h5' := h5 k (by omega)
     rw [show ((0 : Nat) : Int) = 0 from rfl] at h4' h5'
     rw [h4', Option.bind_some]
     cases c1 with
     | false =>
      rw [if_neg (by decide), decide_eq_false]
      rintro ⟨h, _⟩
      exact absurd (q4.mpr ⟨(q1.mp h).2.1, (q1.mp h).2.2.2.2.2.1⟩) (by decide)
     | true =>
      rw [if_pos rfl, h5', Option.bind_some]
      cases c2 with
      | false =>
       rw [if_neg (by decide), decide_eq_false]
       rintro ⟨h, _⟩
       exact absurd (q5.mpr ⟨(q1.mp h).2.2.1, (q1.mp h).2.2.2.2.2.2.1⟩) (by decide)
      | true =>
       rw [if_pos rfl, h2 k (by omega), Option.bind_some]
       congr 1
       refine decide_eq_decide.mpr ⟨fun h => ⟨q1.mpr ⟨hG, (q4.mp rfl).1, (q5.mp rfl).1, by omega, by omega, (q4.mp rfl).2, (q5.mp rfl).2, by omega⟩, d3.1, d3.2, h⟩, fun h => h.2.2.2⟩
    ·rw [decide_eq_false d3]
     simp only [Bool.not_false]
     rw [hj, decide_eq_false]
     rintro ⟨_, x1, x2, _⟩
     exact d3 ⟨x1, x2⟩
  ·rw [decide_eq_false d1, if_neg (by decide), hj, decide_eq_false]
   rintro ⟨h, _⟩
   have x1 := (q1.mp h).2.2.2.1
   have x2 := (q1.mp h).2.2.2.2.1
   exact d1 ⟨by omega, by omega⟩
end Go.Proofs.Ytdebpmdbeogglaa.Pure
/- The cells around a cell: what the program's and the reference's lists hold. -/
namespace Go.Proofs.Ytdebpmdbeogglaa.Pure
open Go.RowKit Go.Proofs.Ytdebpmdbeogglaa.Q Go.Proofs.YtdebpmdbeogglaaW.PrintWords Go.Proofs.YtdebpmdbeogglaaW.PrintLast
def Adj (a : Int) (s : ByteArray) (c x : Int) : Prop := Fr s c ∧ Fr s x ∧ (x = c - a ∨ (x = c - 1 ∧ 0 < c % a) ∨ (x = c + 1 ∧ c % a < a - 1) ∨ x = c + a)
theorem Fr_lt {s : ByteArray} {c : Int} (h : Fr s c) : 0 ≤ c ∧ c < (s.size : Int) := ⟨h.1, h.2.1⟩
theorem around_j3 (a b : Int) (s : ByteArray) (c : Int) (l : List Int) (t : Bool) (hc : 0 ≤ c) (hc1 : c ≤ 64) (ha : 1 ≤ a) (ha1 : a ≤ 8) (hl : l.length ≤ 10) (k : Nat) :
  impl_around.j3 (k + 1) c l t a b s = some (l ++ (if t = true then [c + 1] else []) ++ (if Fr s (c + a) then [c + a] else [])) := by
 have e1 : wrap64 (c + 1) = c + 1 := w64 (by omega) (by omega)
 have e2 : wrap64 (c + a) = c + a := w64 (by omega) (by omega)
 cases t with
 | true =>
  simp only [impl_around.j3, if_pos, e1, e2, isFree_eq, Option.bind_some, if_pos (show l.length < 17592186044416 by omega)]
  by_cases h : Fr s (c + a)
  ·rw [decide_eq_true h, if_pos rfl, if_pos h, if_pos (by simp; omega)]
  ·rw [decide_eq_false h, if_neg h]; simp
 | false =>
  simp only [impl_around.j3, Bool.false_eq_true, if_false, e1, e2, isFree_eq, Option.bind_some]
  by_cases h : Fr s (c + a)
  ·rw [decide_eq_true h, if_pos rfl, if_pos h, if_pos (by omega)]; simp
  ·rw [decide_eq_false h, if_neg h]; simp
theorem around_j2 (a b : Int) (s : ByteArray) (c : Int) (l : List Int) (hc : 0 ≤ c) (hc1 : c ≤ 64) (ha : 1 ≤ a) (ha1 : a ≤ 8) (hl : l.length ≤ 10) (k : Nat) :
  impl_around.j2 (k + 2) c l a b s = some (l ++ (if c % a < a - 1 ∧ Fr s (c + 1) then [c + 1] else []) ++ (if Fr s (c + a) then [c + a] else [])) := by
 have e1 : wrap64 (c + 1) = c + 1 := w64 (by omega) (by omega)
 have e2 : wrap64 (a - 1) = a - 1 := w64 (by omega) (by omega)
 have e3 : Int.tmod c a = c % a := Int.tmod_eq_emod_of_nonneg hc
 rw [impl_around.j2, if_neg (by omega), e1, e2, e3]
 by_cases h : c % a < a - 1
 ·rw [if_pos h, isFree_eq, Option.bind_some, around_j3 a b s c l _ hc hc1 ha ha1 hl]
  simp [h]
 ·rw [if_neg h, around_j3 a b s c l _ hc hc1 ha ha1 hl]
  simp [h]
theorem around_j1 (a b : Int) (s : ByteArray) (c : Int) (l : List Int) (t : Bool) (hc : 0 ≤ c) (hc1 : c ≤ 64) (ha : 1 ≤ a) (ha1 : a ≤ 8) (hl : l.length ≤ 4) (k : Nat) :
  impl_around.j1 (k + 3) c l t a b s = some (l ++ (if t = true then [c - 1] else []) ++ (if c % a < a - 1 ∧ Fr s (c + 1) then [c + 1] else []) ++ (if Fr s (c + a) then [c + a] else [])) := by
 have e1 : wrap64 (c - 1) = c - 1 := w64 (by omega) (by omega)
 rw [impl_around.j1, e1]
 cases t with
 | true =>
  rw [if_pos rfl, if_pos (by omega), around_j2 a b s c _ hc hc1 ha ha1 (by simp; omega)]
  simp
 | false =>
  rw [if_neg (by decide), around_j2 a b s c _ hc hc1 ha ha1 (by omega)]
  simp
theorem around_j0 (a b : Int) (s : ByteArray) (c : Int) (l : List Int) (hc : 0 ≤ c) (hc1 : c ≤ 64) (ha : 1 ≤ a) (ha1 : a ≤ 8) (hl : l.length ≤ 4) (k : Nat) :
  impl_around.j0 (k + 4) c l a b s = some (l ++ (if 0 < c % a ∧ Fr s (c - 1) then [c - 1] else []) ++ (if c % a < a - 1 ∧ Fr s (c + 1) then [c + 1] else []) ++ (if Fr s (c + a) then [c + a] else [])) := by
 have e1 : wrap64 (c - 1) = c - 1 := w64 (by omega) (by omega)
 have e3 : Int.tmod c a = c % a := Int.tmod_eq_emod_of_nonneg hc
 rw [impl_around.j0, if_neg (by omega), e1, e3]
 by_cases h : c % a > 0
 ·rw [if_pos h, isFree_eq, Option.bind_some, around_j1 a b s c l _ hc hc1 ha ha1 hl]
  simp [h]
 ·rw [if_neg h, around_j1 a b s c l _ hc hc1 ha ha1 hl]
  simp [show ¬ 0 < c % a from h]
theorem mem_opt {x y : Int} (p : Prop) [Decidable p] : x ∈ (if p then [y] else []) ↔ p ∧ x = y := by
 by_cases h : p <;> simp [h]
theorem implAround_ev (a b : Int) (s : ByteArray) (hG : Gok a b s) (c : Int) (hc : Fr s c) : ∃ ns K, (∀ k, K ≤ k → impl_around.f k a b s c = some ns) ∧ (∀ x, x ∈ ns ↔ Adj a s c x) ∧ ns.length ≤ 4 := by
 have hs := Gok_size hG
 obtain ⟨a0, a1, b0, b1, hab, _⟩ := hG
 obtain ⟨c0, c1⟩ := Fr_lt hc
 have e1 : wrap64 (c - a) = c - a := w64 (by omega) (by omega)
 refine ⟨(if Fr s (c - a) then [c - a] else []) ++ (if 0 < c % a ∧ Fr s (c - 1) then [c - 1] else []) ++ (if c % a < a - 1 ∧ Fr s (c + 1) then [c + 1] else []) ++ (if Fr s (c + a) then [c + a] else []), 4, fun k hk => ?_, fun x => ?_, ?_⟩
 ·obtain ⟨k, rfl⟩ : ∃ m, k = m + 4 := ⟨k - 4, by omega⟩
  unfold impl_around.f
  rw [isFree_eq, Option.bind_some, decide_eq_true hc, if_pos rfl, e1, isFree_eq, Option.bind_some]
  by_cases h : Fr s (c - a)
  ·rw [decide_eq_true h, if_pos rfl, if_pos (by simp), around_j0 a b s c _ c0 (by omega) a0 a1 (by simp), if_pos h]; simp
  ·rw [decide_eq_false h, if_neg (by decide), around_j0 a b s c _ c0 (by omega) a0 a1 (by simp), if_neg h]
 ·simp only [List.mem_append, mem_opt]
  unfold Adj
  constructor
  ·rintro (((⟨h, rfl⟩ | ⟨⟨h1, h⟩, rfl⟩) | ⟨⟨h1, h⟩, rfl⟩) | ⟨h, rfl⟩)
   ·exact ⟨hc, h, .inl rfl⟩
   ·exact ⟨hc, h, .inr (.inl ⟨rfl, h1⟩)⟩
   ·exact ⟨hc, h, .inr (.inr (.inl ⟨rfl, h1⟩))⟩
   ·exact ⟨hc, h, .inr (.inr (.inr rfl))⟩
  ·rintro ⟨_, h, (rfl | ⟨rfl, h1⟩ | ⟨rfl, h1⟩ | rfl)⟩
   ·exact .inl (.inl (.inl ⟨h, rfl⟩))
   ·exact .inl (.inl (.inr ⟨⟨h1, h⟩, rfl⟩))
   ·exact .inl (.inr ⟨⟨h1, h⟩, rfl⟩)
   ·exact .inr ⟨h, rfl⟩
 ·by_cases h1 : Fr s (c - a) <;> by_cases h2 : 0 < c % a ∧ Fr s (c - 1) <;> by_cases h3 : c % a < a - 1 ∧ Fr s (c + 1) <;> by_cases h4 : Fr s (c + a) <;> simp [h1, h2, h3, h4]
theorem cellAt_ev (a b : Int) (s : ByteArray) (hG : Gok a b s) (x y : Int) (hx : -10 ≤ x ∧ x ≤ 100) (hy : -10 ≤ y ∧ y ≤ 100) : ∃ K, ∀ k, K ≤ k → spec_CellAt.f k a b s x y = some (if (0 ≤ x ∧ x ≤ a - 1) ∧ (0 ≤ y ∧ y ≤ b - 1) then y * a + x else -1) := by
 have hs := Gok_size hG
 obtain ⟨g0, K0, h0, q0⟩ := gridOk_ev a b s (by omega)
 obtain rfl := q0.mpr hG
 obtain ⟨a0, a1, b0, b1, hab, _⟩ := hG
 refine ⟨K0, fun k hk => ?_⟩
 unfold spec_CellAt.f
 rw [(h0 k hk).1, Option.bind_some, if_pos rfl, w64 (by omega) (by omega), w64 (by omega) (by omega), l01In_eq, Option.bind_some]
 by_cases h1 : 0 ≤ x ∧ x ≤ a - 1
 ·rw [decide_eq_true h1, if_pos rfl, l01In_eq, Option.bind_some]
  by_cases h2 : 0 ≤ y ∧ y ≤ b - 1
  ·have hp0 : 0 ≤ y * a := Int.mul_nonneg h2.1 (by omega)
   have hp1 : y * a ≤ 7 * 8 := Int.mul_le_mul (by omega) a1 (by omega) (by omega)
   rw [decide_eq_true h2, if_pos rfl, if_pos ⟨h1, h2⟩, w64 (x := y * a) (by omega) (by omega), w64 (by omega) (by omega)]
  ·rw [decide_eq_false h2, if_neg (by decide), if_neg (fun h => h2 h.2)]
 ·rw [decide_eq_false h1, if_neg (by decide), if_neg (fun h => h1 h.1)]
theorem around_l0 (a b : Int) (s : ByteArray) (hG : Gok a b s) (v : List Int) (hv : v.length = 4) : ∀ (d i : Nat) (acc : List Int), i + d = 4 → acc.length ≤ 10 - d → ∃ K, ∀ k, K ≤ k → spec_Around.l0 k acc v (i : Int) a b s = some (acc ++ (v.drop i).filter (fun x => decide (Fr s x)))
 | 0, i, acc, hi, _ => by
  refine ⟨1, fun k hk => ?_⟩
  obtain ⟨k, rfl⟩ : ∃ m, k = m + 1 := ⟨k - 1, by omega⟩
  rw [spec_Around.l0, if_neg (by omega), List.drop_of_length_le (by omega)]; simp
 | d + 1, i, acc, hi, hl => by
  have hs := Gok_size hG
  obtain ⟨g, K1, h1, q1⟩ := specFreeAt_ev a b s (by omega) (rd v (i : Int))
  have e : wrap64 ((i : Int) + 1) = ((i + 1 : Nat) : Int) := by rw [w64 (by omega) (by omega)]; rfl
  by_cases hf : Fr s (rd v (i : Int))
  ·obtain rfl := q1.mpr ⟨hG, hf⟩
   obtain ⟨K2, h2⟩ := around_l0 a b s hG v hv d (i + 1) (acc ++ [rd v (i : Int)]) (by omega) (by simp; omega)
   refine ⟨K1 + K2 + 1, fun k hk => ?_⟩
   obtain ⟨k, rfl⟩ : ∃ m, k = m + 1 := ⟨k - 1, by omega⟩
   rw [spec_Around.l0, if_pos (by omega), if_pos (by omega), if_pos (by omega), h1 k (by omega), Option.bind_some, if_pos rfl, if_pos (by omega), e, h2 k (by omega), drop_cons v i (by omega), List.filter_cons_of_pos (by rw [← rd_get v i (by omega)]; exact decide_eq_true hf), rd_get v i (by omega)]
   simp
  ·have hg : g = false := by
    cases g with
    | false => rfl
    | true => exact absurd (q1.mp rfl).2 hf
   subst hg
   obtain ⟨K2, h2⟩ := around_l0 a b s hG v hv d (i + 1) acc (by omega) (by omega)
   refine ⟨K1 + K2 + 1, fun k hk => ?_⟩
   obtain ⟨k, rfl⟩ : ∃ m, k = m + 1 := ⟨k - 1, by omega⟩
   rw [spec_Around.l0, if_pos (by omega), if_pos (by omega), if_pos (by omega), h1 k (by omega), Option.bind_some, if_neg (by decide), e, h2 k (by omega), drop_cons v i (by omega), List.filter_cons_of_neg (by rw [← rd_get v i (by omega)]; simpa using hf)]
theorem specAround_ev (a b : Int) (s : ByteArray) (hG : Gok a b s) (c : Int) (hc : Fr s c) : ∃ ns K, (∀ k, K ≤ k → spec_Around.f k a b s c = some ns) ∧ (∀ x, x ∈ ns ↔ Adj a s c x) ∧ ns.length ≤ 4 := by
 have hs := Gok_size hG
 obtain ⟨g0, K0, h0, q0⟩ := gridOk_ev a b s (by omega)
 obtain rfl := q0.mpr hG
 obtain ⟨g1, K1, h1, q1⟩ := specFreeAt_ev a b s (by omega) c
 obtain rfl := q1.mpr ⟨hG, hc⟩
 obtain ⟨a0, a1, b0, b1, hab, _⟩ := id hG
 obtain ⟨c0, c1⟩ := Fr_lt hc
 have m0 := Int.emod_nonneg c (show a ≠ 0 by omega)
 have m1 := Int.emod_lt_of_pos c (show 0 < a by omega)
 have y0 := Int.ediv_nonneg c0 (show 0 ≤ a by omega)
 have y1 : c / a < b := Int.ediv_lt_of_lt_mul (by omega) (by rw [Int.mul_comm]; omega)
 have hd : c / a * a + c % a = c := by rw [Int.mul_comm]; exact Int.mul_ediv_add_emod c a
 have e1 : Int.tmod c a = c % a := Int.tmod_eq_emod_of_nonneg c0
 have e2 : Int.tdiv c a = c / a := Int.tdiv_eq_ediv_of_nonneg c0
 have hsp : ∀ k, K0 ≤ k → spec_SpotOf.f k a b s c = some (c % a, c / a) := fun k hk => by
  unfold spec_SpotOf.f
  rw [(h0 k hk).1, Option.bind_some, if_pos rfl, if_neg (by omega), if_neg (by omega), if_neg (by omega), e1, e2, w64 (by omega) (by omega)]
 generalize hX : c % a = X at *
 generalize hY : c / a = Y at *
 have w1 : wrap64 (Y - 1) = Y - 1 := w64 (by omega) (by omega)
 have w2 : wrap64 (X - 1) = X - 1 := w64 (by omega) (by omega)
 have w3 : wrap64 (X + 1) = X + 1 := w64 (by omega) (by omega)
 have w4 : wrap64 (Y + 1) = Y + 1 := w64 (by omega) (by omega)
 obtain ⟨K2, h2⟩ := cellAt_ev a b s hG X (Y - 1) (by omega) (by omega)
 obtain ⟨K3, h3⟩ := cellAt_ev a b s hG (X - 1) Y (by omega) (by omega)
 obtain ⟨K4, h4⟩ := cellAt_ev a b s hG (X + 1) Y (by omega) (by omega)
 obtain ⟨K5, h5⟩ := cellAt_ev a b s hG X (Y + 1) (by omega) (by omega)
 generalize hv1 : (if (0 ≤ X ∧ X ≤ a - 1) ∧ (0 ≤ Y - 1 ∧ Y - 1 ≤ b - 1) then (Y - 1) * a + X else -1) = v1 at h2
 generalize hv2 : (if (0 ≤ X - 1 ∧ X - 1 ≤ a - 1) ∧ (0 ≤ Y ∧ Y ≤ b - 1) then Y * a + (X - 1) else -1) = v2 at h3
 generalize hv3 : (if (0 ≤ X + 1 ∧ X + 1 ≤ a - 1) ∧ (0 ≤ Y ∧ Y ≤ b - 1) then Y * a + (X + 1) else -1) = v3 at h4
 generalize hv4 : (if (0 ≤ X ∧ X ≤ a - 1) ∧ (0 ≤ Y + 1 ∧ Y + 1 ≤ b - 1) then (Y + 1) * a + X else -1) = v4 at h5
 obtain ⟨K6, h6⟩ := around_l0 a b s hG [v1, v2, v3, v4] rfl 4 0 [] rfl (by simp)
 refine ⟨[v1, v2, v3, v4].filter (fun x => decide (Fr s x)), K0 + K1 + K2 + K3 + K4 + K5 + K6, fun k hk => ?_, fun x => ?_, List.length_filter_le _ _⟩
 ·unfold spec_Around.f
  rw [Option.bind_some, h1 k (by omega), Option.bind_some, if_pos rfl, hsp k (by omega), Option.bind_some]
  simp only [w1, w2, w3, w4]
  rw [h2 k (by omega), Option.bind_some, h3 k (by omega), Option.bind_some, h4 k (by omega), Option.bind_some, h5 k (by omega), Option.bind_some]
  have := h6 k (by omega)
  rw [List.drop_zero, List.nil_append] at this
  exact this
 ·have hn1 : Fr s (-1) → False := fun h => by have := h.1; omega
  have u1 : Fr s x → (x = v1 ↔ x = c - a) := fun hx => by
   obtain ⟨x0, x1⟩ := Fr_lt hx
   rw [← hv1]
   by_cases hy : Y = 0
   ·have : Y * a = 0 := by rw [hy, Int.zero_mul]
    rw [if_neg (by omega)]
    constructor <;> intro h <;> omega
   ·rw [if_pos (by omega), Int.sub_mul, Int.one_mul]
    constructor <;> intro h <;> omega
  have u2 : Fr s x → (x = v2 ↔ (x = c - 1 ∧ 0 < X)) := fun hx => by
   obtain ⟨x0, x1⟩ := Fr_lt hx
   rw [← hv2]
   by_cases hy : X = 0
   ·rw [if_neg (by omega)]
    constructor <;> intro h <;> omega
   ·rw [if_pos (by omega)]
    constructor <;> intro h <;> omega
  have u3 : Fr s x → (x = v3 ↔ (x = c + 1 ∧ X < a - 1)) := fun hx => by
   obtain ⟨x0, x1⟩ := Fr_lt hx
   rw [← hv3]
   by_cases hy : X = a - 1
   ·rw [if_neg (by omega)]
    constructor <;> intro h <;> omega
   ·rw [if_pos (by omega)]
    constructor <;> intro h <;> omega
  have u4 : Fr s x → (x = v4 ↔ x = c + a) := fun hx => by
   obtain ⟨x0, x1⟩ := Fr_lt hx
   rw [← hv4]
   by_cases hy : Y = b - 1
   ·have : Y * a = a * b - a := by rw [hy, Int.sub_mul, Int.one_mul, Int.mul_comm]
    rw [if_neg (by omega)]
    constructor <;> intro h <;> omega
   ·rw [if_pos (by omega), Int.add_mul, Int.one_mul]
    constructor <;> intro h <;> omega
  rw [List.mem_filter]
  unfold Adj
  rw [hX]
  simp only [List.mem_cons, List.not_mem_nil, or_false, decide_eq_true_eq]
  constructor
  ·rintro ⟨h, hx⟩
   rw [u1 hx, u2 hx, u3 hx, u4 hx] at h
   exact ⟨hc, hx, h⟩
  ·rintro ⟨_, hx, h⟩
   rw [u1 hx, u2 hx, u3 hx, u4 hx]
   exact ⟨h, hx⟩
end Go.Proofs.Ytdebpmdbeogglaa.Pure
/- Plain facts about slices.Index over whole numbers. -/
namespace Go.Proofs.Ytdebpmdbeogglaa.Pure
open Go.RowKit Go.Proofs.Ytdebpmdbeogglaa.Q Go.Proofs.YtdebpmdbeogglaaW.PrintWords Go.Proofs.YtdebpmdbeogglaaW.PrintLast
def placeFrom (c : Int) : Int → List Int → Int
 | _, [] => -1
 | i, x :: xs => if c = x then i else placeFrom c (i + 1) xs
theorem placeFrom_mem (c : Int) : ∀ (i : Int) (l : List Int), 0 ≤ i → (placeFrom c i l ≥ 0 ↔ c ∈ l)
 | _, [], _ => by simp [placeFrom]
 | i, x :: xs, h => by
  unfold placeFrom
  by_cases e : c = x
  ·rw [if_pos e]; simp [e]; omega
  ·rw [if_neg e, placeFrom_mem c (i + 1) xs (by omega)]; simp [e]
theorem index_l0 (l : List Int) (c : Int) (hn : l.length ≤ 9223372036854775807) : ∀ (d i k : Nat), i + d = l.length → d < k → slices_Index_int_int.l0 k l c (l.length : Int) (i : Int) = some (placeFrom c i (l.drop i))
 | 0, i, k, hi, hk => by
  obtain ⟨k, rfl⟩ : ∃ m, k = m + 1 := ⟨k - 1, by omega⟩
  simp only [slices_Index_int_int.l0]
  rw [if_neg (by omega), List.drop_of_length_le (by omega)]
  rfl
 | d + 1, i, k, hi, hk => by
  obtain ⟨k, rfl⟩ : ∃ m, k = m + 1 := ⟨k - 1, by omega⟩
  simp only [slices_Index_int_int.l0]
  rw [if_pos (by omega), if_pos (by omega), if_pos (by omega), rd_get l i (by omega), drop_cons l i (by omega), placeFrom]
  by_cases e : c = l[i]'(by omega)
  ·rw [if_pos e, if_pos e]
  ·rw [if_neg e, if_neg e, w64 (by omega) (by omega), show ((i : Int) + 1) = ((i + 1 : Nat) : Int) by omega, index_l0 l c hn d (i + 1) k (by omega) (by omega)]
theorem index_eq (l : List Int) (c : Int) (hn : l.length ≤ 9223372036854775807) (k : Nat) (hk : l.length < k) : slices_Index_int_int.f k l c = some (placeFrom c 0 l) := by
 have := index_l0 l c hn l.length 0 k (by omega) hk
 simpa [slices_Index_int_int.f] using this
end Go.Proofs.Ytdebpmdbeogglaa.Pure
/- Plain facts about slices.Contains over whole numbers. -/
namespace Go.Proofs.Ytdebpmdbeogglaa.Pure
open Go.RowKit Go.Proofs.Ytdebpmdbeogglaa.Q Go.Proofs.YtdebpmdbeogglaaW.PrintWords Go.Proofs.YtdebpmdbeogglaaW.PrintLast
theorem contains_eq (l : List Int) (c : Int) (hn : l.length ≤ 9223372036854775807) (k : Nat) (hk : l.length < k) : slices_Contains_int_int.f k l c = some (decide (c ∈ l)) := by
 unfold slices_Contains_int_int.f
 rw [index_eq l c hn k hk, Option.bind_some]
 congr 1
 exact decide_eq_decide.mpr (placeFrom_mem c 0 l (by omega))
end Go.Proofs.Ytdebpmdbeogglaa.Pure
/- Whether a list holds a number: what the reference answers. -/
namespace Go.Proofs.Ytdebpmdbeogglaa.Pure
open Go.RowKit Go.Proofs.Ytdebpmdbeogglaa.Q Go.Proofs.YtdebpmdbeogglaaW.PrintWords Go.Proofs.YtdebpmdbeogglaaW.PrintLast
theorem has_l0 (l : List Int) (c : Int) (hn : l.length ≤ 9223372036854775807) : ∀ (d i k : Nat), i + d = l.length → d < k → spec_l03Has.l0 k l c (i : Int) = some (decide (c ∈ l.drop i))
 | 0, i, k, hi, hk => by
  obtain ⟨k, rfl⟩ : ∃ m, k = m + 1 := ⟨k - 1, by omega⟩
  simp only [spec_l03Has.l0]
  rw [if_neg (by omega), List.drop_of_length_le (by omega)]
  simp
 | d + 1, i, k, hi, hk => by
  obtain ⟨k, rfl⟩ : ∃ m, k = m + 1 := ⟨k - 1, by omega⟩
  simp only [spec_l03Has.l0]
  rw [if_pos (by omega), if_pos (by omega), rd_get l i (by omega), drop_cons l i (by omega)]
  by_cases e : l[i]'(by omega) = c
  ·rw [if_pos e, decide_eq_true (by simp [e])]
  ·rw [if_neg e, w64 (by omega) (by omega), show ((i : Int) + 1) = ((i + 1 : Nat) : Int) by omega, has_l0 l c hn d (i + 1) k (by omega) (by omega)]
   congr 1
   exact decide_eq_decide.mpr (by simp only [List.mem_cons, Ne.symm e, false_or])
theorem has_eq (l : List Int) (c : Int) (hn : l.length ≤ 9223372036854775807) (k : Nat) (hk : l.length < k) : spec_l03Has.f k l c = some (decide (c ∈ l)) := by
 have := has_l0 l c hn l.length 0 k (by omega) hk
 simpa [spec_l03Has.f] using this
end Go.Proofs.Ytdebpmdbeogglaa.Pure
/- Plans: what is wrong with them, as the program and the reference tell it. -/
namespace Go.Proofs.Ytdebpmdbeogglaa.Pure
open Go.RowKit Go.Proofs.Ytdebpmdbeogglaa.Q Go.Proofs.YtdebpmdbeogglaaW.PrintWords Go.Proofs.YtdebpmdbeogglaaW.PrintLast
theorem wn (i : Nat) (h : i ≤ 2000000) : wrap64 ((i : Int) + 1) = ((i + 1 : Nat) : Int) := by rw [w64 (by omega) (by omega)]; rfl
theorem form_l0 (st : List Int) (l : List WI) (hl : SzOk l) (he : l.length = st.length) (sp mv : Int) (h0 : 0 ≤ sp) (h20 : sp ≤ 20) : ∀ (d i : Nat), i + d = l.length → ∃ g K, (∀ k, K ≤ k → spec_l12Form.l0 k st (i : Int) sp mv l = some g ∧ impl_formFault.l0 k st l (l.length : Int) (i : Int) sp mv l = some (!g)) ∧ (g = true → ∀ x ∈ l.drop i, (x.f0.length : Int) = sp + 1)
 | 0, i, hi => by
  refine ⟨true, 1, fun k hk => ?_, fun _ x hx => ?_⟩
  ·obtain ⟨k, rfl⟩ : ∃ m, k = m + 1 := ⟨k - 1, by omega⟩
   rw [spec_l12Form.l0, impl_formFault.l0, if_neg (by omega), if_neg (by omega)]
   exact ⟨rfl, rfl⟩
  ·rw [List.drop_of_length_le (by omega)] at hx; cases hx
 | d + 1, i, hi => by
  have hil : i < l.length := by omega
  have h1 := SzOk_len hl
  have c1 : (i : Int) < (l.length : Int) := by omega
  have c2 : (0 : Int) ≤ (i : Int) := by omega
  have c3 : (i : Int) < (st.length : Int) := by omega
  have r1 := rdWI_get l i hil
  have w1 : wrap64 (sp + 1) = sp + 1 := w64 (by omega) (by omega)
  by_cases e1 : ((l[i]).f0.length : Int) = sp + 1
  ·have c4 : (0 : Int) < ((l[i]).f0.length : Int) := by omega
   by_cases e2 : rd (l[i]).f0 0 = rd st (i : Int)
   ·obtain ⟨g, K, h, hg⟩ := form_l0 st l hl he sp mv h0 h20 d (i + 1) (by omega)
    refine ⟨g, K + 1, fun k hk => ?_, fun hgt x hx => ?_⟩
    ·obtain ⟨k, rfl⟩ : ∃ m, k = m + 1 := ⟨k - 1, by omega⟩
     rw [spec_l12Form.l0, impl_formFault.l0, if_pos c3, if_pos c1, if_pos c2, if_pos c2, if_pos c1, if_pos c1, r1, w1, if_pos e1, if_pos e1, if_pos c4, if_pos c4, if_pos e2, if_pos c3, if_pos e2, wn i (by omega)]
     exact h k (by omega)
    ·rw [drop_cons l i hil] at hx
     rcases List.mem_cons.mp hx with e | e
     ·rw [e]; exact e1
     ·exact hg hgt x e
   ·refine ⟨false, 1, fun k hk => ?_, fun h => by cases h⟩
    obtain ⟨k, rfl⟩ : ∃ m, k = m + 1 := ⟨k - 1, by omega⟩
    rw [spec_l12Form.l0, impl_formFault.l0, if_pos c3, if_pos c1, if_pos c2, if_pos c2, if_pos c1, if_pos c1, r1, w1, if_pos e1, if_pos e1, if_pos c4, if_pos c4, if_neg e2, if_pos c3, if_neg e2]
    exact ⟨rfl, rfl⟩
  ·refine ⟨false, 1, fun k hk => ?_, fun h => by cases h⟩
   obtain ⟨k, rfl⟩ : ∃ m, k = m + 1 := ⟨k - 1, by omega⟩
   rw [spec_l12Form.l0, impl_formFault.l0, if_pos c3, if_pos c1, if_pos c2, if_pos c2, if_pos c1, if_pos c1, r1, w1, if_neg e1, if_neg e1]
   exact ⟨rfl, rfl⟩
theorem form_ev (st : List Int) (l : List WI) (hl : SzOk l) (sp mv : Int) (h0 : 0 ≤ sp) (h20 : sp ≤ 20) : ∃ g K, (∀ k, K ≤ k → spec_l12Form.f k st sp mv l = some g ∧ impl_formFault.f k st sp mv l = some (!g)) ∧ (g = true → l.length = st.length ∧ ∀ x ∈ l, (x.f0.length : Int) = sp + 1) := by
 by_cases e : l.length = st.length
 ·obtain ⟨g, K, h, hg⟩ := form_l0 st l hl e sp mv h0 h20 l.length 0 (by omega)
  refine ⟨g, K, fun k hk => ?_, fun h => ⟨e, hg h⟩⟩
  have c : (l.length : Int) = (st.length : Int) := by omega
  unfold spec_l12Form.f impl_formFault.f
  rw [if_pos c, if_pos c]
  exact h k hk
 ·refine ⟨false, 0, fun k hk => ?_, fun h => by cases h⟩
  have c : ¬ (l.length : Int) = (st.length : Int) := by omega
  unfold spec_l12Form.f impl_formFault.f
  rw [if_neg c, if_neg c]
  exact ⟨rfl, rfl⟩
theorem beside_ev (a b : Int) (s : ByteArray) (hG : Gok a b s) (x : Int) (hx : Fr s x) (c : Int) : ∃ (g : Bool) (ns : List Int) (K : Nat), ∀ k, K ≤ k → spec_Beside.f k a b s x c = some g ∧ impl_around.f k a b s x = some ns ∧ slices_Contains_int_int.f k ns c = some g := by
 obtain ⟨ns, K1, h1, m1, l1⟩ := implAround_ev a b s hG _ hx
 obtain ⟨ms, K2, h2, m2, l2⟩ := specAround_ev a b s hG _ hx
 refine ⟨decide (c ∈ ns), ns, K1 + K2 + 10, fun k hk => ⟨?_, h1 k (by omega), contains_eq ns c (by omega) k (by omega)⟩⟩
 unfold spec_Beside.f
 rw [h2 k (by omega), Option.bind_some, has_eq ms c (by omega) k (by omega), Option.bind_some]
 congr 1
 exact decide_eq_decide.mpr ((m2 c).trans (m1 c).symm)
section
variable (a b : Int) (s : ByteArray) (hs : s.size ≤ 1048576) (hG : Gok a b s) (l : List WI) (hl : SzOk l) (goals : List Int) (sp mv : Int) (V : Int)
include hs hG hl
theorem step_l1 (i : Nat) (hi : i < l.length) (hc : ∃ g K, ∀ k, K ≤ k → spec_PlanFault.l0 k goals ((i + 1 : Nat) : Int) a b s sp mv l = some (if g = true then 3 else V) ∧ impl_stepFault.l0 k l (l.length : Int) ((i + 1 : Nat) : Int) a b s = some g) :
  ∀ (d t : Nat), t + d = (l[i]).f0.length → (0 < t → Fr s (rd (l[i]).f0 ((t - 1 : Nat) : Int))) → ∃ g K, ∀ k, K ≤ k → spec_PlanFault.l1 k goals (i : Int) (l[i]).f0 (t : Int) a b s sp mv l = some (if g = true then 3 else V) ∧ impl_stepFault.l1 k l (l.length : Int) (i : Int) (l[i]).f0 ((l[i]).f0.length : Int) (t : Int) a b s (l[i]).f0 = some g
 | 0, t, ht, hp => by
  obtain ⟨g, K, h⟩ := hc
  have h1 := SzOk_len hl
  refine ⟨g, K + 1, fun k hk => ?_⟩
  obtain ⟨k, rfl⟩ : ∃ m, k = m + 1 := ⟨k - 1, by omega⟩
  have n1 : ¬ (t : Int) < ((l[i]).f0.length : Int) := by omega
  rw [spec_PlanFault.l1, impl_stepFault.l1, if_neg n1, if_neg n1, wn i (by omega)]
  exact h k (by omega)
 | d + 1, t, ht, hp => by
  have h2 := SzOk_way hl (List.getElem_mem hi)
  have htl : t < (l[i]).f0.length := by omega
  have c1 : (t : Int) < ((l[i]).f0.length : Int) := by omega
  have c2 : (0 : Int) ≤ (t : Int) := by omega
  obtain ⟨f, K1, h1, hf⟩ := specFreeAt_ev a b s hs (rd (l[i]).f0 (t : Int))
  by_cases cF : Fr s (rd (l[i]).f0 (t : Int))
  ·have : f = true := hf.mpr ⟨hG, cF⟩
   subst this
   obtain ⟨g, K, h⟩ := step_l1 i hi hc d (t + 1) (by omega) (fun _ => by rw [Nat.add_sub_cancel]; exact cF)
   by_cases c0 : (t : Int) > 0
   ·have w1 : wrap64 ((t : Int) - 1) = ((t - 1 : Nat) : Int) := by rw [w64 (by omega) (by omega)]; omega
    have c3 : (0 : Int) ≤ ((t - 1 : Nat) : Int) := by omega
    have c4 : ((t - 1 : Nat) : Int) < ((l[i]).f0.length : Int) := by omega
    by_cases c5 : rd (l[i]).f0 (t : Int) = rd (l[i]).f0 ((t - 1 : Nat) : Int)
    ·refine ⟨g, K + K1 + 1, fun k hk => ?_⟩
     obtain ⟨k, rfl⟩ : ∃ m, k = m + 1 := ⟨k - 1, by omega⟩
     rw [spec_PlanFault.l1, impl_stepFault.l1, if_pos c1, if_pos c1, if_pos c2, if_pos c2, if_pos c1, h1 k (by omega), isFree_eq, Option.bind_some, Option.bind_some, decide_eq_true cF, if_pos rfl, if_pos rfl, if_pos c0, if_pos c0, w1, if_pos c3, if_pos c3, if_pos c4, if_pos c4, if_pos c5, if_pos c5, wn t (by omega)]
     exact h k (by omega)
    ·obtain ⟨q, ns, K2, h3⟩ := beside_ev a b s hG (rd (l[i]).f0 ((t - 1 : Nat) : Int)) (hp (by omega)) (rd (l[i]).f0 (t : Int))
     cases q with
     | true =>
      refine ⟨g, K + K1 + K2 + 1, fun k hk => ?_⟩
      obtain ⟨k, rfl⟩ : ∃ m, k = m + 1 := ⟨k - 1, by omega⟩
      obtain ⟨q1, q2, q3⟩ := h3 k (by omega)
      rw [spec_PlanFault.l1, impl_stepFault.l1, if_pos c1, if_pos c1, if_pos c2, if_pos c2, if_pos c1, h1 k (by omega), isFree_eq, Option.bind_some, Option.bind_some, decide_eq_true cF, if_pos rfl, if_pos rfl, if_pos c0, if_pos c0, w1, if_pos c3, if_pos c3, if_pos c4, if_pos c4, if_neg c5, if_neg c5, q1, q2, Option.bind_some, Option.bind_some, q3, Option.bind_some, if_pos rfl, if_pos rfl, wn t (by omega)]
      exact h k (by omega)
     | false =>
      refine ⟨true, K + K1 + K2 + 1, fun k hk => ?_⟩
      obtain ⟨k, rfl⟩ : ∃ m, k = m + 1 := ⟨k - 1, by omega⟩
      obtain ⟨q1, q2, q3⟩ := h3 k (by omega)
      show _ = some (3 : Int) ∧ _ = some true
      rw [spec_PlanFault.l1, impl_stepFault.l1, if_pos c1, if_pos c1, if_pos c2, if_pos c2, if_pos c1, h1 k (by omega), isFree_eq, Option.bind_some, Option.bind_some, decide_eq_true cF, if_pos rfl, if_pos rfl, if_pos c0, if_pos c0, w1, if_pos c3, if_pos c3, if_pos c4, if_pos c4, if_neg c5, if_neg c5, q1, q2, Option.bind_some, Option.bind_some, q3, Option.bind_some, if_neg (by decide), if_neg (by decide)]
      exact ⟨rfl, rfl⟩
   ·refine ⟨g, K + K1 + 1, fun k hk => ?_⟩
    obtain ⟨k, rfl⟩ : ∃ m, k = m + 1 := ⟨k - 1, by omega⟩
    rw [spec_PlanFault.l1, impl_stepFault.l1, if_pos c1, if_pos c1, if_pos c2, if_pos c2, if_pos c1, h1 k (by omega), isFree_eq, Option.bind_some, Option.bind_some, decide_eq_true cF, if_pos rfl, if_pos rfl, if_neg c0, if_neg c0, wn t (by omega)]
    exact h k (by omega)
  ·have : f = false := by cases f with | false => rfl | true => exact absurd (hf.mp rfl).2 cF
   subst this
   refine ⟨true, K1 + 1, fun k hk => ?_⟩
   obtain ⟨k, rfl⟩ : ∃ m, k = m + 1 := ⟨k - 1, by omega⟩
   show _ = some (3 : Int) ∧ _ = some true
   rw [spec_PlanFault.l1, impl_stepFault.l1, if_pos c1, if_pos c1, if_pos c2, if_pos c2, if_pos c1, h1 k (by omega), isFree_eq, Option.bind_some, Option.bind_some, decide_eq_false cF, if_neg (by decide), if_neg (by decide)]
   exact ⟨rfl, rfl⟩
theorem step_l0 (hV : ∃ K, ∀ k, K ≤ k → spec_PlanFault.l2 k goals 4 sp mv l = some V) : ∀ (d i : Nat), i + d = l.length → ∃ g K, ∀ k, K ≤ k → spec_PlanFault.l0 k goals (i : Int) a b s sp mv l = some (if g = true then 3 else V) ∧ impl_stepFault.l0 k l (l.length : Int) (i : Int) a b s = some g
 | 0, i, hi => by
  obtain ⟨K, h⟩ := hV
  refine ⟨false, K + 1, fun k hk => ?_⟩
  obtain ⟨k, rfl⟩ : ∃ m, k = m + 1 := ⟨k - 1, by omega⟩
  show _ = some V ∧ _ = some false
  have n1 : ¬ (i : Int) < (l.length : Int) := by omega
  rw [spec_PlanFault.l0, impl_stepFault.l0, if_neg n1, if_neg n1]
  exact ⟨h k (by omega), rfl⟩
 | d + 1, i, hi => by
  have hil : i < l.length := by omega
  obtain ⟨g, K, h⟩ := step_l1 a b s hs hG l hl goals sp mv V i hil (step_l0 hV d (i + 1) (by omega)) (l[i]).f0.length 0 (by omega) (fun h => absurd h (by omega))
  have c1 : (i : Int) < (l.length : Int) := by omega
  have c2 : (0 : Int) ≤ (i : Int) := by omega
  have r1 := rdWI_get l i hil
  refine ⟨g, K + 1, fun k hk => ?_⟩
  obtain ⟨k, rfl⟩ : ∃ m, k = m + 1 := ⟨k - 1, by omega⟩
  rw [spec_PlanFault.l0, impl_stepFault.l0, if_pos c1, if_pos c1, if_pos c2, if_pos c2, if_pos c1, r1]
  exact h k (by omega)
end
theorem someMeet_l3 (goals : List Int) (l : List WI) (hl : SzOk l) (sp : Nat) (hsp : sp ≤ 20) (m1 mv V : Int) (hV : ∃ K, ∀ k, K ≤ k → spec_PlanFault.l2 k goals 5 (sp : Int) mv l = some V) : ∀ (d t : Nat), t + d = sp → ∃ g K, ∀ k, K ≤ k → spec_PlanFault.l3 k goals 4 (t : Int) (sp : Int) mv l = some (if g = true then 4 else V) ∧ someT (fun k t => hof_PlanFault1.p k l t) k (sp : Int) (t : Int) = some g
 | 0, t, ht => by
  obtain ⟨K, h⟩ := hV
  refine ⟨false, K + 1, fun k hk => ?_⟩
  obtain ⟨k, rfl⟩ : ∃ m, k = m + 1 := ⟨k - 1, by omega⟩
  show _ = some V ∧ _ = some false
  have n1 : ¬ (t : Int) < (sp : Int) := by omega
  rw [spec_PlanFault.l3, someT, if_neg n1, if_neg n1, show wrap64 ((4 : Int) + 1) = 5 from by rw [w64 (by decide) (by decide)]; rfl]
  exact ⟨h k (by omega), rfl⟩
 | d + 1, t, ht => by
  obtain ⟨g, K, h⟩ := someMeet_l3 goals l hl sp hsp m1 mv V hV d (t + 1) (by omega)
  have c1 : (t : Int) < (sp : Int) := by omega
  have hfe : ¬ ((false : Bool) = true) := by decide
  obtain ⟨q, K1, h1, _⟩ := meet_ev l (t : Int) hl
  have hp : ∀ k, K1 ≤ k → hof_PlanFault1.p k l (t : Int) = some q := fun k hk => (h1 k hk).2
  cases q with
  | true =>
   refine ⟨true, K + K1 + 1, fun k hk => ?_⟩
   obtain ⟨k, rfl⟩ : ∃ m, k = m + 1 := ⟨k - 1, by omega⟩
   show _ = some (4 : Int) ∧ _ = some true
   rw [spec_PlanFault.l3, someT, if_pos c1, if_pos c1, if_pos (by decide : (4 : Int) = 4), (h1 k (by omega)).1, hp k (by omega), Option.bind_some, Option.bind_some, if_pos rfl, if_pos rfl]
   exact ⟨rfl, rfl⟩
  | false =>
   refine ⟨g, K + K1 + 1, fun k hk => ?_⟩
   obtain ⟨k, rfl⟩ : ∃ m, k = m + 1 := ⟨k - 1, by omega⟩
   rw [spec_PlanFault.l3, someT, if_pos c1, if_pos c1, if_pos (by decide : (4 : Int) = 4), (h1 k (by omega)).1, hp k (by omega), Option.bind_some, Option.bind_some, if_neg hfe, if_neg (by decide : ¬ (4 : Int) = 5), if_neg (by decide : ¬ (4 : Int) = 6), if_neg hfe, wn t (by omega)]
   exact h k (by omega)
theorem someSwaps_l3 (goals : List Int) (l : List WI) (hl : SzOk l) (sp : Nat) (hsp : sp ≤ 20) (m1 mv V : Int) (hV : ∃ K, ∀ k, K ≤ k → spec_PlanFault.l2 k goals 6 (sp : Int) mv l = some V) : ∀ (d t : Nat), t + d = sp → ∃ g K, ∀ k, K ≤ k → spec_PlanFault.l3 k goals 5 (t : Int) (sp : Int) mv l = some (if g = true then 5 else V) ∧ someT (fun k t => hof_PlanFault2.p k l t) k (sp : Int) (t : Int) = some g
 | 0, t, ht => by
  obtain ⟨K, h⟩ := hV
  refine ⟨false, K + 1, fun k hk => ?_⟩
  obtain ⟨k, rfl⟩ : ∃ m, k = m + 1 := ⟨k - 1, by omega⟩
  show _ = some V ∧ _ = some false
  have n1 : ¬ (t : Int) < (sp : Int) := by omega
  rw [spec_PlanFault.l3, someT, if_neg n1, if_neg n1, show wrap64 ((5 : Int) + 1) = 6 from by rw [w64 (by decide) (by decide)]; rfl]
  exact ⟨h k (by omega), rfl⟩
 | d + 1, t, ht => by
  obtain ⟨g, K, h⟩ := someSwaps_l3 goals l hl sp hsp m1 mv V hV d (t + 1) (by omega)
  have c1 : (t : Int) < (sp : Int) := by omega
  have hfe : ¬ ((false : Bool) = true) := by decide
  obtain ⟨q, K1, h1, q0, _⟩ := swaps_evR l (t : Int) hl
  have hp : ∀ k, K1 ≤ k → hof_PlanFault2.p k l (t : Int) = some (q != 0) := fun k hk => by unfold hof_PlanFault2.p; rw [(h1 k hk).2, Option.bind_some]
  by_cases c2 : q > 0
  ·have e : (q != 0) = true := by simp only [bne_iff_ne, ne_eq]; omega
   refine ⟨true, K + K1 + 1, fun k hk => ?_⟩
   obtain ⟨k, rfl⟩ : ∃ m, k = m + 1 := ⟨k - 1, by omega⟩
   show _ = some (5 : Int) ∧ _ = some true
   rw [spec_PlanFault.l3, someT, if_pos c1, if_pos c1, if_neg (by decide : ¬ (5 : Int) = 4), if_pos (by decide : (5 : Int) = 5), (h1 k (by omega)).1, hp k (by omega), Option.bind_some, Option.bind_some, if_pos c2, e, if_pos rfl]
   exact ⟨rfl, rfl⟩
  ·have e : (q != 0) = false := by simp only [bne_eq_false_iff_eq]; omega
   refine ⟨g, K + K1 + 1, fun k hk => ?_⟩
   obtain ⟨k, rfl⟩ : ∃ m, k = m + 1 := ⟨k - 1, by omega⟩
   rw [spec_PlanFault.l3, someT, if_pos c1, if_pos c1, if_neg (by decide : ¬ (5 : Int) = 4), if_pos (by decide : (5 : Int) = 5), (h1 k (by omega)).1, hp k (by omega), Option.bind_some, Option.bind_some, if_neg c2, e, if_neg (by decide : ¬ (5 : Int) = 6), if_neg hfe, wn t (by omega)]
   exact h k (by omega)
theorem someRings_l3 (goals : List Int) (l : List WI) (hl : SzOk l) (sp : Nat) (hsp : sp ≤ 20) (m1 mv V : Int) (hV : ∃ K, ∀ k, K ≤ k → spec_PlanFault.l2 k goals 7 (sp : Int) mv l = some V) : ∀ (d t : Nat), t + d = sp → ∃ g K, ∀ k, K ≤ k → spec_PlanFault.l3 k goals 6 (t : Int) (sp : Int) mv l = some (if g = true then 6 else V) ∧ someT (fun k t => hof_PlanFault3.p k l t) k (sp : Int) (t : Int) = some g
 | 0, t, ht => by
  obtain ⟨K, h⟩ := hV
  refine ⟨false, K + 1, fun k hk => ?_⟩
  obtain ⟨k, rfl⟩ : ∃ m, k = m + 1 := ⟨k - 1, by omega⟩
  show _ = some V ∧ _ = some false
  have n1 : ¬ (t : Int) < (sp : Int) := by omega
  rw [spec_PlanFault.l3, someT, if_neg n1, if_neg n1, show wrap64 ((6 : Int) + 1) = 7 from by rw [w64 (by decide) (by decide)]; rfl]
  exact ⟨h k (by omega), rfl⟩
 | d + 1, t, ht => by
  obtain ⟨g, K, h⟩ := someRings_l3 goals l hl sp hsp m1 mv V hV d (t + 1) (by omega)
  have c1 : (t : Int) < (sp : Int) := by omega
  have hfe : ¬ ((false : Bool) = true) := by decide
  obtain ⟨q, K1, h1, q0, _⟩ := rings_evR l (t : Int) hl
  have hp : ∀ k, K1 ≤ k → hof_PlanFault3.p k l (t : Int) = some (q != 0) := fun k hk => by unfold hof_PlanFault3.p; rw [(h1 k hk).2, Option.bind_some]
  by_cases c2 : q > 0
  ·have e : (q != 0) = true := by simp only [bne_iff_ne, ne_eq]; omega
   refine ⟨true, K + K1 + 1, fun k hk => ?_⟩
   obtain ⟨k, rfl⟩ : ∃ m, k = m + 1 := ⟨k - 1, by omega⟩
   show _ = some (6 : Int) ∧ _ = some true
   rw [spec_PlanFault.l3, someT, if_pos c1, if_pos c1, if_neg (by decide : ¬ (6 : Int) = 4), if_neg (by decide : ¬ (6 : Int) = 5), if_pos (by decide : (6 : Int) = 6), (h1 k (by omega)).1, hp k (by omega), Option.bind_some, Option.bind_some, if_pos c2, e, if_pos rfl]
   exact ⟨rfl, rfl⟩
  ·have e : (q != 0) = false := by simp only [bne_eq_false_iff_eq]; omega
   refine ⟨g, K + K1 + 1, fun k hk => ?_⟩
   obtain ⟨k, rfl⟩ : ∃ m, k = m + 1 := ⟨k - 1, by omega⟩
   rw [spec_PlanFault.l3, someT, if_pos c1, if_pos c1, if_neg (by decide : ¬ (6 : Int) = 4), if_neg (by decide : ¬ (6 : Int) = 5), if_pos (by decide : (6 : Int) = 6), (h1 k (by omega)).1, hp k (by omega), Option.bind_some, Option.bind_some, if_neg c2, e, if_neg hfe, wn t (by omega)]
   exact h k (by omega)
theorem goals_l4 (goals ends : List Int) (hg : goals.length ≤ 1048576) (he : ends.length ≤ 1048576) (l : List WI) (sp mv V : Int) (hV : ∃ K, ∀ k, K ≤ k → (spec_MovesOf.f k l).bind (fun t => if mv = t then some 0 else some 8) = some V) : ∀ (d i : Nat), i + d = goals.length → ∃ K, ∀ k, K ≤ k → spec_PlanFault.l4 k goals ends (i : Int) sp mv l = some (if ((goals.drop i).any (hof_PlanFault4.p ends)) = true then 7 else V)
 | 0, i, hi => by
  obtain ⟨K, h⟩ := hV
  refine ⟨K + 1, fun k hk => ?_⟩
  obtain ⟨k, rfl⟩ : ∃ m, k = m + 1 := ⟨k - 1, by omega⟩
  rw [spec_PlanFault.l4, if_neg (by omega), List.drop_of_length_le (by omega), List.any_nil, if_neg (by decide)]
  exact h k (by omega)
 | d + 1, i, hi => by
  obtain ⟨K, h⟩ := goals_l4 goals ends hg he l sp mv V hV d (i + 1) (by omega)
  have hil : i < goals.length := by omega
  have c1 : (i : Int) < (goals.length : Int) := by omega
  have c2 : (0 : Int) ≤ (i : Int) := by omega
  refine ⟨K + ends.length + 2, fun k hk => ?_⟩
  obtain ⟨k, rfl⟩ : ∃ m, k = m + 1 := ⟨k - 1, by omega⟩
  have hp : hof_PlanFault4.p ends (goals[i]) = !(decide (goals[i] ∈ ends)) := rfl
  rw [spec_PlanFault.l4, if_pos c1, if_pos c2, rd_get goals i hil, has_eq ends (goals[i]) (by omega) k (by omega), Option.bind_some, drop_cons goals i hil, List.any_cons, hp, wn i (by omega)]
  cases decide (goals[i] ∈ ends) with
  | true => rw [if_pos rfl, Bool.not_true, Bool.false_or]; exact h k (by omega)
  | false => rw [if_neg (by decide), Bool.not_false, Bool.true_or, if_pos rfl]
theorem plan_ev (a b : Int) (s : ByteArray) (hs : s.size ≤ 1048576) (st goals : List Int) (h1 : st.length ≤ 1048576) (h2 : goals.length ≤ 1048576) (sp mv : Int) (l : List WI) (hl : SzOk l) : ∃ (v : Int) (K : Nat), ∀ k, K ≤ k → spec_PlanFault.f k a b s st goals sp mv l = some v ∧ impl_PlanFault.f k a b s st goals sp mv l = some v := by
 obtain ⟨KE, hE⟩ := ends_ev l hl
 have hEl : (endsOf l).length ≤ 1048576 := by
  have := asc_length (lasts l)
  have := lasts_len l
  have := SzOk_len hl
  unfold endsOf
  omega
 obtain ⟨q, KA, hA, iA⟩ := askOk_ev2 a b s hs st goals h1 h2 sp
 cases q with
 | false =>
  refine ⟨1, KE + KA, fun k hk => ?_⟩
  unfold spec_PlanFault.f impl_PlanFault.f
  rw [(hE k (by omega)).2, (hA k (by omega)).1, (hA k (by omega)).2, Option.bind_some, Option.bind_some, Option.bind_some, if_neg (by decide), if_neg (by decide)]
  exact ⟨rfl, rfl⟩
 | true =>
  obtain ⟨hAs, s0, s20⟩ := iA rfl
  obtain ⟨f, KF, hF, iF⟩ := form_ev st l hl sp mv s0 s20
  cases f with
  | false =>
   refine ⟨2, KE + KA + KF, fun k hk => ?_⟩
   unfold spec_PlanFault.f impl_PlanFault.f
   rw [(hE k (by omega)).2, (hA k (by omega)).1, (hA k (by omega)).2, Option.bind_some, Option.bind_some, Option.bind_some, if_pos rfl, if_pos rfl, (hF k (by omega)).1, (hF k (by omega)).2, Option.bind_some, Option.bind_some, if_neg (by decide)]
   exact ⟨rfl, rfl⟩
  | true =>
   obtain ⟨sp, rfl⟩ := Int.eq_ofNat_of_zero_le s0
   obtain ⟨mo, KM, hM⟩ := moves_ev l hl
   obtain ⟨K4, h4⟩ := goals_l4 goals (endsOf l) h2 hEl l (sp : Int) mv (if mv = mo then 0 else 8) ⟨KM, fun k hk => by rw [(hM k hk).1, Option.bind_some]; split <;> rfl⟩ goals.length 0 (by omega)
   rw [List.drop_zero] at h4
   have hl2 : ∃ K, ∀ k, K ≤ k → spec_PlanFault.l2 k goals 7 (sp : Int) mv l = some (if goals.any (hof_PlanFault4.p (endsOf l)) = true then 7 else if mv = mo then 0 else 8) := by
    refine ⟨K4 + KE + 1, fun k hk => ?_⟩
    obtain ⟨k, rfl⟩ : ∃ m, k = m + 1 := ⟨k - 1, by omega⟩
    rw [spec_PlanFault.l2, if_neg (by decide), (hE k (by omega)).1, Option.bind_some]
    exact h4 k (by omega)
   obtain ⟨g3, KG3, hG3⟩ := someRings_l3 goals l hl sp (by omega) 0 mv _ hl2 sp 0 (by omega)
   have hl6 : ∃ K, ∀ k, K ≤ k → spec_PlanFault.l2 k goals 6 (sp : Int) mv l = some _ := ⟨KG3 + 1, fun k hk => by
    obtain ⟨k, rfl⟩ : ∃ m, k = m + 1 := ⟨k - 1, by omega⟩
    rw [spec_PlanFault.l2, if_pos (by decide)]
    exact (hG3 k (by omega)).1⟩
   obtain ⟨g2, KG2, hG2⟩ := someSwaps_l3 goals l hl sp (by omega) 0 mv _ hl6 sp 0 (by omega)
   have hl5 : ∃ K, ∀ k, K ≤ k → spec_PlanFault.l2 k goals 5 (sp : Int) mv l = some _ := ⟨KG2 + 1, fun k hk => by
    obtain ⟨k, rfl⟩ : ∃ m, k = m + 1 := ⟨k - 1, by omega⟩
    rw [spec_PlanFault.l2, if_pos (by decide)]
    exact (hG2 k (by omega)).1⟩
   obtain ⟨g1, KG1, hG1⟩ := someMeet_l3 goals l hl sp (by omega) 0 mv _ hl5 sp 0 (by omega)
   have hl4 : ∃ K, ∀ k, K ≤ k → spec_PlanFault.l2 k goals 4 (sp : Int) mv l = some _ := ⟨KG1 + 1, fun k hk => by
    obtain ⟨k, rfl⟩ : ∃ m, k = m + 1 := ⟨k - 1, by omega⟩
    rw [spec_PlanFault.l2, if_pos (by decide)]
    exact (hG1 k (by omega)).1⟩
   obtain ⟨g0, KS, hS⟩ := step_l0 a b s hs hAs.1 l hl goals (sp : Int) mv _ hl4 l.length 0 (by omega)
   refine ⟨if g0 = true then 3 else if g1 = true then 4 else if g2 = true then 5 else if g3 = true then 6 else if goals.any (hof_PlanFault4.p (endsOf l)) = true then 7 else if mv = mo then 0 else 8, KE + KA + KF + KM + KS + KG1 + KG2 + KG3, fun k hk => ⟨?_, ?_⟩⟩
   ·unfold spec_PlanFault.f
    rw [(hA k (by omega)).1, Option.bind_some, if_pos rfl, (hF k (by omega)).1, Option.bind_some, if_pos rfl]
    exact (hS k (by omega)).1
   ·have e0 := (hS k (by omega)).2
    have e1 := (hG1 k (by omega)).2
    have e2 := (hG2 k (by omega)).2
    have e3 := (hG3 k (by omega)).2
    unfold impl_PlanFault.f
    rw [(hE k (by omega)).2, Option.bind_some, (hA k (by omega)).2, Option.bind_some, if_pos rfl, (hF k (by omega)).2, Option.bind_some, Bool.not_true, if_neg (by decide)]
    unfold impl_stepFault.f hof_PlanFault1.f hof_PlanFault2.f hof_PlanFault3.f hof_PlanFault4.f
    rw [show ((0 : Nat) : Int) = 0 from rfl] at e0 e1 e2 e3
    rw [e0, Option.bind_some, e1, Option.bind_some, e2, Option.bind_some, e3, Option.bind_some, Option.bind_some, (hM k (by omega)).2, Option.bind_some]
    generalize goals.any (hof_PlanFault4.p (endsOf l)) = ga
    cases g0 <;> cases g1 <;> cases g2 <;> cases g3 <;> cases ga <;> by_cases hm : mv = mo <;> simp only [hm, reduceIte, Bool.false_eq_true]
end Go.Proofs.Ytdebpmdbeogglaa.Pure
