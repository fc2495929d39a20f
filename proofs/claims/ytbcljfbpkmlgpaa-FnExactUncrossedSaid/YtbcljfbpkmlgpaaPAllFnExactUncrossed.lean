/- The plain facts of this claim, in their order. -/
import Derived.Test.YtbcljfbpkmlgpaaQ0
import Derived.Test.YtbcljfbpkmlgpaaQ1
import Derived.Test.YtbcljfbpkmlgpaaQ5
import Derived.Test.YtbcljfbpkmlgpaaQ3
import Derived.Test.YtbcljfbpkmlgpaaQ6
import Derived.Test.YtbcljfbpkmlgpaaQ2
import Derived.Test.YtbcljfbpkmlgpaaQ4
import Derived.Test.YtbcljfbpkmlgpaaQ7
set_option linter.unusedSimpArgs false
set_option linter.unusedSectionVars false
/- Plain facts that all the proofs share. -/
namespace Go.Proofs.Ytbcljfbpkmlgpaa.Pure
open Go.RowKit Go.Proofs.Ytbcljfbpkmlgpaa.Q Go.Proofs.YtbcljfbpkmlgpaaW.PrintWords Go.Proofs.YtbcljfbpkmlgpaaW.PrintLast

theorem w64 {x : Int} (h0 : -9223372036854775808 ≤ x) (h1 : x ≤ 9223372036854775807) : wrap64 x = x := by unfold wrap64; omega
theorem rd_get (l : List Int) (i : Nat) (h : i < l.length) : rd l (i : Int) = l[i] := by simp [rd, h]
theorem drop_cons {α : Type} (l : List α) (i : Nat) (h : i < l.length) : l.drop i = l[i] :: l.drop (i + 1) := List.drop_eq_getElem_cons h
def iota (m : Int) : Nat → List Int
 | 0 => []
 | d + 1 => m :: iota (m + 1) d
theorem iota_length : ∀ (m : Int) (d : Nat), (iota m d).length = d
 | _, 0 => rfl
 | m, d + 1 => by simp [iota, iota_length (m + 1) d]

end Go.Proofs.Ytbcljfbpkmlgpaa.Pure
/- Plain facts about the law's helpers over whole numbers: what comparing answers. -/
namespace Go.Proofs.Ytbcljfbpkmlgpaa.Pure
open Go.RowKit Go.Proofs.Ytbcljfbpkmlgpaa.Q Go.Proofs.YtbcljfbpkmlgpaaW.PrintWords Go.Proofs.YtbcljfbpkmlgpaaW.PrintLast

theorem eqIntS_l0 (a b : List Int) (hl : a.length = b.length) (hn : a.length ≤ 9223372036854775807) : ∀ (d i k : Nat), i + d = a.length → d < k →
  laws_eqIntS.l0 k a b (i : Int) = some (decide (a.drop i = b.drop i))
 | 0, i, k, hi, hk => by
  obtain ⟨k, rfl⟩ : ∃ m, k = m + 1 := ⟨k - 1, by omega⟩
  simp only [laws_eqIntS.l0]
  rw [if_neg (by omega), List.drop_of_length_le (by omega), List.drop_of_length_le (by omega)]
  rfl
 | d + 1, i, k, hi, hk => by
  obtain ⟨k, rfl⟩ : ∃ m, k = m + 1 := ⟨k - 1, by omega⟩
  simp only [laws_eqIntS.l0]
  rw [if_pos (by omega), if_pos (by omega), if_pos (by omega), rd_get a i (by omega), rd_get b i (by omega), drop_cons a i (by omega), drop_cons b i (by omega), w64 (by omega) (by omega)]
  by_cases h : a[i]'(by omega) = b[i]'(by omega)
  ·rw [if_pos h, show ((i : Int) + 1) = ((i + 1 : Nat) : Int) by omega, eqIntS_l0 a b hl hn d (i + 1) k (by omega) (by omega)]
   simp only [h, List.cons.injEq, true_and]
  ·rw [if_neg h]
   simp only [List.cons.injEq, h, false_and, decide_false]
theorem eqIntS_ev (a b : List Int) (hn : a.length ≤ 9223372036854775807) : ∃ K, ∀ k, K ≤ k → laws_eqIntS.f k a b = some (decide (a = b)) := by
 refine ⟨a.length + 1, fun k hk => ?_⟩
 show laws_eqIntS.f k a b = some (decide (a = b))
 unfold laws_eqIntS.f
 by_cases h : a.length = b.length
 ·rw [if_pos (by omega)]
  have := eqIntS_l0 a b h hn a.length 0 k (by omega) (by omega)
  simpa using this
 ·rw [if_neg (by omega), decide_eq_false (fun e => h (by rw [e]))]
end Go.Proofs.Ytbcljfbpkmlgpaa.Pure
/- Plain facts about the law's helpers over whole numbers: what copying answers. -/
namespace Go.Proofs.Ytbcljfbpkmlgpaa.Pure
open Go.RowKit Go.Proofs.Ytbcljfbpkmlgpaa.Q Go.Proofs.YtbcljfbpkmlgpaaW.PrintWords Go.Proofs.YtbcljfbpkmlgpaaW.PrintLast

theorem toIntS_l0 (l : List Int) (hn : l.length ≤ 9223372036854775807) : ∀ (d i k : Nat) (out : List Int), out.length = l.length → i + d = l.length → (∀ j, j < i → out[j]? = l[j]?) → d < k →
  laws_toIntS.l0 k l out (i : Int) = some l
 | 0, i, k, out, ho, hi, hj, hk => by
  obtain ⟨k, rfl⟩ : ∃ m, k = m + 1 := ⟨k - 1, by omega⟩
  simp only [laws_toIntS.l0]
  rw [if_neg (by omega)]
  congr 1
  apply List.ext_getElem?
  intro j
  rcases Nat.lt_or_ge j l.length with h | h
  ·exact hj j (by omega)
  ·rw [List.getElem?_eq_none (by omega), List.getElem?_eq_none h]
 | d + 1, i, k, out, ho, hi, hj, hk => by
  obtain ⟨k, rfl⟩ : ∃ m, k = m + 1 := ⟨k - 1, by omega⟩
  simp only [laws_toIntS.l0]
  rw [if_pos (by omega), if_pos (by omega), if_pos (by omega), w64 (by omega) (by omega), show ((i : Int) + 1) = ((i + 1 : Nat) : Int) by omega]
  refine toIntS_l0 l hn d (i + 1) k _ (by simpa using ho) (by omega) (fun j hji => ?_) (by omega)
  rw [Int.toNat_natCast, rd_get l i (by omega), List.getElem?_set]
  by_cases e : i = j
  ·subst e
   rw [if_pos rfl, if_pos (by omega), List.getElem?_eq_getElem (by omega)]
  ·rw [if_neg e]
   exact hj j (by omega)
theorem toIntS_ev (l : List Int) (hn : l.length ≤ 35184372088832) : ∃ K, ∀ k, K ≤ k → laws_toIntS.f k l = some l := by
 refine ⟨l.length + 1, fun k hk => ?_⟩
 show laws_toIntS.f k l = some l
 unfold laws_toIntS.f
 rw [if_pos (by omega), if_pos (by omega)]
 exact toIntS_l0 l (by omega) l.length 0 k _ (by simp) (by omega) (fun j hj => absurd hj (Nat.not_lt_zero _)) (by omega)
end Go.Proofs.Ytbcljfbpkmlgpaa.Pure
/- Plain facts about lists of ways: the law's helpers. -/
namespace Go.Proofs.Ytbcljfbpkmlgpaa.Pure
open Go.RowKit Go.Proofs.Ytbcljfbpkmlgpaa.Q Go.Proofs.YtbcljfbpkmlgpaaW.PrintWords Go.Proofs.YtbcljfbpkmlgpaaW.PrintLast
abbrev WI := S42
abbrev WL := S41
def toW (x : WL) : WI := ⟨x.f0⟩
theorem rdWI_get (l : List WI) (i : Nat) (h : i < l.length) : rd_T42 l (i : Int) = l[i] := by simp [rd_T42, h]
theorem rdWL_get (l : List WL) (i : Nat) (h : i < l.length) : rd_T41 l (i : Int) = l[i] := by simp [rd_T41, h]
def tot : List WI → Nat
 | [] => 0
 | x :: xs => x.f0.length + tot xs
theorem tot_mem : ∀ (l : List WI) (x : WI), x ∈ l → x.f0.length ≤ tot l
 | y :: ys, x, h => by
  unfold tot
  rcases List.mem_cons.mp h with e | h
  ·subst e; omega
  ·have := tot_mem ys x h; omega
theorem tot_drop (l : List WI) (i : Nat) (h : i < l.length) : tot (l.drop i) = l[i].f0.length + tot (l.drop (i + 1)) := by rw [drop_cons l i h]; rfl
def SzOk (l : List WI) : Prop := l.length + tot l ≤ 1048576
theorem szWayS_l0 (l : List WL) : ∀ (d i : Nat) (a : Int), l.length ≤ 1048576 → i + d = l.length → 0 ≤ a → a ≤ 1048576 → (∀ x ∈ l, x.f0.length ≤ 9223372036854775807) → ∃ v K, (∀ k, K ≤ k → laws_szWayS.l0 k l a (i : Int) = some v) ∧ (0 ≤ v → v = a - tot ((l.map toW).drop i))
 | 0, i, a, hl, hi, h0, h1, hx => by
  refine ⟨a, 1, fun k hk => ?_, fun _ => ?_⟩
  ·obtain ⟨k, rfl⟩ : ∃ m, k = m + 1 := ⟨k - 1, by omega⟩
   simp only [laws_szWayS.l0]
   rw [if_neg (by omega)]
  ·rw [List.drop_of_length_le (by simp; omega)]; simp [tot]
 | d + 1, i, a, hl, hi, h0, h1, hx => by
  have hxi := hx l[i] (List.getElem_mem _)
  have ht : tot ((l.map toW).drop i) = l[i].f0.length + tot ((l.map toW).drop (i + 1)) := by rw [tot_drop _ i (by simp; omega)]; simp [toW]
  by_cases h : a - (l[i].f0.length : Int) < 0
  ·refine ⟨-1, 1, fun k hk => ?_, fun h => absurd h (by decide)⟩
   obtain ⟨k, rfl⟩ : ∃ m, k = m + 1 := ⟨k - 1, by omega⟩
   simp only [laws_szWayS.l0, laws_szWay.f, laws_szIntS.f]
   rw [if_pos (by omega), if_pos (by omega), rdWL_get l i (by omega), w64 (by omega) (by omega), if_pos h]
   rfl
  ·obtain ⟨v, K, hK, hv⟩ := szWayS_l0 l d (i + 1) (a - (l[i].f0.length : Int)) hl (by omega) (by omega) (by omega) hx
   refine ⟨v, K + 1, fun k hk => ?_, fun h => ?_⟩
   ·obtain ⟨k, rfl⟩ : ∃ m, k = m + 1 := ⟨k - 1, by omega⟩
    simp only [laws_szWayS.l0, laws_szWay.f, laws_szIntS.f]
    rw [if_pos (by omega), if_pos (by omega), rdWL_get l i (by omega), w64 (by omega) (by omega), if_neg h]
    simp only [Option.bind_some]
    rw [if_neg h]
    simp only [Option.bind_some]
    rw [if_neg h, w64 (by omega) (by omega), show ((i : Int) + 1) = ((i + 1 : Nat) : Int) by omega]
    exact hK k (by omega)
   ·rw [hv h, ht]; omega
theorem szWayS_ev (l : List WL) (hn : l.length ≤ 9223372036854775807) (hx : ∀ x ∈ l, x.f0.length ≤ 9223372036854775807) : ∃ v K, (∀ k, K ≤ k → laws_szWayS.f k l 1048576 = some v) ∧ (0 ≤ v → SzOk (l.map toW) ∧ v = 1048576 - l.length - tot (l.map toW)) := by
 by_cases h : l.length ≤ 1048576
 ·obtain ⟨v, K, hK, hv⟩ := szWayS_l0 l l.length 0 (1048576 - l.length) h (by omega) (by omega) (by omega) hx
  refine ⟨v, K, fun k hk => ?_, fun h0 => ?_⟩
  ·unfold laws_szWayS.f
   rw [w64 (by omega) (by omega), if_neg (by omega)]
   exact hK k hk
  ·have := hv h0
   simp only [List.drop_zero] at this
   exact ⟨by unfold SzOk; simp only [List.length_map]; omega, this⟩
 ·refine ⟨-1, 0, fun k _ => ?_, fun h => absurd h (by decide)⟩
  unfold laws_szWayS.f
  rw [w64 (by omega) (by omega), if_pos (by omega)]
theorem SzOk_len {l : List WI} (h : SzOk l) : l.length ≤ 1048576 := by unfold SzOk at h; omega
theorem SzOk_way {l : List WI} (h : SzOk l) {x : WI} (hx : x ∈ l) : x.f0.length ≤ 1048576 := by have := tot_mem l x hx; unfold SzOk at h; omega
theorem toWayS_l0 (l : List WL) (hn : l.length ≤ 1048576) (hx : ∀ x ∈ l, x.f0.length ≤ 1048576) : ∀ (d i : Nat) (out : List WI), out.length = l.length → i + d = l.length → (∀ j, j < i → out[j]? = (l.map toW)[j]?) → ∃ K, ∀ k, K ≤ k →
  laws_toWayS.l0 k l out (i : Int) = some (l.map toW)
 | 0, i, out, ho, hi, hj => by
  refine ⟨1, fun k hk => ?_⟩
  obtain ⟨k, rfl⟩ : ∃ m, k = m + 1 := ⟨k - 1, by omega⟩
  simp only [laws_toWayS.l0]
  rw [if_neg (by omega)]
  congr 1
  apply List.ext_getElem?
  intro j
  rcases Nat.lt_or_ge j l.length with h | h
  ·exact hj j (by omega)
  ·rw [List.getElem?_eq_none (by omega), List.getElem?_eq_none (by simp; omega)]
 | d + 1, i, out, ho, hi, hj => by
  obtain ⟨K1, h1⟩ := toIntS_ev l[i].f0 (by have := hx l[i] (List.getElem_mem _); omega)
  obtain ⟨K2, h2⟩ := toWayS_l0 l hn hx d (i + 1) (out.set i ⟨l[i].f0⟩) (by simpa using ho) (by omega) (fun j hji => by
   rw [List.getElem?_set]
   by_cases e : i = j
   ·subst e
    rw [if_pos rfl, if_pos (by omega), List.getElem?_map, List.getElem?_eq_getElem (by omega)]
    rfl
   ·rw [if_neg e]
    exact hj j (by omega))
  refine ⟨K1 + K2 + 1, fun k hk => ?_⟩
  obtain ⟨k, rfl⟩ : ∃ m, k = m + 1 := ⟨k - 1, by omega⟩
  simp only [laws_toWayS.l0, laws_toWay.f]
  rw [if_pos (by omega), if_pos (by omega), rdWL_get l i (by omega), h1 k (by omega)]
  simp only [Option.bind_some]
  rw [if_pos (by omega), w64 (by omega) (by omega), show ((i : Int) + 1) = ((i + 1 : Nat) : Int) by omega, Int.toNat_natCast]
  exact h2 k (by omega)
theorem toWayS_ev (l : List WL) (h : SzOk (l.map toW)) : ∃ K, ∀ k, K ≤ k → laws_toWayS.f k l = some (l.map toW) := by
 have hn : l.length ≤ 1048576 := by simpa using SzOk_len h
 obtain ⟨K, hK⟩ := toWayS_l0 l hn (fun x hx => SzOk_way h (x := toW x) (List.mem_map_of_mem hx)) l.length 0 (List.replicate l.length z42) (by simp) (by omega) (fun j hj => absurd hj (Nat.not_lt_zero _))
 refine ⟨K, fun k hk => ?_⟩
 unfold laws_toWayS.f
 rw [if_pos (by omega), if_pos (by omega)]
 exact hK k hk
theorem eqWayS_l0 (l : List WI) (hl : SzOk l) : ∀ (d i : Nat), i + d = l.length → ∃ K, ∀ k, K ≤ k → laws_eqWayS.l0 k l l (i : Int) = some true
 | 0, i, hi => by
  refine ⟨1, fun k hk => ?_⟩
  obtain ⟨k, rfl⟩ : ∃ m, k = m + 1 := ⟨k - 1, by omega⟩
  simp only [laws_eqWayS.l0]
  rw [if_neg (by omega)]
 | d + 1, i, hi => by
  have hn := SzOk_len hl
  obtain ⟨K1, h1⟩ := eqIntS_ev l[i].f0 l[i].f0 (by have := SzOk_way hl (List.getElem_mem (l := l) (n := i) (by omega)); omega)
  obtain ⟨K2, h2⟩ := eqWayS_l0 l hl d (i + 1) (by omega)
  refine ⟨K1 + K2 + 1, fun k hk => ?_⟩
  obtain ⟨k, rfl⟩ : ∃ m, k = m + 1 := ⟨k - 1, by omega⟩
  simp only [laws_eqWayS.l0, laws_eqWay.f]
  rw [if_pos (by omega), if_pos (by omega), if_pos (by omega), rdWI_get l i (by omega), h1 k (by omega)]
  simp only [Option.bind_some, decide_true, reduceIte]
  rw [w64 (by omega) (by omega), show ((i : Int) + 1) = ((i + 1 : Nat) : Int) by omega]
  exact h2 k (by omega)
theorem eqWayS_ev (l : List WI) (hl : SzOk l) : ∃ K, ∀ k, K ≤ k → laws_eqWayS.f k l l = some true := by
 obtain ⟨K, h⟩ := eqWayS_l0 l hl l.length 0 (by omega)
 refine ⟨K, fun k hk => ?_⟩
 unfold laws_eqWayS.f
 rw [if_pos rfl]
 exact h k hk
end Go.Proofs.Ytbcljfbpkmlgpaa.Pure
/- A number between two others. -/
namespace Go.Proofs.Ytbcljfbpkmlgpaa.Pure
open Go.RowKit Go.Proofs.Ytbcljfbpkmlgpaa.Q Go.Proofs.YtbcljfbpkmlgpaaW.PrintWords Go.Proofs.YtbcljfbpkmlgpaaW.PrintLast
theorem l01In_eq (a b c : Int) : spec_l01In.f a b c = some (decide (b ≤ a ∧ a ≤ c)) := by
 unfold spec_l01In.f
 by_cases h : a ≥ b
 ·rw [if_pos h]; congr 1; exact decide_eq_decide.mpr ⟨fun h2 => ⟨h, h2⟩, fun h2 => h2.2⟩
 ·rw [if_neg h, decide_eq_false (fun h2 => h h2.1)]
end Go.Proofs.Ytbcljfbpkmlgpaa.Pure
/- Level ways and meetings: what the program answers. -/
namespace Go.Proofs.Ytbcljfbpkmlgpaa.Pure
open Go.RowKit Go.Proofs.Ytbcljfbpkmlgpaa.Q Go.Proofs.YtbcljfbpkmlgpaaW.PrintWords Go.Proofs.YtbcljfbpkmlgpaaW.PrintLast
def len0 (l : List WI) : Int := ((rd_T42 l 0).f0.length : Int)
def Lev (l : List WI) (t : Int) : Prop := 1 ≤ l.length ∧ l.length ≤ 10 ∧ 0 ≤ t ∧ t < len0 l - 1 ∧ ∀ x ∈ l, (x.f0.length : Int) = len0 l
instance (l : List WI) (t : Int) : Decidable (Lev l t) := by unfold Lev; exact inferInstance
theorem len0_get (l : List WI) (h : 0 < l.length) : len0 l = (l[0].f0.length : Int) := by unfold len0; rw [show (0 : Int) = ((0 : Nat) : Int) from rfl, rdWI_get l 0 h]
theorem len0_le (l : List WI) (h : 0 < l.length) (hl : SzOk l) : len0 l ≤ 1048576 ∧ 0 ≤ len0 l := by
 have := SzOk_way hl (List.getElem_mem (l := l) (n := 0) h)
 rw [len0_get l h]; omega
theorem implLevel_eq (l : List WI) (t : Int) (hl : SzOk l) : impl_LevelWays.f l t = some (decide (Lev l t)) := by
 unfold impl_LevelWays.f impl_areLevel.f hof_areLevel.f
 by_cases c : (l.length : Int) ≥ 1
 ·by_cases c1 : (l.length : Int) ≤ 10
  ·rw [if_pos c, if_pos c1, if_pos (by omega)]
   simp only [Option.bind_some]
   obtain ⟨g1, g2⟩ := len0_le l (by omega) hl
   by_cases c2 : ∀ x ∈ l, (x.f0.length : Int) = len0 l
   ·have e : l.any (hof_areLevel.p l) = false := by
     rw [List.any_eq_false]
     intro x hx
     unfold hof_areLevel.p
     have := c2 x hx
     unfold len0 at this
     simpa using this
    rw [e]
    simp only [Bool.not_false, reduceIte]
    by_cases c3 : t ≥ 0
    ·rw [if_pos c3, if_pos (by omega)]
     show some (decide (t < wrap64 (len0 l - 1))) = _
     rw [w64 (by omega) (by omega)]
     congr 1
     exact decide_eq_decide.mpr ⟨fun h => ⟨by omega, by omega, by omega, h, c2⟩, fun h => h.2.2.2.1⟩
    ·rw [if_neg c3, decide_eq_false]
     rintro ⟨_, _, h, _⟩; omega
   ·have e : l.any (hof_areLevel.p l) = true := by
     rw [List.any_eq_true]
     have : ∃ x, x ∈ l ∧ ¬ (x.f0.length : Int) = len0 l := by
      refine Classical.byContradiction fun hne => c2 fun x hx => Classical.byContradiction fun hx2 => hne ⟨x, hx, hx2⟩
     obtain ⟨x, hx, h⟩ := this
     refine ⟨x, hx, ?_⟩
     unfold hof_areLevel.p
     unfold len0 at h
     simpa using h
    rw [e]
    simp only [Bool.not_true, Bool.false_eq_true, reduceIte]
    rw [decide_eq_false]
    rintro ⟨_, _, _, _, h⟩; exact c2 h
  ·rw [if_pos c, if_neg c1]
   simp only [Option.bind_some, Bool.false_eq_true, reduceIte]
   rw [decide_eq_false]
   rintro ⟨_, h, _⟩; omega
 ·rw [if_neg c]
  simp only [Option.bind_some, Bool.false_eq_true, reduceIte]
  rw [decide_eq_false]
  rintro ⟨h, _⟩; omega
def cel (l : List WI) (i : Nat) (t : Int) : Int := rd (rd_T42 l (i : Int)).f0 t
def Mt (l : List WI) (t : Int) : Prop := ∃ i k, k < i ∧ i < l.length ∧ cel l i t = cel l k t
section
variable (l : List WI) (t : Int) (h10 : l.length ≤ 10) (h0 : 0 ≤ t) (hb : t < 9223372036854775807)
include h10 h0
theorem implMeets_l1 (hx : ∀ x ∈ l, t < (x.f0.length : Int)) (i : Nat) (hi : i < l.length) (P : Prop) (hc : ∃ b K, (∀ q, K ≤ q → impl_meets.l0 q l t (l.length : Int) (wrap64 ((i : Int) + 1)) = some b) ∧ (b = true ↔ P)) :
  ∀ (d k : Nat), k + d = i → ∃ b K, (∀ q, K ≤ q → impl_meets.l1 q l t (i : Int) (l.length : Int) (i : Int) (i : Int) (k : Int) = some b) ∧ (b = true ↔ (∃ k', k ≤ k' ∧ k' < i ∧ cel l i t = cel l k' t) ∨ P)
 | 0, k, hk => by
  obtain ⟨b, K, h, hP⟩ := hc
  refine ⟨b, K + 1, fun q hq => ?_, ?_⟩
  ·obtain ⟨q, rfl⟩ : ∃ m, q = m + 1 := ⟨q - 1, by omega⟩
   simp only [impl_meets.l1]
   rw [if_neg (by omega)]
   exact h q (by omega)
  ·rw [hP]
   exact ⟨.inr, fun h => h.resolve_left (by rintro ⟨k', h1, h2, _⟩; omega)⟩
 | d + 1, k, hk => by
  obtain ⟨b, K, h, hP⟩ := implMeets_l1 hx i hi P hc d (k + 1) (by omega)
  have hxi := hx l[i] (List.getElem_mem _)
  have hxk := hx l[k] (List.getElem_mem _)
  have e1 : (k : Int) < (i : Int) := by omega
  have e2 : (0 : Int) ≤ i := by omega
  have e3 : (i : Int) < (l.length : Int) := by omega
  have e5 : (0 : Int) ≤ k := by omega
  have e6 : (k : Int) < (l.length : Int) := by omega
  have e9 : wrap64 ((k : Int) + 1) = ((k + 1 : Nat) : Int) := by rw [w64 (by omega) (by omega)]; rfl
  by_cases c : cel l i t = cel l k t
  ·refine ⟨true, 1, fun q hq => ?_, ⟨fun _ => .inl ⟨k, Nat.le_refl _, by omega, c⟩, fun _ => rfl⟩⟩
   obtain ⟨q, rfl⟩ : ∃ m, q = m + 1 := ⟨q - 1, by omega⟩
   unfold cel at c
   rw [rdWI_get l i hi, rdWI_get l k (by omega)] at c
   simp only [impl_meets.l1, rdWI_get l i hi, rdWI_get l k (show k < l.length by omega), e1, e2, e3, e5, e6, h0, hxi, hxk, c, reduceIte]
  ·refine ⟨b, K + 1, fun q hq => ?_, ?_⟩
   ·obtain ⟨q, rfl⟩ : ∃ m, q = m + 1 := ⟨q - 1, by omega⟩
    unfold cel at c
    rw [rdWI_get l i hi, rdWI_get l k (by omega)] at c
    simp only [impl_meets.l1, rdWI_get l i hi, rdWI_get l k (show k < l.length by omega), e1, e2, e3, e5, e6, h0, hxi, hxk, c, e9, reduceIte]
    exact h q (by omega)
   ·rw [hP]
    constructor
    ·rintro (⟨k', h1, h2, h3⟩ | h)
     ·exact .inl ⟨k', by omega, h2, h3⟩
     ·exact .inr h
    ·rintro (⟨k', h1, h2, h3⟩ | h)
     ·refine .inl ⟨k', ?_, h2, h3⟩
      rcases Nat.eq_or_lt_of_le h1 with e | e
      ·subst e; exact absurd h3 c
      ·exact e
     ·exact .inr h
theorem implMeets_l0 (hx : ∀ x ∈ l, t < (x.f0.length : Int)) : ∀ (d i : Nat), i + d = l.length → ∃ b K, (∀ q, K ≤ q → impl_meets.l0 q l t (l.length : Int) (i : Int) = some b) ∧ (b = true ↔ ∃ i' k', i ≤ i' ∧ k' < i' ∧ i' < l.length ∧ cel l i' t = cel l k' t)
 | 0, i, hi => by
  refine ⟨false, 1, fun q hq => ?_, ⟨fun h => (by cases h), ?_⟩⟩
  ·obtain ⟨q, rfl⟩ : ∃ m, q = m + 1 := ⟨q - 1, by omega⟩
   simp only [impl_meets.l0]
   rw [if_neg (by omega)]
  ·rintro ⟨i', k', h1, h2, h3, _⟩; omega
 | d + 1, i, hi => by
  have hc := implMeets_l0 hx d (i + 1) (by omega)
  rw [show ((i + 1 : Nat) : Int) = wrap64 ((i : Int) + 1) by rw [w64 (by omega) (by omega)]; rfl] at hc
  obtain ⟨b, K, h, hP⟩ := implMeets_l1 l t h10 h0 hx i (by omega) _ hc i 0 (by omega)
  refine ⟨b, K + 1, fun q hq => ?_, ?_⟩
  ·obtain ⟨q, rfl⟩ : ∃ m, q = m + 1 := ⟨q - 1, by omega⟩
   simp only [impl_meets.l0]
   rw [if_pos (by omega), if_pos (by omega), if_pos (by omega), show ((l.take (i : Int).toNat).length : Int) = (i : Int) by rw [Int.toNat_natCast, List.length_take]; omega]
   exact h q (by omega)
  ·rw [hP]
   constructor
   ·rintro (⟨k', h1, h2, h3⟩ | ⟨i', k', h1, h2, h3, h4⟩)
    ·exact ⟨i, k', Nat.le_refl _, h2, by omega, h3⟩
    ·exact ⟨i', k', by omega, h2, h3, h4⟩
   ·rintro ⟨i', k', h1, h2, h3, h4⟩
    rcases Nat.eq_or_lt_of_le h1 with e | e
    ·subst e; exact .inl ⟨k', Nat.zero_le _, h2, h4⟩
    ·exact .inr ⟨i', k', by omega, h2, h3, h4⟩
theorem implMeets_ev (hx : ∀ x ∈ l, t < (x.f0.length : Int)) : ∃ b K, (∀ q, K ≤ q → impl_meets.f q l t = some b) ∧ (b = true ↔ Mt l t) := by
 obtain ⟨b, K, h, hP⟩ := implMeets_l0 l t h10 h0 hx l.length 0 (by omega)
 refine ⟨b, K, fun q hq => h q hq, ?_⟩
 rw [hP]; unfold Mt
 exact ⟨fun ⟨i, k, _, h⟩ => ⟨i, k, h⟩, fun ⟨i, k, h⟩ => ⟨i, k, Nat.zero_le _, h⟩⟩
end
def Meets (l : List WI) (t : Int) : Prop := Lev l t ∧ (Mt l t ∨ Mt l (t + 1))
theorem implMeet_ev (l : List WI) (t : Int) (hl : SzOk l) : ∃ b K, (∀ k, K ≤ k → impl_MeetAt.f k l t = some b) ∧ (b = true ↔ Meets l t) := by
 by_cases h : Lev l t
 ·obtain ⟨g1, g2, g3, g4, g5⟩ := h
  obtain ⟨q1, q2⟩ := len0_le l (by omega) hl
  have hx : ∀ x ∈ l, t + 1 < (x.f0.length : Int) := fun x hx => by rw [g5 x hx]; omega
  obtain ⟨b1, K1, h2, hP1⟩ := implMeets_ev l t g2 g3 (fun x hm => by have := hx x hm; omega)
  obtain ⟨b2, K2, h3, hP2⟩ := implMeets_ev l (t + 1) g2 (by omega) hx
  have hlev : Lev l t := ⟨g1, g2, g3, g4, g5⟩
  refine ⟨b1 || b2, K1 + K2, fun k hk => ?_, ?_⟩
  ·unfold impl_MeetAt.f
   rw [implLevel_eq l t hl, Option.bind_some, decide_eq_true hlev, if_pos rfl, h2 k (by omega), Option.bind_some]
   cases b1 with
   | true => rw [if_pos rfl]; rfl
   | false => rw [if_neg (by decide), w64 (by omega) (by omega), h3 k (by omega), Option.bind_some]; rfl
  ·rw [Bool.or_eq_true, hP1, hP2]
   exact ⟨fun h => ⟨hlev, h⟩, fun h => h.2⟩
 ·refine ⟨false, 0, fun k hk => ?_, ⟨fun h => (by cases h), fun h2 => absurd h2.1 h⟩⟩
  unfold impl_MeetAt.f
  rw [implLevel_eq l t hl, Option.bind_some, decide_eq_false h, if_neg (by decide)]
end Go.Proofs.Ytbcljfbpkmlgpaa.Pure
/- Rings and swaps: the next robot of each, and how long a ring is. -/
namespace Go.Proofs.Ytbcljfbpkmlgpaa.Pure
open Go.RowKit Go.Proofs.Ytbcljfbpkmlgpaa.Q Go.Proofs.YtbcljfbpkmlgpaaW.PrintWords Go.Proofs.YtbcljfbpkmlgpaaW.PrintLast
theorem findI_spec {α : Type} (p : α → Bool) : ∀ l : List α, (findI p l = -1 ∧ ∀ (j : Nat) (h : j < l.length), p l[j] = false) ∨ (∃ (j : Nat) (h : j < l.length), findI p l = (j : Int) ∧ p l[j] = true)
 | [] => .inl ⟨rfl, fun j h => absurd h (Nat.not_lt_zero _)⟩
 | x :: xs => by
  unfold findI
  by_cases c : p x = true
  ·rw [if_pos c]
   exact .inr ⟨0, by simp, rfl, c⟩
  ·rw [if_neg c]
   rcases findI_spec p xs with ⟨h1, h2⟩ | ⟨j, h, h1, h2⟩
   ·left
    refine ⟨by simp [h1], fun j h => ?_⟩
    cases j with
    | zero => simpa using c
    | succ j => simpa using h2 j (by simpa using h)
   ·right
    refine ⟨j + 1, by simpa using h, ?_, by simpa using h2⟩
    simp only [h1]
    rw [if_neg (by omega)]
    omega
theorem php : ∀ (n : Nat) (L : List Nat), L.Nodup → (∀ x ∈ L, x < n) → L.length ≤ n
 | 0, L, _, h => by
  cases L with
  | nil => exact Nat.le_refl _
  | cons x xs => exact absurd (h x List.mem_cons_self) (Nat.not_lt_zero _)
 | n + 1, L, hd, h => by
  by_cases c : n ∈ L
  ·have h1 := php n (L.erase n) (hd.erase n) (fun x hx => by
    have := (List.Nodup.mem_erase_iff hd).mp hx
    have := h x this.2
    omega)
   have h2 := List.length_erase_of_mem c
   have h3 : 0 < L.length := List.length_pos_of_mem c
   omega
  ·have h1 := php n L hd (fun x hx => by
    have := h x hx
    rcases Nat.lt_or_ge x n with g | g
    ·exact g
    ·exact absurd (by rwa [show n = x by omega]) c)
   omega
def nxt (l : List WI) (t : Int) (i : Nat) : Int := findI (hof_nextOf.p t (rd_T42 l (i : Int)).f0) l
def nextL (l : List WI) (t : Int) : List Int := (List.range l.length).map (nxt l t)
theorem nextL_length (l : List WI) (t : Int) : (nextL l t).length = l.length := by simp [nextL]
theorem nextL_rd (l : List WI) (t : Int) (i : Nat) (h : i < l.length) : rd (nextL l t) (i : Int) = nxt l t i := by
 rw [rd_get _ i (by rw [nextL_length]; exact h)]; simp [nextL]
def itN (l : List WI) (t : Int) (i : Nat) : Nat → Int
 | 0 => (i : Int)
 | n + 1 => if itN l t i n < 0 then -1 else nxt l t (itN l t i n).toNat
def RingIs (l : List WI) (t : Int) (i : Nat) (v : Int) : Prop := (v = 0 ∧ ∃ m, itN l t i m = -1) ∨ (1 ≤ v ∧ itN l t i v.toNat = (i : Int) ∧ (v = 1 → nxt l t i = (i : Int)) ∧ (2 ≤ v → nxt l t i ≠ (i : Int)))
theorem itN_next (l : List WI) (t : Int) (i x n : Nat) (h : itN l t i n = (x : Int)) : itN l t i (n + 1) = nxt l t x := by
 rw [itN, if_neg (by omega), h, Int.toNat_natCast]
section
variable (l : List WI) (t : Int) (hv : Lev l t) (hm : ¬ Mt l t) (hm1 : ¬ Mt l (t + 1)) (hl : SzOk l)
include hv hl
theorem tw : wrap64 (t + 1) = t + 1 := by
 obtain ⟨g1, g2, g3, g4, g5⟩ := hv
 obtain ⟨q1, q2⟩ := len0_le l (by omega) hl
 exact w64 (by omega) (by omega)
theorem nxt_p (i : Nat) (j : Nat) (hj : j < l.length) : hof_nextOf.p t (rd_T42 l (i : Int)).f0 l[j] = decide (cel l j t = cel l i (t + 1)) := by
 unfold hof_nextOf.p cel
 rw [tw l t hv hl, rdWI_get l j hj]
include hm
theorem nxt_iff (i : Nat) (j : Nat) (hj : j < l.length) : cel l j t = cel l i (t + 1) ↔ nxt l t i = (j : Int) := by
 unfold nxt
 rcases findI_spec (hof_nextOf.p t (rd_T42 l (i : Int)).f0) l with ⟨h1, h2⟩ | ⟨q, hq, h1, h2⟩
 ·rw [h1]
  constructor
  ·intro h
   have := h2 j hj
   rw [nxt_p l t hv hl i j hj, decide_eq_true h] at this
   cases this
  ·intro h; omega
 ·rw [h1]
  rw [nxt_p l t hv hl i q hq] at h2
  have h2 := of_decide_eq_true h2
  constructor
  ·intro h
   rcases Nat.lt_trichotomy q j with g | g | g
   ·exact absurd ⟨j, q, g, hj, by rw [h, h2]⟩ hm
   ·omega
   ·exact absurd ⟨q, j, g, hq, by rw [h, h2]⟩ hm
  ·intro h
   have : q = j := by omega
   subst this; exact h2
theorem nxt_range (i : Nat) : nxt l t i = -1 ∨ ∃ j : Nat, j < l.length ∧ nxt l t i = (j : Int) := by
 unfold nxt
 rcases findI_spec (hof_nextOf.p t (rd_T42 l (i : Int)).f0) l with ⟨h1, _⟩ | ⟨q, hq, h1, _⟩
 ·exact .inl h1
 ·exact .inr ⟨q, hq, h1⟩
include hm1
theorem nxt_inj (i j q : Nat) (hi : i < l.length) (hj : j < l.length) (hq : q < l.length) (h1 : nxt l t i = (q : Int)) (h2 : nxt l t j = (q : Int)) : i = j := by
 have e1 := (nxt_iff l t hv hm hl i q hq).mpr h1
 have e2 := (nxt_iff l t hv hm hl j q hq).mpr h2
 rcases Nat.lt_trichotomy i j with g | g | g
 ·exact absurd ⟨j, i, g, hj, by rw [← e1, ← e2]⟩ hm1
 ·exact g
 ·exact absurd ⟨i, j, g, hi, by rw [← e1, ← e2]⟩ hm1
omit hm1
theorem specRing_l1 (i x : Nat) (size : Int) (hx : x < l.length) (v : Int) (K : Nat)
  (h : ∀ k, K ≤ k → (if nxt l t x < 0 then some 0 else if nxt l t x = (i : Int) then some size else spec_l12Ring.l0 k l t (i : Int) (nxt l t x) (wrap64 (size + 1))) = some v) :
  ∀ (d j k : Nat), j + d = l.length → K + d + 1 ≤ k → spec_l12Ring.l1 k l t (i : Int) (x : Int) size (if nxt l t x < (j : Int) then nxt l t x else -1) (j : Int) = some v
 | 0, j, k, hj, hk => by
  obtain ⟨k, rfl⟩ : ∃ m, k = m + 1 := ⟨k - 1, by omega⟩
  have hr : nxt l t x < (j : Int) := by
   rcases nxt_range l t hv hm hl x with e | ⟨q, hq, e⟩ <;> omega
  simp only [spec_l12Ring.l1]
  rw [if_neg (by omega), if_pos hr]
  exact h k (by omega)
 | d + 1, j, k, hj, hk => by
  obtain ⟨k, rfl⟩ : ∃ m, k = m + 1 := ⟨k - 1, by omega⟩
  obtain ⟨hjl, hk1, hk2⟩ : j < l.length ∧ j + 1 + d = l.length ∧ K + d + 1 ≤ k := by clear h; omega
  obtain ⟨g1, g2, g3, g4, g5⟩ := hv
  obtain ⟨b1, b2, b4, b5, b6⟩ : (j : Int) < (l.length : Int) ∧ (0 : Int) ≤ j ∧ (0 : Int) ≤ x ∧ (x : Int) < (l.length : Int) ∧ 0 ≤ t + 1 := by clear h; omega
  have b3 : t < (l[j].f0.length : Int) := by
   have a1 := g5 l[j] (List.getElem_mem _)
   clear h; omega
  have b7 : t + 1 < (l[x].f0.length : Int) := by
   have a1 := g5 l[x] (List.getElem_mem _)
   clear h; omega
  have e9 : wrap64 ((j : Int) + 1) = ((j + 1 : Nat) : Int) := by
   rw [w64 (by clear h; omega) (by clear h; omega)]; rfl
  have hv : Lev l t := ⟨g1, g2, g3, g4, g5⟩
  have ih := specRing_l1 i x size hx v K h d (j + 1) k hk1 hk2
  have hi := nxt_iff l t hv hm hl x j hjl
  have b8 := tw l t hv hl
  unfold cel at hi
  have r1 := rdWI_get l j hjl
  have r2 := rdWI_get l x hx
  rw [r1, r2] at hi
  have b9 := g3
  clear g1 g2 g3 g4 g5 hv hk hk1 hk2 h
  generalize nxt l t x = N at ih hi ⊢
  by_cases c : rd l[j].f0 t = rd l[x].f0 (t + 1)
  ·have e := hi.mp c
   have b10 : N < ((j + 1 : Nat) : Int) := by clear ih hi c b3 b7 b8 e9; omega
   rw [if_pos b10, e] at ih
   simp only [spec_l12Ring.l1, r1, r2, b1, b2, b3, b4, b5, b6, b7, b8, b9, c, e9, reduceIte]
   exact ih
  ·have e : N ≠ (j : Int) := fun h => c (hi.mpr h)
   simp only [spec_l12Ring.l1, r1, r2, b1, b2, b3, b4, b5, b6, b7, b8, b9, c, e9, reduceIte]
   by_cases c2 : N < (j : Int)
   ·have b10 : N < ((j + 1 : Nat) : Int) := by clear ih hi c b3 b7 b8 e9; omega
    rw [if_pos c2]
    rw [if_pos b10] at ih
    exact ih
   ·have b10 : ¬ N < ((j + 1 : Nat) : Int) := by clear ih hi c b3 b7 b8 e9; omega
    rw [if_neg c2]
    rw [if_neg b10] at ih
    exact ih
include hm1
theorem ring_l0 (i : Nat) (hi : i < l.length) : ∀ (d x : Nat) (tl : List Nat), tl.length + 1 + d = l.length → (x :: tl).Nodup → (∀ u ∈ x :: tl, u < l.length) → (∀ u ∈ x :: tl, u ≠ i → ∃ u' ∈ tl, nxt l t u' = (u : Int)) → itN l t i tl.length = (x : Int) → (tl = [] → x = i) → (tl ≠ [] → nxt l t i ≠ (i : Int)) →
  ∃ v K, (∀ k, K ≤ k → spec_l12Ring.l0 k l t (i : Int) (x : Int) ((tl.length + 1 : Nat) : Int) = some v ∧ impl_ringOf.l0 k (nextL l t) (i : Int) ((tl.length + 1 : Nat) : Int) (nxt l t x) = some v) ∧ 0 ≤ v ∧ v ≤ l.length ∧ RingIs l t i v := by
 intro d
 induction d with
 | zero =>
  intro x tl hd hn hlt hch hit hx0 hne0
  have hnx := itN_next l t i x tl.length hit
  have h10 := hv.2.1
  have hx := hlt x List.mem_cons_self
  have hend : nxt l t x < 0 ∨ nxt l t x = (i : Int) := by
   rcases nxt_range l t hv hm hl x with e | ⟨q, hq, e⟩
   ·left; omega
   ·right
    refine Classical.byContradiction fun hne => ?_
    have hqi : q ≠ i := fun h => hne (by rw [e, h])
    have hnm : q ∉ x :: tl := fun hmem => by
     obtain ⟨u', hu', e'⟩ := hch q hmem hqi
     have := nxt_inj l t hv hm hm1 hl x u' q hx (hlt u' (List.mem_cons_of_mem _ hu')) hq e e'
     subst this
     exact (List.nodup_cons.mp hn).1 hu'
    have := php l.length (q :: x :: tl) (List.nodup_cons.mpr ⟨hnm, hn⟩) (fun u hu => by
     rcases List.mem_cons.mp hu with h | h
     ·omega
     ·exact hlt u h)
    simp at this
    omega
  have e1 : ((tl.length + 1 : Nat) : Int) ≤ (l.length : Int) := by omega
  by_cases c : nxt l t x < 0
  ·refine ⟨0, l.length + 3, fun k hk => ⟨?_, ?_⟩, by omega, by omega, .inl ⟨rfl, tl.length + 1, by rw [hnx]; rcases nxt_range l t hv hm hl x with e' | ⟨q', hq', e'⟩ <;> omega⟩⟩
   ·obtain ⟨k, rfl⟩ : ∃ m, k = m + 1 := ⟨k - 1, by omega⟩
    simp only [spec_l12Ring.l0]
    rw [if_pos e1]
    have := specRing_l1 l t hv hm hl i x ((tl.length + 1 : Nat) : Int) hx 0 0 (fun k _ => by rw [if_pos c]) l.length 0 k (by omega) (by omega)
    have hz : (if nxt l t x < ((0 : Nat) : Int) then nxt l t x else -1) = -1 := by
     rcases nxt_range l t hv hm hl x with e | ⟨q, hq, e⟩
     ·rw [e]; rfl
     ·rw [if_neg (by omega)]
    rw [hz] at this
    exact this
   ·obtain ⟨k, rfl⟩ : ∃ m, k = m + 1 := ⟨k - 1, by omega⟩
    simp only [impl_ringOf.l0]
    rw [if_neg (by omega), if_pos c]
  ·have c2 : nxt l t x = (i : Int) := hend.resolve_left c
   refine ⟨((tl.length + 1 : Nat) : Int), l.length + 3, fun k hk => ⟨?_, ?_⟩, by omega, by omega, .inr ⟨by omega, by rw [Int.toNat_natCast, hnx]; omega, fun h1 => by rw [← hx0 (List.eq_nil_of_length_eq_zero (by omega))]; rw [hx0 (List.eq_nil_of_length_eq_zero (by omega))] at *; omega, fun h2 => hne0 (fun h3 => by rw [h3] at h2; simp at h2)⟩⟩
   ·obtain ⟨k, rfl⟩ : ∃ m, k = m + 1 := ⟨k - 1, by omega⟩
    simp only [spec_l12Ring.l0]
    rw [if_pos e1]
    have := specRing_l1 l t hv hm hl i x ((tl.length + 1 : Nat) : Int) hx ((tl.length + 1 : Nat) : Int) 0 (fun k _ => by rw [if_neg c, if_pos c2]) l.length 0 k (by omega) (by omega)
    have hz : (if nxt l t x < ((0 : Nat) : Int) then nxt l t x else -1) = -1 := by rw [if_neg (by omega)]
    rw [hz] at this
    exact this
   ·obtain ⟨k, rfl⟩ : ∃ m, k = m + 1 := ⟨k - 1, by omega⟩
    simp only [impl_ringOf.l0]
    rw [if_pos c2]
 | succ d ih =>
  intro x tl hd hn hlt hch hit hx0 hne0
  have hnx := itN_next l t i x tl.length hit
  have h10 := hv.2.1
  have hx := hlt x List.mem_cons_self
  have e1 : ((tl.length + 1 : Nat) : Int) ≤ (l.length : Int) := by omega
  have e9 : wrap64 (((tl.length + 1 : Nat) : Int) + 1) = (((x :: tl).length + 1 : Nat) : Int) := by rw [w64 (by omega) (by omega)]; rfl
  have hz : (if nxt l t x < ((0 : Nat) : Int) then nxt l t x else -1) = -1 := by
   rcases nxt_range l t hv hm hl x with e | ⟨q, hq, e⟩
   ·rw [e]; rfl
   ·rw [if_neg (by omega)]
  rcases nxt_range l t hv hm hl x with e | ⟨q, hq, e⟩
  ·refine ⟨0, l.length + 3, fun k hk => ⟨?_, ?_⟩, by omega, by omega, .inl ⟨rfl, tl.length + 1, by rw [hnx]; rcases nxt_range l t hv hm hl x with e' | ⟨q', hq', e'⟩ <;> omega⟩⟩
   ·obtain ⟨k, rfl⟩ : ∃ m, k = m + 1 := ⟨k - 1, by omega⟩
    simp only [spec_l12Ring.l0]
    rw [if_pos e1]
    have := specRing_l1 l t hv hm hl i x ((tl.length + 1 : Nat) : Int) hx 0 0 (fun k _ => by rw [if_pos (by omega)]) l.length 0 k (by omega) (by omega)
    rw [hz] at this
    exact this
   ·obtain ⟨k, rfl⟩ : ∃ m, k = m + 1 := ⟨k - 1, by omega⟩
    simp only [impl_ringOf.l0]
    rw [if_neg (by omega), if_pos (by omega)]
  ·by_cases c : q = i
   ·refine ⟨((tl.length + 1 : Nat) : Int), l.length + 3, fun k hk => ⟨?_, ?_⟩, by omega, by omega, .inr ⟨by omega, by rw [Int.toNat_natCast, hnx]; omega, fun h1 => by rw [← hx0 (List.eq_nil_of_length_eq_zero (by omega))]; rw [hx0 (List.eq_nil_of_length_eq_zero (by omega))] at *; omega, fun h2 => hne0 (fun h3 => by rw [h3] at h2; simp at h2)⟩⟩
    ·obtain ⟨k, rfl⟩ : ∃ m, k = m + 1 := ⟨k - 1, by omega⟩
     simp only [spec_l12Ring.l0]
     rw [if_pos e1]
     have := specRing_l1 l t hv hm hl i x ((tl.length + 1 : Nat) : Int) hx ((tl.length + 1 : Nat) : Int) 0 (fun k _ => by rw [if_neg (by omega), if_pos (by omega)]) l.length 0 k (by omega) (by omega)
     rw [hz] at this
     exact this
    ·obtain ⟨k, rfl⟩ : ∃ m, k = m + 1 := ⟨k - 1, by omega⟩
     simp only [impl_ringOf.l0]
     rw [if_pos (by omega)]
   ·have hnm : q ∉ x :: tl := fun hmem => by
     obtain ⟨u', hu', e'⟩ := hch q hmem c
     have := nxt_inj l t hv hm hm1 hl x u' q hx (hlt u' (List.mem_cons_of_mem _ hu')) hq e e'
     subst this
     exact (List.nodup_cons.mp hn).1 hu'
    obtain ⟨v, K, hh, hv0, hv1, hv2⟩ := ih q (x :: tl) (by simp only [List.length_cons]; omega) (List.nodup_cons.mpr ⟨hnm, hn⟩)
     (fun u hu => by
      rcases List.mem_cons.mp hu with h | h
      ·omega
      ·exact hlt u h)
     (fun u hu hui => by
      rcases List.mem_cons.mp hu with h | h
      ·exact ⟨x, List.mem_cons_self, by rw [e, h]⟩
      ·obtain ⟨u', hu', e'⟩ := hch u h hui
       exact ⟨u', List.mem_cons_of_mem _ hu', e'⟩)
     (by rw [List.length_cons, hnx, e]) (fun h => by cases h) (fun _ h => by
      by_cases hn0 : tl = []
      ·have := hx0 hn0; subst this; rw [e] at h; omega
      ·exact hne0 hn0 h)
    refine ⟨v, K + l.length + 3, fun k hk => ⟨?_, ?_⟩, hv0, hv1, hv2⟩
    ·obtain ⟨k, rfl⟩ : ∃ m, k = m + 1 := ⟨k - 1, by omega⟩
     simp only [spec_l12Ring.l0]
     rw [if_pos e1]
     have := specRing_l1 l t hv hm hl i x ((tl.length + 1 : Nat) : Int) hx v K (fun k hk => by rw [if_neg (by omega), if_neg (by omega), e9, e]; exact (hh k hk).1) l.length 0 k (by omega) (by omega)
     rw [hz] at this
     exact this
    ·obtain ⟨k, rfl⟩ : ∃ m, k = m + 1 := ⟨k - 1, by omega⟩
     simp only [impl_ringOf.l0]
     rw [if_neg (by omega), if_neg (by omega), if_neg (by rw [nextL_length]; omega), if_pos (by omega), if_pos (by rw [nextL_length]; omega), e9, e, nextL_rd l t q hq]
     exact (hh k (by omega)).2
theorem ring_evM (i : Nat) (hi : i < l.length) : ∃ v K, (∀ k, K ≤ k → spec_l12Ring.f k l t (i : Int) = some v ∧ impl_ringOf.f k (nextL l t) (i : Int) = some v) ∧ 0 ≤ v ∧ v ≤ l.length ∧ RingIs l t i v := by
 obtain ⟨v, K, h, h1⟩ := ring_l0 l t hv hm hm1 hl i hi (l.length - 1) i [] (by simp; omega) (by simp) (by simpa using hi) (by
  intro u hu hne
  exact absurd (by simpa using hu) hne) rfl (fun _ => rfl) (fun h => absurd rfl h)
 refine ⟨v, K, fun k hk => ⟨(h k hk).1, ?_⟩, h1⟩
 unfold impl_ringOf.f
 rw [if_pos (by omega), if_pos (by rw [nextL_length]; omega), nextL_rd l t i hi]
 exact (h k hk).2
end
section
variable (l : List WI) (t : Int) (hv : Lev l t) (hl : SzOk l)
include hv hl
theorem implNext_l0 : ∀ (d i k : Nat), i + d = l.length → d < k → impl_nextOf.l0 k l ((List.range i).map (nxt l t)) l (l.length : Int) (i : Int) t = some (nextL l t)
 | 0, i, k, hi, hk => by
  obtain ⟨k, rfl⟩ : ∃ m, k = m + 1 := ⟨k - 1, by omega⟩
  simp only [impl_nextOf.l0]
  rw [if_neg (by omega), show i = l.length by omega]
  rfl
 | d + 1, i, k, hi, hk => by
  obtain ⟨k, rfl⟩ : ∃ m, k = m + 1 := ⟨k - 1, by omega⟩
  have ih := implNext_l0 d (i + 1) k (by omega) (by omega)
  obtain ⟨g1, g2, g3, g4, g5⟩ := hv
  obtain ⟨q1, q2⟩ := len0_le l (by omega) hl
  have a1 := g5 l[i] (List.getElem_mem _)
  simp only [impl_nextOf.l0, hof_nextOf.f]
  rw [if_pos (by omega), if_pos (by omega), if_pos (by omega), if_pos ⟨g3, by omega, by rw [rdWI_get l i (by omega)]; omega, fun x hx => by have := g5 x hx; omega⟩]
  simp only [Option.bind_some]
  rw [if_pos (by simp; omega), w64 (by omega) (by omega), show ((i : Int) + 1) = ((i + 1 : Nat) : Int) by omega]
  rw [List.range_succ, List.map_append] at ih
  exact ih
end
def Calm (l : List WI) (t : Int) : Prop := Lev l t ∧ ¬ Mt l t ∧ ¬ Mt l (t + 1)
theorem implNext_ev (l : List WI) (t : Int) (hl : SzOk l) : (Calm l t → ∃ K, ∀ k, K ≤ k → impl_nextOf.f k l t = some (nextL l t)) ∧ (¬ Calm l t → ∃ K, ∀ k, K ≤ k → impl_nextOf.f k l t = some []) := by
 obtain ⟨b, K, h, hb⟩ := implMeet_ev l t hl
 constructor
 ·rintro ⟨c1, c2, c3⟩
  refine ⟨K + l.length + 2, fun k hk => ?_⟩
  obtain ⟨k, rfl⟩ : ∃ m, k = m + 1 := ⟨k - 1, by omega⟩
  have hbf : b = false := by
   cases b with
   | false => rfl
   | true => exact absurd (hb.mp rfl).2 (fun h => h.elim c2 c3)
  unfold impl_nextOf.f
  rw [implLevel_eq l t hl, Option.bind_some, decide_eq_true c1, if_pos rfl, h (k + 1) (by omega), Option.bind_some, hbf]
  simp only [impl_nextOf.j0, Bool.false_eq_true, reduceIte]
  exact implNext_l0 l t c1 hl l.length 0 k (by omega) (by omega)
 ·intro hc
  refine ⟨K + 1, fun k hk => ?_⟩
  obtain ⟨k, rfl⟩ : ∃ m, k = m + 1 := ⟨k - 1, by omega⟩
  unfold impl_nextOf.f
  rw [implLevel_eq l t hl, Option.bind_some]
  by_cases c1 : Lev l t
  ·have hbt : b = true := hb.mpr ⟨c1, Classical.byContradiction fun h => hc ⟨c1, fun h1 => h (.inl h1), fun h1 => h (.inr h1)⟩⟩
   rw [decide_eq_true c1, if_pos rfl, h (k + 1) (by omega), Option.bind_some, hbt]
   simp only [impl_nextOf.j0, reduceIte]
  ·rw [decide_eq_false c1, if_neg (by decide)]
   simp only [impl_nextOf.j0, reduceIte]
end Go.Proofs.Ytbcljfbpkmlgpaa.Pure
/- Regular ways: what the program and the reference answer. -/
namespace Go.Proofs.Ytbcljfbpkmlgpaa.Pure
open Go.RowKit Go.Proofs.Ytbcljfbpkmlgpaa.Q Go.Proofs.YtbcljfbpkmlgpaaW.PrintWords Go.Proofs.YtbcljfbpkmlgpaaW.PrintLast
def Alev (l : List WI) : Prop := 1 ≤ l.length ∧ l.length ≤ 10 ∧ ∀ x ∈ l, (x.f0.length : Int) = len0 l
instance (l : List WI) : Decidable (Alev l) := by unfold Alev; exact inferInstance
theorem areLevel_eq (l : List WI) : impl_areLevel.f l = some (decide (Alev l)) := by
 unfold impl_areLevel.f hof_areLevel.f
 by_cases c : (l.length : Int) ≥ 1
 ·by_cases c1 : (l.length : Int) ≤ 10
  ·rw [if_pos c, if_pos c1, if_pos (by omega)]
   simp only [Option.bind_some]
   by_cases c2 : ∀ x ∈ l, (x.f0.length : Int) = len0 l
   ·have e : l.any (hof_areLevel.p l) = false := by
     rw [List.any_eq_false]
     intro x hx
     unfold hof_areLevel.p
     have := c2 x hx
     unfold len0 at this
     simpa using this
    rw [e, decide_eq_true (show Alev l from ⟨by omega, by omega, c2⟩)]; rfl
   ·have e : l.any (hof_areLevel.p l) = true := by
     rw [List.any_eq_true]
     have : ∃ x, x ∈ l ∧ ¬ (x.f0.length : Int) = len0 l := by
      refine Classical.byContradiction fun hne => c2 fun x hx => Classical.byContradiction fun hx2 => hne ⟨x, hx, hx2⟩
     obtain ⟨x, hx, h⟩ := this
     refine ⟨x, hx, ?_⟩
     unfold hof_areLevel.p
     unfold len0 at h
     simpa using h
    rw [e, decide_eq_false (fun h : Alev l => c2 h.2.2)]; rfl
  ·rw [if_pos c, if_neg c1, decide_eq_false (fun h : Alev l => by have := h.2.1; omega)]
 ·rw [if_neg c, decide_eq_false (fun h : Alev l => by have := h.1; omega)]
def Reg (l : List WI) : Prop := Alev l ∧ 1 ≤ len0 l ∧ ∀ t : Nat, (t : Int) < len0 l - 1 → ¬ Mt l (t : Int) ∧ ¬ Mt l ((t : Int) + 1)
theorem someMeet (l : List WI) (hl : SzOk l) (span : Int) (hsp : span ≤ 1048576) : ∀ (d t : Nat), (t : Int) + d = span ∨ (d = 0 ∧ span ≤ t) → ∃ g K, (∀ k, K ≤ k → someT (fun k t => impl_MeetAt.f k l t) k span (t : Int) = some g) ∧ (g = true ↔ ∃ t' : Nat, t ≤ t' ∧ (t' : Int) < span ∧ Meets l (t' : Int))
 | 0, t, h => by
  refine ⟨false, 1, fun k hk => ?_, ⟨fun h => (by cases h), fun ⟨t', h1, h2, _⟩ => by omega⟩⟩
  obtain ⟨k, rfl⟩ : ∃ m, k = m + 1 := ⟨k - 1, by omega⟩
  unfold someT
  rw [if_neg (by omega)]
 | d + 1, t, h => by
  obtain ⟨b, K1, h1, hb⟩ := implMeet_ev l (t : Int) hl
  cases b with
  | true =>
   refine ⟨true, K1 + 1, fun k hk => ?_, ⟨fun _ => ⟨t, Nat.le_refl _, by omega, hb.mp rfl⟩, fun _ => rfl⟩⟩
   obtain ⟨k, rfl⟩ : ∃ m, k = m + 1 := ⟨k - 1, by omega⟩
   unfold someT
   rw [if_pos (by omega), h1 k (by omega), Option.bind_some, if_pos rfl]
  | false =>
   obtain ⟨g, K, hk0, hg⟩ := someMeet l hl span hsp d (t + 1) (by omega)
   refine ⟨g, K1 + K + 1, fun k hk => ?_, ?_⟩
   ·obtain ⟨k, rfl⟩ : ∃ m, k = m + 1 := ⟨k - 1, by omega⟩
    unfold someT
    rw [if_pos (by omega), h1 k (by omega), Option.bind_some, if_neg (by decide), w64 (by omega) (by omega), show ((t : Int) + 1) = ((t + 1 : Nat) : Int) by omega]
    exact hk0 k (by omega)
   ·rw [hg]
    constructor
    ·rintro ⟨t', q1, q2, q3⟩; exact ⟨t', by omega, q2, q3⟩
    ·rintro ⟨t', q1, q2, q3⟩
     refine ⟨t', ?_, q2, q3⟩
     rcases Nat.eq_or_lt_of_le q1 with e | e
     ·subst e; exact absurd (hb.mpr q3) (by decide)
     ·exact e
theorem implReg_ev (l : List WI) (hl : SzOk l) : ∃ g K, (∀ k, K ≤ k → impl_areRegular.f k l = some g) ∧ (g = true ↔ Reg l) := by
 by_cases ha : Alev l
 ·obtain ⟨q1, q2⟩ := len0_le l (by have := ha.1; omega) hl
  have hn := ha.1
  by_cases h1 : len0 l < 1
  ·refine ⟨false, 0, fun k _ => ?_, ⟨fun h => (by cases h), fun h => absurd h.2.1 (by omega)⟩⟩
   unfold impl_areRegular.f
   rw [areLevel_eq, Option.bind_some, decide_eq_true ha, if_pos rfl, if_pos (by omega)]
   show (if len0 l < 1 then _ else _) = _
   rw [if_pos h1]
  ·obtain ⟨D, hD⟩ : ∃ D : Nat, (D : Int) = len0 l - 1 := ⟨(len0 l - 1).toNat, by omega⟩
   obtain ⟨g, K, h, hg⟩ := someMeet l hl (len0 l - 1) (by omega) D 0 (by omega)
   refine ⟨!g, K, fun k hk => ?_, ?_⟩
   ·unfold impl_areRegular.f
    rw [areLevel_eq, Option.bind_some, decide_eq_true ha, if_pos rfl, if_pos (by omega)]
    show (if len0 l < 1 then _ else ((hof_areRegular.f k (wrap64 (len0 l - 1)) l).bind _)) = _
    rw [if_neg h1, w64 (by omega) (by omega)]
    unfold hof_areRegular.f
    have := h k hk
    rw [show ((0 : Nat) : Int) = 0 from rfl] at this
    rw [this, Option.bind_some]
   ·have hR : Reg l ↔ ¬ (∃ t' : Nat, 0 ≤ t' ∧ (t' : Int) < len0 l - 1 ∧ Meets l (t' : Int)) := by
     constructor
     ·rintro ⟨_, _, h3⟩ ⟨t', _, h4, h5⟩
      exact h5.2.elim (h3 t' h4).1 (h3 t' h4).2
     ·intro h3
      refine ⟨ha, by omega, fun t ht => ⟨fun hm => h3 ⟨t, Nat.zero_le _, ht, ⟨hn, ha.2.1, by omega, ht, ha.2.2⟩, .inl hm⟩, fun hm => h3 ⟨t, Nat.zero_le _, ht, ⟨hn, ha.2.1, by omega, ht, ha.2.2⟩, .inr hm⟩⟩⟩
    rw [hR, ← hg]
    cases g <;> simp
 ·refine ⟨false, 0, fun k _ => ?_, ⟨fun h => (by cases h), fun h => absurd h.1 ha⟩⟩
  unfold impl_areRegular.f
  rw [areLevel_eq, Option.bind_some, decide_eq_false ha, if_neg (by decide)]
section
variable (l : List WI) (hl : SzOk l) (h10 : l.length ≤ 10)
include hl h10
theorem ok_l2 (i k : Nat) (hi : i < l.length) (hk : k < l.length) (li : (l[i].f0.length : Int) = len0 l) (lk : (l[k].f0.length : Int) = len0 l) (P : Prop) (hc : ∃ g K, (∀ q, K ≤ q → spec_l13Ok.l1 q l (i : Int) (wrap64 ((k : Int) + 1)) = some g) ∧ (g = true ↔ P)) :
  ∀ (d t : Nat), (t : Int) + d = len0 l → ∃ g K, (∀ q, K ≤ q → spec_l13Ok.l2 q l (i : Int) (k : Int) (t : Int) = some g) ∧ (g = true ↔ (∀ t' : Nat, t ≤ t' → (t' : Int) < len0 l → cel l i (t' : Int) = cel l k (t' : Int) → len0 l ≤ 1) ∧ P)
 | 0, t, ht => by
  obtain ⟨g, K, h, hg⟩ := hc
  refine ⟨g, K + 1, fun q hq => ?_, ?_⟩
  ·obtain ⟨q, rfl⟩ : ∃ m, q = m + 1 := ⟨q - 1, by omega⟩
   simp only [spec_l13Ok.l2]
   rw [if_pos (by omega)]
   show (if (t : Int) < len0 l then _ else _) = _
   rw [if_neg (by omega)]
   exact h q (by omega)
  ·rw [hg]
   exact ⟨fun h => ⟨fun t' h1 h2 => by omega, h⟩, fun h => h.2⟩
 | d + 1, t, ht => by
  obtain ⟨g, K, h, hg⟩ := ok_l2 i k hi hk li lk P hc d (t + 1) (by omega)
  obtain ⟨q1, q2⟩ := len0_le l (by omega) hl
  have b1 : (0 : Int) < (l.length : Int) := by omega
  have b2 : (t : Int) < len0 l := by omega
  have b3 : (0 : Int) ≤ i := by omega
  have b4 : (i : Int) < (l.length : Int) := by omega
  have b5 : (0 : Int) ≤ t := by omega
  have b6 : (t : Int) < (l[i].f0.length : Int) := by omega
  have b7 : (0 : Int) ≤ k := by omega
  have b8 : (k : Int) < (l.length : Int) := by omega
  have b9 : (t : Int) < (l[k].f0.length : Int) := by omega
  have e9 : wrap64 ((t : Int) + 1) = ((t + 1 : Nat) : Int) := by rw [w64 (by omega) (by omega)]; rfl
  have r1 := rdWI_get l i hi
  have r2 := rdWI_get l k hk
  have r0 : ((rd_T42 l 0).f0.length : Int) = len0 l := rfl
  have hstep : ((∀ t' : Nat, t ≤ t' → (t' : Int) < len0 l → cel l i (t' : Int) = cel l k (t' : Int) → len0 l ≤ 1) ↔ (cel l i (t : Int) = cel l k (t : Int) → len0 l ≤ 1) ∧ (∀ t' : Nat, t + 1 ≤ t' → (t' : Int) < len0 l → cel l i (t' : Int) = cel l k (t' : Int) → len0 l ≤ 1)) := by
   constructor
   ·exact fun h => ⟨fun e => h t (Nat.le_refl _) b2 e, fun t' h1 h2 h3 => h t' (by omega) h2 h3⟩
   ·rintro ⟨h0, h⟩ t' h1 h2 h3
    rcases Nat.eq_or_lt_of_le h1 with e | e
    ·subst e; exact h0 h3
    ·exact h t' e h2 h3
  rw [hstep]
  have hcel : (rd l[i].f0 (t : Int) = rd l[k].f0 (t : Int)) ↔ cel l i (t : Int) = cel l k (t : Int) := by unfold cel; rw [r1, r2]
  by_cases c : rd l[i].f0 (t : Int) = rd l[k].f0 (t : Int)
  ·by_cases c2 : len0 l > 1
   ·refine ⟨false, 1, fun q hq => ?_, ⟨fun h => (by cases h), fun h => absurd (h.1.1 (hcel.mp c)) (by omega)⟩⟩
    obtain ⟨q, rfl⟩ : ∃ m, q = m + 1 := ⟨q - 1, by omega⟩
    simp only [spec_l13Ok.l2, r0, r1, r2, b1, b2, b3, b4, b5, b6, b7, b8, b9, c, c2, reduceIte]
   ·refine ⟨g, K + 1, fun q hq => ?_, by rw [hg]; exact ⟨fun h => ⟨⟨fun _ => by omega, h.1⟩, h.2⟩, fun h => ⟨h.1.2, h.2⟩⟩⟩
    obtain ⟨q, rfl⟩ : ∃ m, q = m + 1 := ⟨q - 1, by omega⟩
    simp only [spec_l13Ok.l2, r0, r1, r2, b1, b2, b3, b4, b5, b6, b7, b8, b9, c, c2, e9, reduceIte]
    exact h q (by omega)
  ·refine ⟨g, K + 1, fun q hq => ?_, by rw [hg]; exact ⟨fun h => ⟨⟨fun e => absurd (hcel.mpr e) c, h.1⟩, h.2⟩, fun h => ⟨h.1.2, h.2⟩⟩⟩
   obtain ⟨q, rfl⟩ : ∃ m, q = m + 1 := ⟨q - 1, by omega⟩
   simp only [spec_l13Ok.l2, r0, r1, r2, b1, b2, b3, b4, b5, b6, b7, b8, b9, c, e9, reduceIte]
   exact h q (by omega)
def OkI (l : List WI) (i k0 : Nat) : Prop := ∀ k' : Nat, k0 ≤ k' → k' < i → ∀ t' : Nat, (t' : Int) < len0 l → cel l i (t' : Int) = cel l k' (t' : Int) → len0 l ≤ 1
theorem ok_l1 (i : Nat) (hi : i < l.length) (li : ∀ j, (h : j < l.length) → j ≤ i → (l[j].f0.length : Int) = len0 l) (P : Prop) (hc : ∃ g K, (∀ q, K ≤ q → spec_l13Ok.l0 q l (wrap64 ((i : Int) + 1)) = some g) ∧ (g = true ↔ P)) :
  ∀ (d k : Nat), k + d = i → ∃ g K, (∀ q, K ≤ q → spec_l13Ok.l1 q l (i : Int) (k : Int) = some g) ∧ (g = true ↔ OkI l i k ∧ P)
 | 0, k, hk => by
  obtain ⟨g, K, h, hg⟩ := hc
  refine ⟨g, K + 1, fun q hq => ?_, ?_⟩
  ·obtain ⟨q, rfl⟩ : ∃ m, q = m + 1 := ⟨q - 1, by omega⟩
   simp only [spec_l13Ok.l1]
   rw [if_neg (by omega)]
   exact h q (by omega)
  ·rw [hg]
   exact ⟨fun h => ⟨fun k' h1 h2 => by omega, h⟩, fun h => h.2⟩
 | d + 1, k, hk => by
  have hc2 := ok_l1 i hi li P hc d (k + 1) (by omega)
  rw [show ((k + 1 : Nat) : Int) = wrap64 ((k : Int) + 1) by rw [w64 (by omega) (by omega)]; rfl] at hc2
  obtain ⟨q1, q2⟩ := len0_le l (by omega) hl
  obtain ⟨D, hD⟩ : ∃ D : Nat, (D : Int) = len0 l := ⟨(len0 l).toNat, by omega⟩
  obtain ⟨g, K, h, hg⟩ := ok_l2 l hl h10 i k hi (by omega) (li i hi (Nat.le_refl _)) (li k (by omega) (by omega)) _ hc2 D 0 (by omega)
  refine ⟨g, K + 1, fun q hq => ?_, ?_⟩
  ·obtain ⟨q, rfl⟩ : ∃ m, q = m + 1 := ⟨q - 1, by omega⟩
   simp only [spec_l13Ok.l1]
   rw [if_pos (by omega)]
   exact h q (by omega)
  ·rw [hg]
   constructor
   ·rintro ⟨h1, h2, h3⟩
    refine ⟨fun k' a1 a2 => ?_, h3⟩
    rcases Nat.eq_or_lt_of_le a1 with e | e
    ·subst e; exact fun t' => h1 t' (Nat.zero_le _)
    ·exact h2 k' e a2
   ·rintro ⟨h1, h3⟩
    exact ⟨fun t' _ => h1 k (Nat.le_refl _) (by omega) t', fun k' a1 a2 => h1 k' (by omega) a2, h3⟩
theorem ok_l0 : ∀ (d i : Nat), i + d = l.length → (∀ j, (h : j < l.length) → j < i → (l[j].f0.length : Int) = len0 l) → ∃ g K, (∀ q, K ≤ q → spec_l13Ok.l0 q l (i : Int) = some g) ∧ (g = true ↔ ∀ i' : Nat, i ≤ i' → (h : i' < l.length) → (l[i'].f0.length : Int) = len0 l ∧ OkI l i' 0)
 | 0, i, hi, hj => by
  refine ⟨true, 1, fun q hq => ?_, ⟨fun _ i' h1 h2 => by omega, fun _ => rfl⟩⟩
  obtain ⟨q, rfl⟩ : ∃ m, q = m + 1 := ⟨q - 1, by omega⟩
  simp only [spec_l13Ok.l0]
  rw [if_neg (by omega)]
 | d + 1, i, hi, hj => by
  have r1 := rdWI_get l i (by omega)
  by_cases c : (l[i].f0.length : Int) = len0 l
  ·have hj2 : ∀ j, (h : j < l.length) → j < i + 1 → (l[j].f0.length : Int) = len0 l := fun j h h1 => by
    rcases Nat.lt_or_ge j i with e | e
    ·exact hj j h e
    ·have : j = i := by omega
     subst this; exact c
   have hc := ok_l0 d (i + 1) (by omega) hj2
   rw [show ((i + 1 : Nat) : Int) = wrap64 ((i : Int) + 1) by rw [w64 (by omega) (by omega)]; rfl] at hc
   obtain ⟨g, K, h, hg⟩ := ok_l1 l hl h10 i (by omega) (fun j h h1 => hj2 j h (by omega)) _ hc i 0 (by omega)
   refine ⟨g, K + 1, fun q hq => ?_, ?_⟩
   ·obtain ⟨q, rfl⟩ : ∃ m, q = m + 1 := ⟨q - 1, by omega⟩
    simp only [spec_l13Ok.l0]
    rw [if_pos (by omega), if_pos (by omega), if_pos (by omega), r1]
    show (if (l[i].f0.length : Int) = len0 l then _ else _) = _
    rw [if_pos c]
    exact h q (by omega)
   ·rw [hg]
    constructor
    ·rintro ⟨h1, h2⟩ i' a1 a2
     rcases Nat.eq_or_lt_of_le a1 with e | e
     ·subst e; exact ⟨c, h1⟩
     ·exact h2 i' e a2
    ·intro h1
     exact ⟨(h1 i (Nat.le_refl _) (by omega)).2, fun i' a1 a2 => h1 i' (by omega) a2⟩
  ·refine ⟨false, 1, fun q hq => ?_, ⟨fun h => (by cases h), fun h => absurd (h i (Nat.le_refl _) (by omega)).1 c⟩⟩
   obtain ⟨q, rfl⟩ : ∃ m, q = m + 1 := ⟨q - 1, by omega⟩
   simp only [spec_l13Ok.l0]
   rw [if_pos (by omega), if_pos (by omega), if_pos (by omega), r1]
   show (if (l[i].f0.length : Int) = len0 l then _ else _) = _
   rw [if_neg c]
end
theorem specReg_ev (l : List WI) (hl : SzOk l) : ∃ g K, (∀ k, K ≤ k → spec_l13Ok.f k l = some g) ∧ (g = true ↔ Reg l) := by
 have hj : ∀ k, spec_l13Ok.j0 (k + 1) l true = some false := fun k => by simp only [spec_l13Ok.j0, reduceIte]
 by_cases c : 1 ≤ (l.length : Int) ∧ (l.length : Int) ≤ 10
 ·obtain ⟨q1, q2⟩ := len0_le l (by omega) hl
  by_cases z : len0 l = 0
  ·refine ⟨false, 1, fun k hk => ?_, ⟨fun h => (by cases h), fun h => absurd h.2.1 (by omega)⟩⟩
   obtain ⟨k, rfl⟩ : ∃ m, k = m + 1 := ⟨k - 1, by omega⟩
   unfold spec_l13Ok.f
   rw [l01In_eq, Option.bind_some, decide_eq_true c, if_pos rfl, if_pos (by omega)]
   show spec_l13Ok.j0 (k + 1) l (len0 l == 0) = _
   rw [z]
   exact hj k
  ·obtain ⟨g, K, h, hg⟩ := ok_l0 l hl (by omega) l.length 0 (by omega) (fun j _ h => absurd h (Nat.not_lt_zero _))
   refine ⟨g, K + 1, fun k hk => ?_, ?_⟩
   ·obtain ⟨k, rfl⟩ : ∃ m, k = m + 1 := ⟨k - 1, by omega⟩
    unfold spec_l13Ok.f
    rw [l01In_eq, Option.bind_some, decide_eq_true c, if_pos rfl, if_pos (by omega)]
    show spec_l13Ok.j0 (k + 1) l (len0 l == 0) = _
    rw [show (len0 l == 0) = false by simpa using z]
    simp only [spec_l13Ok.j0, Bool.false_eq_true, reduceIte]
    exact h k (by omega)
   ·rw [hg]
    constructor
    ·intro h1
     have ha : Alev l := ⟨by omega, by omega, fun x hx => by
      obtain ⟨i, hi, e⟩ := List.getElem_of_mem hx
      rw [← e]; exact (h1 i (Nat.zero_le _) hi).1⟩
     have hm : ∀ t : Nat, (t : Int) < len0 l → 1 < len0 l → ¬ Mt l (t : Int) := fun t ht h2 ⟨i, k, a1, a2, a3⟩ => by
      have := (h1 i (Nat.zero_le _) a2).2 k (Nat.zero_le _) a1 t ht a3
      omega
     refine ⟨ha, by omega, fun t ht => ⟨hm t (by omega) (by omega), ?_⟩⟩
     have := hm (t + 1) (by omega) (by omega)
     rwa [show ((t + 1 : Nat) : Int) = (t : Int) + 1 by omega] at this
    ·rintro ⟨ha, h2, h3⟩ i _ hi
     refine ⟨ha.2.2 _ (List.getElem_mem _), fun k _ hki t ht he => ?_⟩
     refine Classical.byContradiction fun hne => ?_
     have hmt : Mt l (t : Int) := ⟨i, k, hki, hi, he⟩
     cases t with
     | zero => exact (h3 0 (by omega)).1 hmt
     | succ t =>
      rw [show ((t + 1 : Nat) : Int) = (t : Int) + 1 by omega] at hmt
      exact (h3 t (by omega)).2 hmt
 ·refine ⟨false, 1, fun k hk => ?_, ⟨fun h => (by cases h), fun h => absurd ⟨by have := h.1.1; omega, by have := h.1.2.1; omega⟩ c⟩⟩
  obtain ⟨k, rfl⟩ : ∃ m, k = m + 1 := ⟨k - 1, by omega⟩
  unfold spec_l13Ok.f
  rw [l01In_eq, Option.bind_some, decide_eq_false c, if_neg (by decide)]
  exact hj k
end Go.Proofs.Ytbcljfbpkmlgpaa.Pure
/- Paths cut and joined at a time: what the ways of a ring swap. -/
namespace Go.Proofs.Ytbcljfbpkmlgpaa.Pure
open Go.RowKit Go.Proofs.Ytbcljfbpkmlgpaa.Q Go.Proofs.YtbcljfbpkmlgpaaW.PrintWords Go.Proofs.YtbcljfbpkmlgpaaW.PrintLast
def InR (l : List WI) (t : Int) (i : Nat) : Prop := nxt l t i ≠ (i : Int) ∧ ∃ n, 1 ≤ n ∧ itN l t i n = (i : Int)
def prd (l : List WI) (t : Int) (i : Nat) : Nat := (findI (fun z => decide (z = (i : Int))) (nextL l t)).toNat
theorem itN_neg (l : List WI) (t : Int) (i m : Nat) (h : itN l t i m = -1) : ∀ d, itN l t i (m + d) = -1
 | 0 => h
 | d + 1 => by rw [← Nat.add_assoc, itN, itN_neg l t i m h d]; rfl
theorem itN_add (l : List WI) (t : Int) (i x a : Nat) (h : itN l t i a = (x : Int)) : ∀ b, itN l t i (a + b) = itN l t x b
 | 0 => h
 | b + 1 => by rw [← Nat.add_assoc, itN, itN_add l t i x a h b, itN]
theorem itN_per (l : List WI) (t : Int) (i n : Nat) (h : itN l t i n = (i : Int)) : ∀ q, itN l t i (n * q) = (i : Int)
 | 0 => rfl
 | q + 1 => by rw [Nat.mul_succ, Nat.add_comm, itN_add l t i i n h, itN_per l t i n h q]
theorem ring_two (l : List WI) (t : Int) (i : Nat) (v : Int) (h : RingIs l t i v) : 2 ≤ v ↔ InR l t i := by
 constructor
 ·intro h2
  rcases h with ⟨h0, _⟩ | ⟨_, h1, _, h3⟩
  ·omega
  ·exact ⟨h3 h2, v.toNat, by omega, h1⟩
 ·rintro ⟨hn, n, h1, hi⟩
  rcases h with ⟨h0, m, hm⟩ | ⟨ha, _, hb, _⟩
  ·exfalso
   have hp := itN_per l t i n hi m
   have hle : m ≤ n * m := Nat.le_mul_of_pos_left m (by omega)
   have := itN_neg l t i m hm (n * m - m)
   rw [show m + (n * m - m) = n * m by omega, hp] at this
   omega
  ·rcases Int.lt_or_le v 2 with c | c
   ·exact absurd (hb (by omega)) hn
   ·exact c
section
variable (l : List WI) (t : Int) (hv : Lev l t) (hm : ¬ Mt l t) (hm1 : ¬ Mt l (t + 1)) (hl : SzOk l)
include hv hl hm
theorem itN_range (i : Nat) (hi : i < l.length) : ∀ n, itN l t i n = -1 ∨ ∃ j : Nat, j < l.length ∧ itN l t i n = (j : Int)
 | 0 => .inr ⟨i, hi, rfl⟩
 | n + 1 => by
  rcases itN_range i hi n with h | ⟨j, hj, h⟩
  ·left; rw [itN, h]; rfl
  ·rw [itN_next l t i j n h]; exact nxt_range l t hv hm hl j
include hm1
theorem prd_eq (i j : Nat) (hi : i < l.length) (hj : j < l.length) (h : nxt l t j = (i : Int)) : prd l t i = j := by
 unfold prd
 rcases findI_spec (fun z => decide (z = (i : Int))) (nextL l t) with ⟨_, h2⟩ | ⟨q, hq, h1, h2⟩
 ·have := h2 j (by rw [nextL_length]; exact hj)
  simp [nextL, h] at this
 ·rw [nextL_length] at hq
  rw [h1, Int.toNat_natCast]
  have h3 : nxt l t q = (i : Int) := by simpa [nextL] using h2
  exact nxt_inj l t hv hm hm1 hl q j i hq hj hi h3 h
theorem prd_ring (i : Nat) (hi : i < l.length) (h : InR l t i) : prd l t i < l.length ∧ nxt l t (prd l t i) = (i : Int) ∧ InR l t (prd l t i) ∧ prd l t i ≠ i := by
 obtain ⟨hn, n, h1, hin⟩ := h
 obtain ⟨m, rfl⟩ : ∃ m, n = m + 1 := ⟨n - 1, by omega⟩
 rcases itN_range l t hv hm hl i hi m with h | ⟨j, hj, h⟩
 ·rw [itN, h] at hin
  exact absurd hin (by rw [if_pos (by omega)]; omega)
 ·have hnx : nxt l t j = (i : Int) := by rw [← itN_next l t i j m h, hin]
  rw [prd_eq l t hv hm hm1 hl i j hi hj hnx]
  have hne : j ≠ i := fun e => by subst e; exact hn hnx
  have hj1 : itN l t j 1 = (i : Int) := by rw [show 1 = 0 + 1 from rfl, itN_next l t j j 0 rfl, hnx]
  exact ⟨hj, hnx, ⟨by rw [hnx]; omega, 1 + m, by omega, by rw [itN_add l t j i 1 hj1, h]⟩, hne⟩
end
open Classical in
noncomputable def pi (l : List WI) (t : Int) (i : Nat) : Nat := if InR l t i then prd l t i else i
def WI0 (l : List WI) (i : Nat) : WI := rd_T42 l (i : Int)
open Classical in
noncomputable def newW (l : List WI) (t : Nat) (i : Nat) : WI := if InR l (t : Int) i then ⟨(WI0 l i).f0.take (t + 1) ++ (WI0 l (prd l (t : Int) i)).f0.drop (t + 1)⟩ else WI0 l i
noncomputable def newL (l : List WI) (t : Nat) : List WI := (List.range l.length).map (newW l t)
theorem newL_length (l : List WI) (t : Nat) : (newL l t).length = l.length := by simp [newL]
theorem newL_get (l : List WI) (t i : Nat) (h : i < (newL l t).length) : (newL l t)[i] = newW l t i := by simp [newL]
section
variable (l : List WI) (t : Nat) (hc : Calm l (t : Int)) (hl : SzOk l)
include hc hl
theorem pi_lt (i : Nat) (hi : i < l.length) : pi l (t : Int) i < l.length := by
 unfold pi
 split
 ·rename_i h; exact (prd_ring l t hc.1 hc.2.1 hc.2.2 hl i hi h).1
 ·exact hi
theorem pi_inj (i k : Nat) (hi : i < l.length) (hk : k < l.length) (h : pi l (t : Int) i = pi l (t : Int) k) : i = k := by
 unfold pi at h
 split at h <;> split at h
 ·rename_i a b
  have h1 := (prd_ring l t hc.1 hc.2.1 hc.2.2 hl i hi a).2.1
  have h2 := (prd_ring l t hc.1 hc.2.1 hc.2.2 hl k hk b).2.1
  rw [h, h2] at h1
  omega
 ·rename_i a b
  exact absurd (h ▸ (prd_ring l t hc.1 hc.2.1 hc.2.2 hl i hi a).2.2.1) b
 ·rename_i a b
  exact absurd (h.symm ▸ (prd_ring l t hc.1 hc.2.1 hc.2.2 hl k hk b).2.2.1) a
 ·exact h
theorem wi0_len (i : Nat) (hi : i < l.length) : ((WI0 l i).f0.length : Int) = len0 l := by
 unfold WI0
 rw [rdWI_get l i hi]
 exact hc.1.2.2.2.2 _ (List.getElem_mem hi)
theorem newW_len (i : Nat) (hi : i < l.length) : ((newW l t i).f0.length : Int) = len0 l := by
 have h1 := wi0_len l t hc hl i hi
 have h4 := hc.1.2.2.2.1
 unfold newW
 split
 ·rename_i h
  have h2 := wi0_len l t hc hl _ (prd_ring l t hc.1 hc.2.1 hc.2.2 hl i hi h).1
  simp only [List.length_append, List.length_take, List.length_drop]
  omega
 ·exact h1
theorem newL_len0 : len0 (newL l t) = len0 l := by
 have h0 := hc.1.1
 rw [len0_get (newL l t) (by rw [newL_length]; omega), newL_get]
 exact newW_len l t hc hl 0 (by omega)
theorem newL_cel (i u : Nat) (hi : i < l.length) (hu : (u : Int) < len0 l) : cel (newL l t) i (u : Int) = cel l (if u ≤ t then i else pi l (t : Int) i) (u : Int) := by
 have hg := rdWI_get (newL l t) i (by rw [newL_length]; exact hi)
 have h4 := hc.1.2.2.2.1
 unfold cel
 rw [hg, newL_get]
 unfold newW pi
 by_cases h : InR l (t : Int) i
 ·rw [if_pos h, if_pos h]
  have hp := (prd_ring l t hc.1 hc.2.1 hc.2.2 hl i hi h).1
  have h1 := wi0_len l t hc hl i hi
  have h2 := wi0_len l t hc hl _ hp
  have hlt : ((WI0 l i).f0.take (t + 1)).length = t + 1 := by rw [List.length_take]; omega
  show rd ((WI0 l i).f0.take (t + 1) ++ (WI0 l (prd l (t : Int) i)).f0.drop (t + 1)) (u : Int) = _
  rw [rd_get _ u (by rw [List.length_append, hlt, List.length_drop]; omega)]
  by_cases c : u ≤ t
  ·rw [if_pos c, List.getElem_append_left (by omega), List.getElem_take]
   show _ = rd (WI0 l i).f0 (u : Int)
   rw [rd_get _ u (by omega)]
  ·rw [if_neg c, List.getElem_append_right (by omega), List.getElem_drop]
   show _ = rd (WI0 l (prd l (t : Int) i)).f0 (u : Int)
   rw [rd_get _ u (by omega)]
   congr 1
   omega
 ·rw [if_neg h, if_neg h]
  have : (if u ≤ t then i else i) = i := by split <;> rfl
  rw [this]
  rfl
theorem newL_mt (u : Nat) (hu : (u : Int) < len0 l) (h : Mt (newL l t) (u : Int)) : Mt l (u : Int) := by
 obtain ⟨i, k, h1, h2, h3⟩ := h
 rw [newL_length] at h2
 rw [newL_cel l t hc hl i u h2 hu, newL_cel l t hc hl k u (by omega) hu] at h3
 have hne : (if u ≤ t then i else pi l (t : Int) i) ≠ (if u ≤ t then k else pi l (t : Int) k) := by
  split
  ·omega
  ·intro e; have := pi_inj l t hc hl i k h2 (by omega) e; omega
 have ha : (if u ≤ t then i else pi l (t : Int) i) < l.length := by
  split
  ·exact h2
  ·exact pi_lt l t hc hl i h2
 have hb : (if u ≤ t then k else pi l (t : Int) k) < l.length := by
  split
  ·omega
  ·exact pi_lt l t hc hl k (by omega)
 rcases Nat.lt_trichotomy (if u ≤ t then i else pi l (t : Int) i) (if u ≤ t then k else pi l (t : Int) k) with c | c | c
 ·exact ⟨_, _, c, hb, h3.symm⟩
 ·exact absurd c hne
 ·exact ⟨_, _, c, ha, h3⟩
end
theorem tot_const (c : Nat) : ∀ l : List WI, (∀ x ∈ l, x.f0.length = c) → tot l = l.length * c
 | [], _ => by simp [tot]
 | x :: xs, h => by
  rw [tot, tot_const c xs (fun y hy => h y (List.mem_cons_of_mem _ hy)), h x List.mem_cons_self, List.length_cons, Nat.succ_mul]
  omega
theorem reg_calm (l : List WI) (h : Reg l) (t : Nat) (ht : (t : Int) < len0 l - 1) : Calm l (t : Int) :=
 ⟨⟨h.1.1, h.1.2.1, by omega, ht, h.1.2.2⟩, (h.2.2 t ht).1, (h.2.2 t ht).2⟩
theorem newL_alev (l : List WI) (t : Nat) (h : Reg l) (hl : SzOk l) (ht : (t : Int) < len0 l - 1) : Alev (newL l t) := by
 have hc := reg_calm l h t ht
 refine ⟨by rw [newL_length]; exact h.1.1, by rw [newL_length]; exact h.1.2.1, fun x hx => ?_⟩
 obtain ⟨i, hi, rfl⟩ := List.getElem_of_mem hx
 rw [newL_get, newL_len0 l t hc hl]
 exact newW_len l t hc hl i (by rw [newL_length] at hi; exact hi)
theorem newL_sz (l : List WI) (t : Nat) (h : Reg l) (hl : SzOk l) (ht : (t : Int) < len0 l - 1) : SzOk (newL l t) := by
 have hc := reg_calm l h t ht
 have ha := newL_alev l t h hl ht
 have h0 := h.2.1
 have e1 := tot_const (len0 l).toNat l (fun x hx => by have := h.1.2.2 x hx; omega)
 have e2 := tot_const (len0 l).toNat (newL l t) (fun x hx => by have := ha.2.2 x hx; rw [newL_len0 l t hc hl] at this; omega)
 unfold SzOk at hl ⊢
 rw [e2, newL_length, ← e1]
 exact hl
theorem newL_reg (l : List WI) (t : Nat) (h : Reg l) (hl : SzOk l) (ht : (t : Int) < len0 l - 1) : Reg (newL l t) := by
 have hc := reg_calm l h t ht
 refine ⟨newL_alev l t h hl ht, by rw [newL_len0 l t hc hl]; exact h.2.1, fun u hu => ?_⟩
 rw [newL_len0 l t hc hl] at hu
 refine ⟨fun hmt => (h.2.2 u hu).1 (newL_mt l t hc hl u (by omega) hmt), fun hmt => (h.2.2 u hu).2 ?_⟩
 have := newL_mt l t hc hl (u + 1) (by omega) (by rw [show ((u + 1 : Nat) : Int) = (u : Int) + 1 by omega]; exact hmt)
 rwa [show ((u + 1 : Nat) : Int) = (u : Int) + 1 by omega] at this
end Go.Proofs.Ytbcljfbpkmlgpaa.Pure
/- Uncrossed: what the program and the reference answer. -/
namespace Go.Proofs.Ytbcljfbpkmlgpaa.Pure
open Go.RowKit Go.Proofs.Ytbcljfbpkmlgpaa.Q Go.Proofs.YtbcljfbpkmlgpaaW.PrintWords Go.Proofs.YtbcljfbpkmlgpaaW.PrintLast
theorem specCopy_l0 (l : List WI) (hl : SzOk l) : ∀ (d i k : Nat), i + d = l.length → d < k → spec_l11Copy.l0 k l (l.take i) (i : Int) = some l
 | 0, i, k, hi, hk => by
  obtain ⟨k, rfl⟩ : ∃ m, k = m + 1 := ⟨k - 1, by omega⟩
  rw [spec_l11Copy.l0, if_neg (by omega), List.take_of_length_le (by omega)]
 | d + 1, i, k, hi, hk => by
  obtain ⟨k, rfl⟩ : ∃ m, k = m + 1 := ⟨k - 1, by omega⟩
  have hil : i < l.length := by omega
  have h1 := SzOk_len hl
  have h2 := SzOk_way hl (List.getElem_mem hil)
  have ih := specCopy_l0 l hl d (i + 1) k (by omega) (by omega)
  have h3 : ([] : List Int).length + (l[i]).f0.length < 17592186044416 := by simp only [List.length_nil]; omega
  have h4 : (l.take i).length < 5864062014805 := by rw [List.length_take]; omega
  rw [spec_l11Copy.l0, if_pos (by omega), Option.bind_some, if_pos (by omega), rdWI_get l i hil, if_pos h3, if_pos h4, show wrap64 ((i : Int) + 1) = ((i + 1 : Nat) : Int) from w64 (by omega) (by omega), List.nil_append]
  rw [List.take_succ_eq_append_getElem hil] at ih
  exact ih
theorem specCopy_ev (l : List WI) (hl : SzOk l) (k : Nat) (hk : l.length < k) : spec_l11Copy.f k l = some l := specCopy_l0 l hl l.length 0 k (by omega) hk
theorem implCopy_l0 (l : List WI) (hl : SzOk l) : ∀ (d i k : Nat), i + d = l.length → d < k → impl_copyWays.l0 k (l.take i) l (l.length : Int) (i : Int) = some l
 | 0, i, k, hi, hk => by
  obtain ⟨k, rfl⟩ : ∃ m, k = m + 1 := ⟨k - 1, by omega⟩
  rw [impl_copyWays.l0, if_neg (by omega), List.take_of_length_le (by omega)]
 | d + 1, i, k, hi, hk => by
  obtain ⟨k, rfl⟩ : ∃ m, k = m + 1 := ⟨k - 1, by omega⟩
  have hil : i < l.length := by omega
  have h1 := SzOk_len hl
  have h2 := SzOk_way hl (List.getElem_mem hil)
  have ih := implCopy_l0 l hl d (i + 1) k (by omega) (by omega)
  have h3 : (l[i]).f0.length < 17592186044416 := by omega
  have h4 : (l.take i).length < 5864062014805 := by rw [List.length_take]; omega
  rw [impl_copyWays.l0, if_pos (by omega), if_pos (by omega), if_pos (by omega), rdWI_get l i hil, slices_Clone_int_int.f, if_pos h3, Option.bind_some, if_pos h4, show wrap64 ((i : Int) + 1) = ((i + 1 : Nat) : Int) from w64 (by omega) (by omega)]
  rw [List.take_succ_eq_append_getElem hil] at ih
  exact ih
theorem implCopy_ev (l : List WI) (hl : SzOk l) (k : Nat) (hk : l.length < k) : impl_copyWays.f k l = some l := implCopy_l0 l hl l.length 0 k (by omega) hk
theorem index_at (l : List Int) (c : Int) (hn : l.length ≤ 1048576) (j : Nat) (hj : j < l.length) (he : l[j] = c) (hu : ∀ (q : Nat) (h : q < l.length), l[q] = c → q = j) : ∀ (d i k : Nat), i + d = j → d < k → slices_Index_int_int.l0 k l c (l.length : Int) (i : Int) = some (j : Int)
 | 0, i, k, hi, hk => by
  obtain ⟨k, rfl⟩ : ∃ m, k = m + 1 := ⟨k - 1, by omega⟩
  obtain rfl : i = j := by omega
  rw [slices_Index_int_int.l0, if_pos (by omega), if_pos (by omega), if_pos (by omega), rd_get l i hj, if_pos he.symm]
 | d + 1, i, k, hi, hk => by
  obtain ⟨k, rfl⟩ : ∃ m, k = m + 1 := ⟨k - 1, by omega⟩
  have ih := index_at l c hn j hj he hu d (i + 1) k (by omega) (by omega)
  have hne : ¬ c = l[i]'(by omega) := fun e => by have := hu i (by omega) e.symm; omega
  rw [slices_Index_int_int.l0, if_pos (by omega), if_pos (by omega), if_pos (by omega), rd_get l i (by omega), if_neg hne, show wrap64 ((i : Int) + 1) = ((i + 1 : Nat) : Int) from w64 (by omega) (by omega)]
  exact ih
noncomputable def curA (l : List WI) (t i : Nat) : List WI := (newL l t).take i ++ l.drop i
theorem curA_zero (l : List WI) (t : Nat) : curA l t 0 = l := by simp [curA]
theorem curA_end (l : List WI) (t : Nat) : curA l t l.length = newL l t := by
 unfold curA
 rw [List.drop_of_length_le (Nat.le_refl _), List.append_nil, List.take_of_length_le (by rw [newL_length]; omega)]
theorem curA_length (l : List WI) (t i : Nat) (hi : i ≤ l.length) : (curA l t i).length = l.length := by
 unfold curA
 rw [List.length_append, List.length_take, List.length_drop, newL_length]
 omega
theorem curA_step (l : List WI) (t i : Nat) (hi : i < l.length) : (curA l t i).set i (newW l t i) = curA l t (i + 1) := by
 have hn : i < (newL l t).length := by rw [newL_length]; exact hi
 have hlt : ((newL l t).take i).length = i := by rw [List.length_take, newL_length]; omega
 unfold curA
 rw [List.take_succ_eq_append_getElem hn, newL_get, drop_cons l i hi, List.set_append_right _ _ (by omega), hlt, Nat.sub_self, List.set_cons_zero, List.append_assoc]
 rfl
theorem curA_same (l : List WI) (t i : Nat) (hi : i < l.length) (h : newW l t i = l[i]) : curA l t i = curA l t (i + 1) := by
 have hn : i < (newL l t).length := by rw [newL_length]; exact hi
 unfold curA
 rw [List.take_succ_eq_append_getElem hn, newL_get, drop_cons l i hi, List.append_assoc, h]
 rfl
section
variable (x0 l : List WI) (t : Nat) (hc : Calm l (t : Int)) (hl : SzOk l) (v : List WI × Bool)
include hc hl
set_option maxHeartbeats 2000000 in
theorem specUn_l2 (i : Nat) (hi : i < l.length) (hin : InR l (t : Int) i) (K : Nat) (hk1 : ∀ k, K ≤ k → spec_Uncrossed.l1 k x0 l (t : Int) (curA l t (i + 1)) ((i + 1 : Nat) : Int) = some v) :
  ∀ (d j k : Nat), j + d = l.length → K + d + 1 ≤ k → spec_Uncrossed.l2 k x0 l (t : Int) (if prd l (t : Int) i < j then curA l t (i + 1) else curA l t i) (i : Int) (j : Int) = some v
 | 0, j, k, hj, hk => by
  obtain ⟨k, rfl⟩ : ∃ m, k = m + 1 := ⟨k - 1, by omega⟩
  obtain ⟨p1, p2, p3, p4⟩ := prd_ring l (t : Int) hc.1 hc.2.1 hc.2.2 hl i hi hin
  have e9 : wrap64 ((i : Int) + 1) = ((i + 1 : Nat) : Int) := by have := hc.1.2.1; rw [w64 (by omega) (by omega)]; rfl
  simp only [spec_Uncrossed.l2]
  rw [if_neg (by omega), if_pos (by omega), e9]
  exact hk1 k (by omega)
 | d + 1, j, k, hj, hk => by
  obtain ⟨k, rfl⟩ : ∃ m, k = m + 1 := ⟨k - 1, by omega⟩
  obtain ⟨p1, p2, p3, p4⟩ := prd_ring l (t : Int) hc.1 hc.2.1 hc.2.2 hl i hi hin
  have hjl : j < l.length := by omega
  have h10 := hc.1.2.1
  have ht := hc.1.2.2.2.1
  obtain ⟨q1, q2⟩ := len0_le l (by omega) hl
  have lj := hc.1.2.2.2.2 l[j] (List.getElem_mem hjl)
  have li := hc.1.2.2.2.2 l[i] (List.getElem_mem hi)
  have b1 : (j : Int) < (l.length : Int) := by omega
  have b2 : (0 : Int) ≤ (j : Int) := by omega
  have b3 : (0 : Int) ≤ ((t + 1 : Nat) : Int) := by omega
  have b4 : ((t + 1 : Nat) : Int) < ((l[j]).f0.length : Int) := by omega
  have b5 : (0 : Int) ≤ (i : Int) := by omega
  have b6 : (i : Int) < (l.length : Int) := by omega
  have b7 : (0 : Int) ≤ (t : Int) := by omega
  have b8 : (t : Int) < ((l[i]).f0.length : Int) := by omega
  have b9 : ((t + 1 : Nat) : Int) ≤ ((l[i]).f0.length : Int) := by omega
  have b10 : ((t + 1 : Nat) : Int) ≤ ((l[j]).f0.length : Int) := by omega
  have b11 : ([] : List Int).length + ((l[i]).f0.take (((t + 1 : Nat) : Int)).toNat).length < 17592186044416 := by rw [List.length_take, List.length_nil]; omega
  have b12 : (([] : List Int) ++ (l[i]).f0.take (((t + 1 : Nat) : Int)).toNat).length + ((l[j]).f0.drop (((t + 1 : Nat) : Int)).toNat).length < 17592186044416 := by rw [List.nil_append, List.length_take, List.length_drop]; omega
  have e8 : wrap64 ((t : Int) + 1) = ((t + 1 : Nat) : Int) := by rw [w64 (by omega) (by omega)]; rfl
  have e9 : wrap64 ((j : Int) + 1) = ((j + 1 : Nat) : Int) := by clear e8; rw [w64 (by omega) (by omega)]; rfl
  have ih := specUn_l2 i hi hin K hk1 d (j + 1) k (by clear e8 e9; omega) (by clear e8 e9; omega)
  have hcl := curA_length l t i (Nat.le_of_lt hi)
  have hst := curA_step l t i hi
  have hiff := nxt_iff l (t : Int) hc.1 hc.2.1 hl j i hi
  have r1 := rdWI_get l j hjl
  have r2 := rdWI_get l i hi
  unfold cel at hiff
  rw [r1, r2] at hiff
  have hpe := prd_eq l (t : Int) hc.1 hc.2.1 hc.2.2 hl i j hi hjl
  have hw : prd l (t : Int) i = j → (⟨([] : List Int) ++ (l[i]).f0.take (((t + 1 : Nat) : Int)).toNat ++ (l[j]).f0.drop (((t + 1 : Nat) : Int)).toNat⟩ : WI) = newW l t i := fun hjp => by
   unfold newW WI0
   rw [if_pos hin, hjp, r1, r2, Int.toNat_natCast, List.nil_append]
  clear hk1 hk hj h10 ht q1 q2 lj li p1 p3 p4 hc hl
  rw [spec_Uncrossed.l2, if_pos b1, if_pos b2, e8, if_pos b3, r1, r2, if_pos b4, if_pos b5, if_pos b6, if_pos b7, if_pos b8, e9]
  by_cases c : rd (l[i]).f0 (t : Int) = rd (l[j]).f0 ((t : Int) + 1)
  ·have hn := hiff.mp c
   have hjp : prd l (t : Int) i = j := hpe hn
   have c' : rd (l[j]).f0 ((t + 1 : Nat) : Int) = rd (l[i]).f0 (t : Int) := c.symm
   have n1 : ¬ prd l (t : Int) i < j := by rw [hjp]; exact Nat.lt_irrefl j
   have n2 : prd l (t : Int) i < j + 1 := by rw [hjp]; exact Nat.lt_succ_self j
   have b13 : (i : Int) < ((curA l t i).length : Int) := by rw [hcl]; exact b6
   rw [if_neg n1, if_pos c', Option.bind_some, if_pos b9, Option.bind_some, if_pos b11, Option.bind_some, if_pos b10, Option.bind_some, if_pos b12, if_pos b13, hw hjp, Int.toNat_natCast, hst]
   rw [if_pos n2] at ih
   exact ih
  ·have hn : ¬ nxt l (t : Int) j = (i : Int) := fun h => c (hiff.mpr h)
   have hjp : prd l (t : Int) i ≠ j := fun h => hn (by rw [← h]; exact p2)
   have c' : ¬ rd (l[j]).f0 ((t + 1 : Nat) : Int) = rd (l[i]).f0 (t : Int) := fun h => c h.symm
   rw [if_neg c']
   by_cases c2 : prd l (t : Int) i < j
   ·rw [if_pos c2]
    rw [if_pos (Nat.lt_succ_of_lt c2)] at ih
    exact ih
   ·rw [if_neg c2]
    rw [if_neg (fun h => c2 (Nat.lt_of_le_of_ne (Nat.le_of_lt_succ h) hjp))] at ih
    exact ih
set_option maxHeartbeats 2000000 in
theorem un_l1 (K : Nat) (hk0 : ∀ k, K ≤ k → spec_Uncrossed.l0 k x0 (newL l t) ((t + 1 : Nat) : Int) = some v ∧ impl_Uncrossed.l0 k x0 (newL l t) ((t + 1 : Nat) : Int) = some v) :
  ∀ (d i : Nat), i + d = l.length → ∃ K, ∀ k, K ≤ k → spec_Uncrossed.l1 k x0 l (t : Int) (curA l t i) (i : Int) = some v ∧ impl_Uncrossed.l1 k x0 (curA l t i) (t : Int) l (nextL l (t : Int)) (l.length : Int) (i : Int) = some v
 | 0, i, hi => by
  have ht := hc.1.2.2.2.1
  have h10 := hc.1.2.1
  have h1 := hc.1.1
  obtain ⟨q1, q2⟩ := len0_le l (by omega) hl
  have e8 : wrap64 ((t : Int) + 1) = ((t + 1 : Nat) : Int) := by rw [w64 (by omega) (by omega)]; rfl
  refine ⟨K + 1, fun k hk => ?_⟩
  obtain ⟨k, rfl⟩ : ∃ m, k = m + 1 := ⟨k - 1, by omega⟩
  have h := hk0 k (by omega)
  rw [show i = l.length by omega, curA_end, spec_Uncrossed.l1, impl_Uncrossed.l1, if_neg (by omega), if_neg (by omega), e8]
  exact h
 | d + 1, i, hi => by
  have hil : i < l.length := by omega
  have ht := hc.1.2.2.2.1
  have h10 := hc.1.2.1
  have h1 := hc.1.1
  obtain ⟨q1, q2⟩ := len0_le l (by omega) hl
  have e8 : wrap64 ((t : Int) + 1) = ((t + 1 : Nat) : Int) := by rw [w64 (by omega) (by omega)]; rfl
  have e9 : wrap64 ((i : Int) + 1) = ((i + 1 : Nat) : Int) := by rw [w64 (by omega) (by omega)]; rfl
  obtain ⟨K1, ih⟩ := un_l1 K hk0 d (i + 1) (by omega)
  obtain ⟨r, K2, hr, r0, r1, hR⟩ := ring_evM l (t : Int) hc.1 hc.2.1 hc.2.2 hl i hil
  have b1 : (i : Int) < (l.length : Int) := by omega
  by_cases c : r < 2
  ·have hnr : ¬ InR l (t : Int) i := fun h => by have := (ring_two l (t : Int) i r hR).mpr h; omega
   have hsame : curA l t i = curA l t (i + 1) := curA_same l t i hil (by unfold newW WI0; rw [if_neg hnr, rdWI_get l i hil])
   refine ⟨K1 + K2 + 1, fun k hk => ?_⟩
   obtain ⟨k, rfl⟩ : ∃ m, k = m + 1 := ⟨k - 1, by omega⟩
   obtain ⟨s1, s2⟩ := hr k (by omega)
   rw [spec_Uncrossed.l1, impl_Uncrossed.l1, if_pos b1, if_pos b1, s1, s2, Option.bind_some, Option.bind_some, if_pos c, if_pos c, e9, hsame]
   exact ih k (by omega)
  ·have hin : InR l (t : Int) i := (ring_two l (t : Int) i r hR).mp (by omega)
   obtain ⟨p1, p2, p3, p4⟩ := prd_ring l (t : Int) hc.1 hc.2.1 hc.2.2 hl i hil hin
   refine ⟨K1 + K2 + l.length + 4, fun k hk => ?_⟩
   obtain ⟨k, rfl⟩ : ∃ m, k = m + 1 := ⟨k - 1, by omega⟩
   obtain ⟨s1, s2⟩ := hr k (by omega)
   have hidx : slices_Index_int_int.f k (nextL l (t : Int)) (i : Int) = some ((prd l (t : Int) i : Nat) : Int) := by
    refine index_at (nextL l (t : Int)) (i : Int) (by rw [nextL_length]; omega) (prd l (t : Int) i) (by rw [nextL_length]; exact p1) (by simp only [nextL, List.getElem_map, List.getElem_range]; exact p2) (fun q hq h => ?_) (prd l (t : Int) i) 0 k (by omega) (by omega)
    rw [nextL_length] at hq
    have h' : nxt l (t : Int) q = (i : Int) := by simpa only [nextL, List.getElem_map, List.getElem_range] using h
    exact (prd_eq l (t : Int) hc.1 hc.2.1 hc.2.2 hl i q hil hq h').symm
   have lj := hc.1.2.2.2.2 (l[prd l (t : Int) i]) (List.getElem_mem p1)
   have li := hc.1.2.2.2.2 l[i] (List.getElem_mem hil)
   have g1 := rdWI_get l (prd l (t : Int) i) p1
   have g2 := rdWI_get l i hil
   have b2 : (0 : Int) ≤ (i : Int) := by omega
   have b3 : (0 : Int) ≤ ((t + 1 : Nat) : Int) := by omega
   have b4 : ((t + 1 : Nat) : Int) ≤ ((l[i]).f0.length : Int) := by omega
   have b5 : ((l[i]).f0.take (((t + 1 : Nat) : Int)).toNat).length < 17592186044416 := by rw [List.length_take]; omega
   have b6 : (0 : Int) ≤ ((prd l (t : Int) i : Nat) : Int) := by omega
   have b7 : ((prd l (t : Int) i : Nat) : Int) < (l.length : Int) := by omega
   have b8 : ((t + 1 : Nat) : Int) ≤ ((l[prd l (t : Int) i]).f0.length : Int) := by omega
   have b9 : ((l[i]).f0.take (((t + 1 : Nat) : Int)).toNat).length + ((l[prd l (t : Int) i]).f0.drop (((t + 1 : Nat) : Int)).toNat).length < 17592186044416 := by rw [List.length_take, List.length_drop]; omega
   have b10 : (i : Int) < ((curA l t i).length : Int) := by rw [curA_length l t i (by omega)]; exact b1
   have hw : (⟨(l[i]).f0.take (((t + 1 : Nat) : Int)).toNat ++ (l[prd l (t : Int) i]).f0.drop (((t + 1 : Nat) : Int)).toNat⟩ : WI) = newW l t i := by
    unfold newW WI0
    rw [if_pos hin, g1, g2, Int.toNat_natCast]
   constructor
   ·rw [spec_Uncrossed.l1, if_pos b1, s1, Option.bind_some, if_neg c]
    have := specUn_l2 x0 l t hc hl v i hil hin K1 (fun k hk => (ih k hk).1) l.length 0 k (by omega) (by omega)
    rw [if_neg (by omega)] at this
    exact this
   ·rw [impl_Uncrossed.l1, if_pos b1, s2, Option.bind_some, if_neg c, hidx, Option.bind_some, if_pos b2, if_pos b1, e8, if_pos b3, g2, if_pos b4, slices_Clone_int_int.f, if_pos b5, Option.bind_some, if_pos b6, if_pos b7, g1, if_pos b8, Option.bind_some, if_pos b9, if_pos b10, hw, Int.toNat_natCast, curA_step l t i hil, e9]
    exact (ih k (by omega)).2
end
theorem un_l0 (x0 : List WI) (hx0 : 0 < x0.length) : ∀ (d t : Nat) (l : List WI), Reg l → SzOk l → len0 l = len0 x0 → (t : Int) + d = len0 l - 1 → ∃ g K, (∀ k, K ≤ k → spec_Uncrossed.l0 k x0 l (t : Int) = some (g, true) ∧ impl_Uncrossed.l0 k x0 l (t : Int) = some (g, true)) ∧ SzOk g
 | 0, t, l, hr, hl, hx, ht => by
  obtain ⟨q1, q2⟩ := len0_le l (by have := hr.1.1; omega) hl
  have e8 : wrap64 ((t : Int) + 1) = ((t + 1 : Nat) : Int) := by rw [w64 (by omega) (by omega)]; rfl
  have e7 : wrap64 (len0 x0 - 1) = len0 x0 - 1 := w64 (by omega) (by omega)
  refine ⟨l, 1, fun k hk => ?_, hl⟩
  obtain ⟨k, rfl⟩ : ∃ m, k = m + 1 := ⟨k - 1, by omega⟩
  have a0 : 0 < (x0.length : Int) := by omega
  have a1 : ¬ (((t + 1 : Nat) : Int)) < len0 x0 := by omega
  have a2 : ¬ ((t : Int)) < len0 x0 - 1 := by omega
  unfold len0 at e7 a1 a2
  rw [spec_Uncrossed.l0, impl_Uncrossed.l0, if_pos a0, if_pos a0, e8, e7, if_neg a1, if_neg a2]
  exact ⟨rfl, rfl⟩
 | d + 1, t, l, hr, hl, hx, ht => by
  obtain ⟨q1, q2⟩ := len0_le l (by have := hr.1.1; omega) hl
  have hc := reg_calm l hr t (by omega)
  have e8 : wrap64 ((t : Int) + 1) = ((t + 1 : Nat) : Int) := by rw [w64 (by omega) (by omega)]; rfl
  have e7 : wrap64 (len0 x0 - 1) = len0 x0 - 1 := w64 (by omega) (by omega)
  have hn0 := newL_len0 l t hc hl
  obtain ⟨g, K0, h0, hs⟩ := un_l0 x0 hx0 d (t + 1) (newL l t) (newL_reg l t hr hl (by omega)) (newL_sz l t hr hl (by omega)) (by rw [hn0, hx]) (by rw [hn0]; omega)
  obtain ⟨K1, h1⟩ := un_l1 x0 l t hc hl (g, true) K0 h0 l.length 0 (by omega)
  obtain ⟨K2, h2⟩ := (implNext_ev l (t : Int) hl).1 hc
  refine ⟨g, K1 + K2 + l.length + 2, fun k hk => ?_, hs⟩
  obtain ⟨k, rfl⟩ : ∃ m, k = m + 1 := ⟨k - 1, by omega⟩
  have h3 := h1 k (by omega)
  rw [curA_zero] at h3
  have a0 : 0 < (x0.length : Int) := by omega
  have a1 : (((t + 1 : Nat) : Int)) < len0 x0 := by omega
  have a2 : ((t : Int)) < len0 x0 - 1 := by omega
  unfold len0 at e7 a1 a2
  rw [spec_Uncrossed.l0, impl_Uncrossed.l0, if_pos a0, if_pos a0, e8, e7, if_pos a1, if_pos a2, specCopy_ev l hl k (by omega), implCopy_ev l hl k (by omega), Option.bind_some, Option.bind_some, h2 k (by omega), Option.bind_some]
  exact h3
theorem uncrossed_ev (l : List WI) (hl : SzOk l) : ∃ g b K, (∀ k, K ≤ k → spec_Uncrossed.f k l = some (g, b) ∧ impl_Uncrossed.f k l = some (g, b)) ∧ SzOk g := by
 obtain ⟨b1, K1, h1, i1⟩ := specReg_ev l hl
 obtain ⟨b2, K2, h2, i2⟩ := implReg_ev l hl
 by_cases hr : Reg l
 ·obtain rfl := i1.mpr hr
  obtain rfl := i2.mpr hr
  have hn : 0 < l.length := by have := hr.1.1; omega
  obtain ⟨g, K0, h0, hs⟩ := un_l0 l hn (len0 l - 1).toNat 0 l hr hl rfl (by have := hr.2.1; omega)
  refine ⟨g, true, K0 + K1 + K2 + l.length + 1, fun k hk => ?_, hs⟩
  rw [spec_Uncrossed.f, impl_Uncrossed.f, h1 k (by omega), h2 k (by omega), Option.bind_some, Option.bind_some, if_pos rfl, if_pos rfl, specCopy_ev l hl k (by omega), implCopy_ev l hl k (by omega), Option.bind_some, Option.bind_some]
  exact h0 k (by omega)
 ·have e1 : b1 = false := by cases b1 with | false => rfl | true => exact absurd (i1.mp rfl) hr
  have e2 : b2 = false := by cases b2 with | false => rfl | true => exact absurd (i2.mp rfl) hr
  subst e1
  subst e2
  refine ⟨[], false, K1 + K2, fun k hk => ?_, by unfold SzOk tot; decide⟩
  rw [spec_Uncrossed.f, impl_Uncrossed.f, h1 k (by omega), h2 k (by omega), Option.bind_some, Option.bind_some, if_neg (by decide), if_neg (by decide)]
  exact ⟨rfl, rfl⟩
end Go.Proofs.Ytbcljfbpkmlgpaa.Pure
/- Plain facts about the law's helpers over whole numbers: what marking and holding answer. -/
namespace Go.Proofs.Ytbcljfbpkmlgpaa.Pure
open Go.RowKit Go.Proofs.Ytbcljfbpkmlgpaa.Q Go.Proofs.YtbcljfbpkmlgpaaW.PrintWords Go.Proofs.YtbcljfbpkmlgpaaW.PrintLast

theorem heldIntS_l0 (l : List Int) (hn : l.length ≤ 9223372036854775807) : ∀ (d i k : Nat) (q : Int), i + d = l.length → l.drop i = iota q d → 0 ≤ q → q + d ≤ 9223372036854775807 → d < k →
  laws_heldIntS.l0 k l q (i : Int) = some (q + d)
 | 0, i, k, q, hi, he, h0, hm, hk => by
  obtain ⟨k, rfl⟩ : ∃ m, k = m + 1 := ⟨k - 1, by omega⟩
  simp only [laws_heldIntS.l0]
  rw [if_neg (by omega)]
  simp
 | d + 1, i, k, q, hi, he, h0, hm, hk => by
  obtain ⟨k, rfl⟩ : ∃ m, k = m + 1 := ⟨k - 1, by omega⟩
  rw [drop_cons l i (by omega), iota] at he
  injection he with he1 he2
  simp only [laws_heldIntS.l0]
  rw [if_pos (by omega), if_pos (by omega), rd_get l i (by omega), if_pos he1, w64 (by omega) (by omega), w64 (by omega) (by omega), show ((i : Int) + 1) = ((i + 1 : Nat) : Int) by omega,
   heldIntS_l0 l hn d (i + 1) k (q + 1) (by omega) he2 (by omega) (by omega) (by omega)]
  congr 1
  omega
theorem heldIntS_ev (n : Nat) (q : Int) (hn : n ≤ 9223372036854775807) (h0 : 0 ≤ q) (hm : q + n ≤ 9223372036854775807) : ∃ K, ∀ k, K ≤ k → laws_heldIntS.f k (iota q n) q = some (q + n) := by
 refine ⟨n + 1, fun k hk => ?_⟩
 have := heldIntS_l0 (iota q n) (by rw [iota_length]; exact hn) n 0 k q (by rw [iota_length]; omega) rfl h0 hm (by omega)
 simpa [laws_heldIntS.f] using this
end Go.Proofs.Ytbcljfbpkmlgpaa.Pure
