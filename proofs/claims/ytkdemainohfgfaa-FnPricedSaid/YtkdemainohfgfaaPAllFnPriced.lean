/- The plain facts of this claim, in their order. -/
import Derived.Test.YtkdemainohfgfaaQ0
import Derived.Test.YtkdemainohfgfaaQ12
import Derived.Test.YtkdemainohfgfaaQ1
import Derived.Test.YtkdemainohfgfaaQ9
import Derived.Laws.Bits128
import Derived.Test.YtkdemainohfgfaaQ10
import Derived.Test.YtkdemainohfgfaaQ5
import Derived.Test.YtkdemainohfgfaaQ3
import Derived.Test.YtkdemainohfgfaaQ7
import Derived.Test.YtkdemainohfgfaaQ11
import Derived.Test.YtkdemainohfgfaaQ4
import Derived.Test.YtkdemainohfgfaaQ6
import Derived.Test.YtkdemainohfgfaaQ8
import Derived.Test.YtkdemainohfgfaaQ13
set_option linter.unusedSimpArgs false
set_option linter.unusedSectionVars false
set_option linter.unusedVariables false
/- Plain facts that all the proofs share. -/
namespace Go.Proofs.Ytkdemainohfgfaa.Pure
open Go.RowKit Go.Proofs.Ytkdemainohfgfaa.Q Go.Proofs.YtkdemainohfgfaaW.PrintWords Go.Proofs.YtkdemainohfgfaaW.PrintLast

theorem w64 {x : Int} (h0 : -9223372036854775808 ≤ x) (h1 : x ≤ 9223372036854775807) : wrap64 x = x := by unfold wrap64; omega
theorem rd_get (l : List Int) (i : Nat) (h : i < l.length) : rd l (i : Int) = l[i] := by simp [rd, h]
theorem drop_cons {α : Type} (l : List α) (i : Nat) (h : i < l.length) : l.drop i = l[i] :: l.drop (i + 1) := List.drop_eq_getElem_cons h
def iota (m : Int) : Nat → List Int
 | 0 => []
 | d + 1 => m :: iota (m + 1) d
end Go.Proofs.Ytkdemainohfgfaa.Pure
/- A number between two others. -/
namespace Go.Proofs.Ytkdemainohfgfaa.Pure
open Go.RowKit Go.Proofs.Ytkdemainohfgfaa.Q Go.Proofs.YtkdemainohfgfaaW.PrintWords Go.Proofs.YtkdemainohfgfaaW.PrintLast
theorem l01In_eq (a b c : Int) : spec_l01In.f a b c = some (decide (b ≤ a ∧ a ≤ c)) := by
 unfold spec_l01In.f
 by_cases h : a ≥ b
 ·rw [if_pos h]; congr 1; exact decide_eq_decide.mpr ⟨fun h2 => ⟨h, h2⟩, fun h2 => h2.2⟩
 ·rw [if_neg h, decide_eq_false (fun h2 => h h2.1)]
end Go.Proofs.Ytkdemainohfgfaa.Pure
/- Nets: when they are right, as the program and the reference tell it. -/
namespace Go.Proofs.Ytkdemainohfgfaa.Pure
open Go.RowKit Go.Proofs.Ytkdemainohfgfaa.Q Go.Proofs.YtkdemainohfgfaaW.PrintWords Go.Proofs.YtkdemainohfgfaaW.PrintLast
abbrev AI := S53
theorem rdA_get (l : List AI) (i : Nat) (h : i < l.length) : rd_T53 l (i : Int) = l[i] := by simp [rd_T53, h]
def Aok (n : Int) (x : AI) : Prop := (0 ≤ x.f0 ∧ x.f0 < n) ∧ (0 ≤ x.f1 ∧ x.f1 < n) ∧ x.f0 ≠ x.f1 ∧ (0 ≤ x.f2 ∧ x.f2 ≤ 20) ∧ (0 ≤ x.f3 ∧ x.f3 ≤ 100)
def AFrom (n : Int) (l : List AI) (i : Nat) : Prop := ∀ j : Nat, i ≤ j → (h : j < l.length) → Aok n l[j]
theorem AFrom_step (n : Int) (l : List AI) (i : Nat) (hi : i < l.length) : AFrom n l i ↔ Aok n l[i] ∧ AFrom n l (i + 1) := by
 constructor
 ·exact fun h => ⟨h i (Nat.le_refl _) hi, fun j h1 => h j (by omega)⟩
 ·rintro ⟨h0, h⟩ j h1 h2
  rcases Nat.eq_or_lt_of_le h1 with e | e
  ·subst e; exact h0
  ·exact h j e h2
def Nok (n : Int) (l : List AI) : Prop := (2 ≤ n ∧ n ≤ 1500) ∧ l.length ≤ 3200 ∧ AFrom n l 0
theorem net_l0 (n : Int) (l : List AI) (hn : 2 ≤ n ∧ n ≤ 1500) (hl : l.length ≤ 3200) : ∀ (d i : Nat), i + d = l.length → ∃ g K, (∀ k, K ≤ k → spec_NetOk.l0 k (i : Int) n l = some g ∧ impl_NetOk.l0 k l (l.length : Int) (i : Int) n l = some g) ∧ (g = true ↔ AFrom n l i)
 | 0, i, hi => by
  refine ⟨true, 1, fun k hk => ?_, ⟨fun _ j h1 h2 => by omega, fun _ => rfl⟩⟩
  obtain ⟨k, rfl⟩ : ∃ m, k = m + 1 := ⟨k - 1, by omega⟩
  have e1 : ¬ (i : Int) < (l.length : Int) := by omega
  simp only [spec_NetOk.l0, impl_NetOk.l0, e1, reduceIte, and_self]
 | d + 1, i, hi => by
  obtain ⟨g, K, h, hg⟩ := net_l0 n l hn hl d (i + 1) (by omega)
  have e1 : (i : Int) < (l.length : Int) := by omega
  have e2 : (0 : Int) ≤ i := by omega
  have e8 : wrap64 (n - 1) = n - 1 := w64 (by omega) (by omega)
  have e9 : wrap64 ((i : Int) + 1) = ((i + 1 : Nat) : Int) := by rw [w64 (by omega) (by omega)]; rfl
  rw [AFrom_step n l i (by omega)]
  have r1 := rdA_get l i (show i < l.length by omega)
  have hL : l[i]'(by omega) = l[i]'(by omega) := rfl
  generalize l[i]'(by omega) = x at r1 ⊢
  clear hL
  by_cases hA : Aok n x
  ·obtain ⟨⟨a1, a2⟩, ⟨a3, a4⟩, a5, ⟨a6, a7⟩, ⟨a8, a9⟩⟩ := id hA
   refine ⟨g, K + 2, fun k hk => ?_, by rw [hg]; exact ⟨fun h => ⟨hA, h⟩, fun h => h.2⟩⟩
   obtain ⟨k, rfl⟩ : ∃ m, k = m + 2 := ⟨k - 2, by omega⟩
   obtain ⟨h1, h2⟩ := h k (by omega)
   obtain ⟨h3, h4⟩ := h (k + 1) (by omega)
   have b1 : ¬ x.f0 < 0 := by clear h hg; omega
   have b2 : ¬ x.f0 ≥ n := by clear h hg; omega
   have b3 : ¬ x.f1 < 0 := by clear h hg; omega
   have b4 : ¬ x.f1 ≥ n := by clear h hg; omega
   have b6 : ¬ x.f2 < 0 := by clear h hg; omega
   have b7 : ¬ x.f2 > 20 := by clear h hg; omega
   have b8 : ¬ x.f3 < 0 := by clear h hg; omega
   have b9 : ¬ x.f3 > 100 := by clear h hg; omega
   have c1 : (0 ≤ x.f0 ∧ x.f0 ≤ n - 1) := by clear h hg; omega
   have c2 : (0 ≤ x.f1 ∧ x.f1 ≤ n - 1) := by clear h hg; omega
   have b5 : (x.f0 == x.f1) = false := by simpa using a5
   constructor
   ·clear h2
    rw [show k + 2 = (k + 1) + 1 from rfl]
    generalize k + 1 = k1 at h3 ⊢
    simp only [spec_NetOk.l0, r1, e1, e2, e9, e8, l01In_eq, Option.bind_some, c1, c2, a5, a6, a7, a8, a9, and_self, decide_true, reduceIte]
    exact h3
   ·simp only [impl_NetOk.l0, impl_NetOk.j2, r1, e1, e2, e9, b1, b2, b3, b4, b5, b6, b7, b8, b9, Bool.false_eq_true, reduceIte]
    exact h2
  ·refine ⟨false, 2, fun k hk => ?_, ⟨fun h => (by cases h), fun h => absurd h.1 hA⟩⟩
   obtain ⟨k, rfl⟩ : ∃ m, k = m + 2 := ⟨k - 2, by omega⟩
   clear h hg
   constructor
   ·simp only [spec_NetOk.l0, r1, e1, e2, e8, l01In_eq, Option.bind_some, reduceIte]
    by_cases c1 : (0 ≤ x.f0 ∧ x.f0 ≤ n - 1)
    ·by_cases c2 : (0 ≤ x.f1 ∧ x.f1 ≤ n - 1)
     ·by_cases c3 : x.f0 = x.f1
      ·rw [decide_eq_true c1, decide_eq_true c2]
       simp only [c3, reduceIte]
      ·by_cases c4 : (0 ≤ x.f2 ∧ x.f2 ≤ 20)
       ·by_cases c5 : (0 ≤ x.f3 ∧ x.f3 ≤ 100)
        ·exact absurd ⟨⟨c1.1, by omega⟩, ⟨c2.1, by omega⟩, c3, c4, c5⟩ hA
        ·rw [decide_eq_true c1, decide_eq_true c2, decide_eq_true c4, decide_eq_false c5]
         simp only [c3, Bool.false_eq_true, reduceIte]
       ·rw [decide_eq_true c1, decide_eq_true c2, decide_eq_false c4]
        simp only [c3, Bool.false_eq_true, reduceIte]
     ·rw [decide_eq_true c1, decide_eq_false c2]
      simp only [Bool.false_eq_true, reduceIte]
    ·rw [decide_eq_false c1]
     simp only [Bool.false_eq_true, reduceIte]
   ·simp only [impl_NetOk.l0, impl_NetOk.j2, r1, e1, e2, reduceIte]
    by_cases c1 : x.f0 < 0
    ·simp only [c1, reduceIte]
    ·by_cases c2 : x.f0 ≥ n
     ·simp only [c1, c2, reduceIte]
     ·by_cases c3 : x.f1 < 0
      ·simp only [c1, c2, c3, reduceIte]
      ·by_cases c4 : x.f1 ≥ n
       ·simp only [c1, c2, c3, c4, reduceIte]
       ·by_cases c5 : (x.f0 == x.f1) = true
        ·simp only [c1, c2, c3, c4, c5, reduceIte]
        ·by_cases c6 : x.f2 < 0
         ·simp only [c1, c2, c3, c4, c5, c6, Bool.false_eq_true, reduceIte]
         ·by_cases c7 : x.f2 > 20
          ·simp only [c1, c2, c3, c4, c5, c6, c7, Bool.false_eq_true, reduceIte]
          ·by_cases c8 : x.f3 < 0
           ·simp only [c1, c2, c3, c4, c5, c6, c7, c8, Bool.false_eq_true, reduceIte]
           ·by_cases c9 : x.f3 > 100
            ·simp only [c1, c2, c3, c4, c5, c6, c7, c8, c9, Bool.false_eq_true, reduceIte]
            ·exact absurd ⟨⟨by omega, by omega⟩, ⟨by omega, by omega⟩, by simpa using c5, ⟨by omega, by omega⟩, ⟨by omega, by omega⟩⟩ hA
theorem net_ev (n : Int) (l : List AI) (hl : l.length ≤ 1048576) : ∃ g K, (∀ k, K ≤ k → spec_NetOk.f k n l = some g ∧ impl_NetOk.f k n l = some g) ∧ (g = true ↔ Nok n l) := by
 by_cases hn : 2 ≤ n ∧ n ≤ 1500
 ·by_cases h3 : l.length ≤ 3200
  ·obtain ⟨g, K, h, hg⟩ := net_l0 n l hn h3 l.length 0 (by omega)
   refine ⟨g, K + 1, fun k hk => ?_, by rw [hg]; exact ⟨fun h => ⟨hn, h3, h⟩, fun h => h.2.2⟩⟩
   obtain ⟨k, rfl⟩ : ∃ m, k = m + 1 := ⟨k - 1, by omega⟩
   have b1 : ¬ n < 2 := by clear h hg; omega
   have b2 : ¬ n > 1500 := by clear h hg; omega
   have b3 : decide ((l.length : Int) > 3200) = false := decide_eq_false (by clear h hg; omega)
   unfold spec_NetOk.f impl_NetOk.f
   simp only [l01In_eq, hn, and_self, decide_true, Option.bind_some, b1, b2, b3, reduceIte]
   simp only [spec_NetOk.j0, impl_NetOk.j0, Bool.false_eq_true, reduceIte]
   exact h k (by omega)
  ·refine ⟨false, 1, fun k hk => ?_, ⟨fun h => (by cases h), fun h => absurd h.2.1 h3⟩⟩
   obtain ⟨k, rfl⟩ : ∃ m, k = m + 1 := ⟨k - 1, by omega⟩
   have b1 : ¬ n < 2 := by omega
   have b2 : ¬ n > 1500 := by omega
   have b3 : decide ((l.length : Int) > 3200) = true := decide_eq_true (by omega)
   unfold spec_NetOk.f impl_NetOk.f
   simp only [l01In_eq, hn, and_self, decide_true, Option.bind_some, b1, b2, b3, reduceIte]
   simp only [spec_NetOk.j0, impl_NetOk.j0, reduceIte, and_self]
 ·refine ⟨false, 1, fun k hk => ?_, ⟨fun h => (by cases h), fun h => absurd h.1 hn⟩⟩
  obtain ⟨k, rfl⟩ : ∃ m, k = m + 1 := ⟨k - 1, by omega⟩
  unfold spec_NetOk.f impl_NetOk.f
  rw [l01In_eq, Option.bind_some, decide_eq_false hn]
  simp only [Bool.false_eq_true, reduceIte]
  by_cases b1 : n < 2
  ·simp only [b1, spec_NetOk.j0, impl_NetOk.j0, reduceIte, and_self]
  ·have b2 : n > 1500 := by omega
   simp only [b1, b2, spec_NetOk.j0, impl_NetOk.j0, reduceIte, and_self]
theorem rd_setA (l : List Int) (z v : Int) (hz : 0 ≤ z) (hl : z < l.length) (i : Int) (hi : 0 ≤ i) : rd (l.set z.toNat v) i = if i = z then v else rd l i := by
 unfold rd
 rw [List.getD_eq_getElem?_getD, List.getD_eq_getElem?_getD, List.getElem?_set]
 by_cases e : i = z
 ·subst e
  rw [if_pos rfl, if_pos (by omega), if_pos rfl]; rfl
 ·rw [if_neg (by omega), if_neg e]
def FlFrom (l : List AI) (f : List Int) (i : Nat) : Prop := ∀ j : Nat, i ≤ j → (h : j < l.length) → 0 ≤ rd f (j : Int) ∧ rd f (j : Int) ≤ l[j].f2
end Go.Proofs.Ytkdemainohfgfaa.Pure
/- What is drawn from bytes: a byte, a number below another, once in so many. -/
namespace Go.Proofs.Ytkdemainohfgfaa.Pure
open Go.RowKit Go.Proofs.Ytkdemainohfgfaa.Q Go.Proofs.YtkdemainohfgfaaW.PrintWords Go.Proofs.YtkdemainohfgfaaW.PrintLast
theorem and255 (n : Int) : Go.bits .and .i64 n 255 = n % 256 := by
 have h255 : (BitVec.ofInt 64 255).toNat = 2 ^ 8 - 1 := by decide
 have key : (BitVec.ofInt 64 n &&& BitVec.ofInt 64 255).toNat = (n % ((2 ^ 64 : Nat) : Int)).toNat % 2 ^ 8 := by
  rw [BitVec.toNat_and, BitVec.toNat_ofInt, h255, Nat.and_two_pow_sub_one_eq_mod]
 show IntKind.i64.wrap ((BitVec.ofInt 64 n &&& BitVec.ofInt 64 255).toNat : Nat) = n % 256
 rw [key, IntKind.wrap_i64]
 omega
theorem and255_range (n : Int) : 0 ≤ Go.bits .and .i64 n 255 ∧ Go.bits .and .i64 n 255 ≤ 255 := by rw [and255]; omega
section
variable (s : List Int) (hs : s.length ≤ 1048576)
include hs
theorem byte_ev (i h : Int) (hi : 0 ≤ i) : ∃ v i' h', spec_l01Byte.f s i h = some (v, i', h') ∧ 0 ≤ v ∧ v ≤ 255 ∧ 0 ≤ i' := by
 unfold spec_l01Byte.f
 by_cases c : i < (s.length : Int)
 ·rw [if_pos c, if_pos hi]
  refine ⟨_, _, _, rfl, (and255_range _).1, (and255_range _).2, ?_⟩
  rw [w64 (by omega) (by omega)]; omega
 ·rw [if_neg c]
  exact ⟨_, _, _, rfl, (and255_range _).1, (and255_range _).2, hi⟩
theorem below_ev (i h n : Int) (hi : 0 ≤ i) (hn : 1 ≤ n) (hn2 : n ≤ 256) : ∃ v i' h', spec_l01Below.f s i h n = some (v, i', h') ∧ 0 ≤ v ∧ v < n ∧ 0 ≤ i' := by
 obtain ⟨v, i', h', e, h0, h1, h2⟩ := byte_ev s hs i h hi
 refine ⟨Int.tmod v n, i', h', ?_, ?_, ?_, h2⟩
 ·unfold spec_l01Below.f
  rw [if_neg (by omega), if_pos hn2, e, Option.bind_some]
  simp only
  rw [if_neg (by omega)]
 ·rw [Int.tmod_eq_emod_of_nonneg h0]; exact Int.emod_nonneg _ (by omega)
 ·rw [Int.tmod_eq_emod_of_nonneg h0]; exact Int.emod_lt_of_pos _ (by omega)
theorem new_l0 : ∀ (d i : Nat) (h : Int), i + d = min s.length 4000 → ∃ h' K, ∀ k, K ≤ k → spec_l01New.l0 k s h (i : Int) = some (s, 0, h')
 | 0, i, h, hi => by
  refine ⟨h, 1, fun k hk => ?_⟩
  obtain ⟨k, rfl⟩ : ∃ m, k = m + 1 := ⟨k - 1, by omega⟩
  simp only [spec_l01New.l0]
  by_cases c : (i : Int) < (s.length : Int)
  ·rw [if_pos c, if_neg (by omega)]
  ·rw [if_neg c]
 | d + 1, i, h, hi => by
  obtain ⟨h', K, hh⟩ := new_l0 d (i + 1) (Go.bits .and .i64 (wrap64 ((wrap64 ((wrap64 (h * 131)) + (wrap64 (rd s (i : Int))))) + 7)) 1073741823) (by omega)
  refine ⟨h', K + 1, fun k hk => ?_⟩
  obtain ⟨k, rfl⟩ : ∃ m, k = m + 1 := ⟨k - 1, by omega⟩
  simp only [spec_l01New.l0]
  rw [if_pos (by omega), if_pos (by omega), if_pos (by omega), w64 (x := (i : Int) + 1) (by omega) (by omega), show ((i : Int) + 1) = ((i + 1 : Nat) : Int) by omega]
  exact hh k (by omega)
theorem new_ev : ∃ h K, ∀ k, K ≤ k → spec_l01New.f k s = some (s, 0, h) := by
 obtain ⟨h, K, hh⟩ := new_l0 s hs (min s.length 4000) 0 (wrap64 (94701 + (s.length : Int))) (by omega)
 exact ⟨h, K, fun k hk => hh k hk⟩
end
end Go.Proofs.Ytkdemainohfgfaa.Pure
/- A net that is drawn: right, with few nodes and arcs. -/
namespace Go.Proofs.Ytkdemainohfgfaa.Pure
open Go.RowKit Go.Proofs.Ytkdemainohfgfaa.Q Go.Proofs.YtkdemainohfgfaaW.PrintWords Go.Proofs.YtkdemainohfgfaaW.PrintLast
theorem w_r4 (v : Int) (h0 : 0 ≤ v) (h : v < 14) : wrap64 (4 + v) = 4 + v := w64 (by omega) (by omega)
theorem w_r1 (i : Nat) (h : i ≤ 100) : wrap64 ((i : Int) + 1) = ((i + 1 : Nat) : Int) := by rw [w64 (by omega) (by omega)]; rfl
section
variable (s : List Int) (hs : s.length ≤ 1048576)
include hs
theorem right_l0 (n : Int) (hn : 3 ≤ n ∧ n ≤ 8) : ∀ (e i : Nat) (c h : Int) (l : List AI), i + e = 17 → 0 ≤ c → l.length ≤ i → (∀ a ∈ l, Aok n a) → ∃ l' c' h' K, (l'.length ≤ 17 ∧ (∀ a ∈ l', Aok n a) ∧ 0 ≤ c') ∧ ∀ k, K ≤ k → spec_l06Right.l0 k (i : Int) s c h n l = some (n, l', c', h')
 | 0, i, c, h, l, hi, hc, hl, ha => by
  obtain ⟨v, c1, h1, e1, v0, v1, c0⟩ := below_ev s hs c h 14 hc (by omega) (by omega)
  refine ⟨l, c1, h1, 1, ⟨by omega, ha, c0⟩, fun k hk => ?_⟩
  obtain ⟨k, rfl⟩ : ∃ m, k = m + 1 := ⟨k - 1, by omega⟩
  rw [spec_l06Right.l0, e1, Option.bind_some, w_r4 v v0 v1, if_neg (by omega)]
 | e + 1, i, c, h, l, hi, hc, hl, ha => by
  obtain ⟨v, c1, h1, e1, v0, v1, hc1⟩ := below_ev s hs c h 14 hc (by omega) (by omega)
  by_cases q : (i : Int) < 4 + v
  ·obtain ⟨a, c2, h2, e2, a0, a1, hc2⟩ := below_ev s hs c1 h1 n hc1 (by omega) (by omega)
   obtain ⟨b, c3, h3, e3, b0, b1, hc3⟩ := below_ev s hs c2 h2 n hc2 (by omega) (by omega)
   obtain ⟨x, c4, h4, e4, x0, x1, hc4⟩ := below_ev s hs c3 h3 5 hc3 (by omega) (by omega)
   obtain ⟨y, c5, h5, e5, y0, y1, hc5⟩ := below_ev s hs c4 h4 10 hc4 (by omega) (by omega)
   obtain ⟨z, c6, h6, e6, z0, z1, hc6⟩ := below_ev s hs c5 h5 5 hc5 (by omega) (by omega)
   have i100 : i ≤ 100 := by omega
   have hlen : l.length < 4398046511104 := by omega
   have key : ∃ l1 : List AI, (l1.length ≤ i + 1 ∧ ∀ a ∈ l1, Aok n a) ∧ ∀ k, spec_l06Right.l0 (k + 1) (i : Int) s c h n l = spec_l06Right.l0 k ((i + 1 : Nat) : Int) s c6 h6 n l1 := by
    have app : ∀ t : AI, Aok n t → (l ++ [t]).length ≤ i + 1 ∧ ∀ a ∈ l ++ [t], Aok n a := fun t ht => ⟨by simp; omega, fun a hm => by
     rcases List.mem_append.mp hm with w | w
     ·exact ha a w
     ·rw [List.mem_singleton.mp w]; exact ht⟩
    have old : l.length ≤ i + 1 ∧ ∀ a ∈ l, Aok n a := ⟨by omega, ha⟩
    by_cases q1 : z = 0
    ·by_cases q2 : 0 = b
     ·exact ⟨l, old, fun k => by simp only [spec_l06Right.l0, e1, e2, e3, e4, e5, e6, Option.bind_some, w_r4 v v0 v1, q, q1, q2, w_r1 i i100, reduceIte]⟩
     ·exact ⟨_, app ⟨0, b, x, y⟩ ⟨⟨by simp, by simp; omega⟩, ⟨b0, b1⟩, q2, ⟨x0, by simp; omega⟩, ⟨y0, by simp; omega⟩⟩, fun k => by simp only [spec_l06Right.l0, e1, e2, e3, e4, e5, e6, Option.bind_some, w_r4 v v0 v1, q, q1, q2, hlen, w_r1 i i100, reduceIte]⟩
    ·by_cases q3 : z = 1
     ·by_cases q2 : a = 1
      ·exact ⟨l, old, fun k => by simp only [spec_l06Right.l0, e1, e2, e3, e4, e5, e6, Option.bind_some, w_r4 v v0 v1, q, q1, q2, if_pos q3, w_r1 i i100, reduceIte]⟩
      ·exact ⟨_, app ⟨a, 1, x, y⟩ ⟨⟨a0, a1⟩, ⟨by simp, by simp; omega⟩, q2, ⟨x0, by simp; omega⟩, ⟨y0, by simp; omega⟩⟩, fun k => by simp only [spec_l06Right.l0, e1, e2, e3, e4, e5, e6, Option.bind_some, w_r4 v v0 v1, q, q1, q2, if_pos q3, hlen, w_r1 i i100, reduceIte]⟩
     ·by_cases q2 : a = b
      ·exact ⟨l, old, fun k => by simp only [spec_l06Right.l0, e1, e2, e3, e4, e5, e6, Option.bind_some, w_r4 v v0 v1, q, q1, if_pos q2, q3, w_r1 i i100, reduceIte]⟩
      ·exact ⟨_, app ⟨a, b, x, y⟩ ⟨⟨a0, a1⟩, ⟨b0, b1⟩, q2, ⟨x0, by simp; omega⟩, ⟨y0, by simp; omega⟩⟩, fun k => by simp only [spec_l06Right.l0, e1, e2, e3, e4, e5, e6, Option.bind_some, w_r4 v v0 v1, q, q1, q2, q3, hlen, w_r1 i i100, reduceIte]⟩
   obtain ⟨l1, ⟨p1, p2⟩, p3⟩ := key
   obtain ⟨l', c', h', K, r1, r2⟩ := right_l0 n hn e (i + 1) c6 h6 l1 (by omega) hc6 p1 p2
   refine ⟨l', c', h', K + 1, r1, fun k hk => ?_⟩
   obtain ⟨k, rfl⟩ : ∃ m, k = m + 1 := ⟨k - 1, by omega⟩
   rw [p3]
   exact r2 k (by omega)
  ·refine ⟨l, c1, h1, 1, ⟨by omega, ha, hc1⟩, fun k hk => ?_⟩
   obtain ⟨k, rfl⟩ : ∃ m, k = m + 1 := ⟨k - 1, by omega⟩
   rw [spec_l06Right.l0, e1, Option.bind_some, w_r4 v v0 v1, if_neg q]
theorem right_ev (c h : Int) (hc : 0 ≤ c) : ∃ n l c' h' K, (Nok n l ∧ n ≤ 8 ∧ 0 ≤ c') ∧ ∀ k, K ≤ k → spec_l06Right.f k s c h = some (n, l, c', h') := by
 obtain ⟨v, c1, h1, e1, v0, v1, hc1⟩ := below_ev s hs c h 6 hc (by omega) (by omega)
 obtain ⟨l, c', h', K, ⟨r1, r2, r3⟩, r4⟩ := right_l0 s hs (3 + v) (by omega) 17 0 c1 h1 [] (by omega) hc1 (by simp) (by simp)
 refine ⟨3 + v, l, c', h', K, ⟨⟨by omega, by omega, fun j _ hj => r2 _ (List.getElem_mem _)⟩, by omega, r3⟩, fun k hk => ?_⟩
 unfold spec_l06Right.f
 rw [e1, Option.bind_some, w64 (x := 3 + v) (by omega) (by omega)]
 exact r4 k hk
end
end Go.Proofs.Ytkdemainohfgfaa.Pure
/- Shortest ways: a right labelling is the only one, its labels are those of ways of few steps, and it gives potentials anew. -/
namespace Go.Proofs.Ytkdemainohfgfaa.Pure
open Go.RowKit Go.Proofs.Ytkdemainohfgfaa.Q Go.Proofs.YtkdemainohfgfaaW.PrintWords Go.Proofs.YtkdemainohfgfaaW.PrintLast
inductive Wy (E : Nat → Nat → Int → Prop) : Nat → Int → Nat → Prop
 | zero : Wy E 0 0 0
 | step {u v : Nat} {x c : Int} {h : Nat} : Wy E u x h → x < 1152921504606846976 → E u v c → Wy E v (x + (10000 * c + 1)) (h + 1)
structure Okd (n : Nat) (E : Nat → Nat → Int → Prop) (d : List Int) : Prop where
 len : d.length = n
 zero : rd d ((0 : Nat) : Int) ≤ 0
 fin : ∀ v : Nat, v < n → rd d (v : Int) = 1152921504606846976 ∨ (rd d (v : Int) < 1152921504606846976 ∧ ∃ h, Wy E v (rd d (v : Int)) h)
structure Lab (n : Nat) (E : Nat → Nat → Int → Prop) (d : List Int) : Prop extends Okd n E d where
 tight : ∀ u v c, E u v c → rd d (u : Int) < 1152921504606846976 → rd d (v : Int) ≤ rd d (u : Int) + (10000 * c + 1)
theorem rd_setN (l : List Int) (i j : Nat) (v : Int) (hi : i < l.length) : rd (l.set i v) (j : Int) = if i = j then v else rd l (j : Int) := by
 unfold rd
 rw [Int.toNat_natCast, List.getD_eq_getElem?_getD, List.getD_eq_getElem?_getD, List.getElem?_set]
 by_cases e : i = j
 ·subst e; simp [hi]
 ·simp [e]
theorem lab_le {n : Nat} {E : Nat → Nat → Int → Prop} {d : List Int} (hL : Lab n E d) : ∀ {v x h}, Wy E v x h → rd d (v : Int) ≤ x := by
 intro v x h hw
 induction hw with
 | zero => exact hL.zero
 | step hw hx he ih => have := hL.tight _ _ _ he (by omega); omega
section
variable {n : Nat} {E : Nat → Nat → Int → Prop} (hn : n ≤ 1500) (hE : ∀ u v c, E u v c → (u < n ∧ v < n) ∧ -100 ≤ c ∧ c ≤ 100) (q : Nat → Int) (hq : ∀ u v c, E u v c → q v ≤ q u + c) (R : Int) (hR : ∀ v, 0 ≤ q v ∧ q v ≤ R)
include hq
theorem wy_pot : ∀ {v x h}, Wy E v x h → 10000 * q v - 10000 * q 0 + (h : Int) ≤ x := by
 intro v x h hw
 induction hw with
 | zero => omega
 | step hw hx he ih => have := hq _ _ _ he; omega
include hR
theorem okd_low {d : List Int} (h : Okd n E d) (v : Nat) (hv : v < n) : -(10000 * R) ≤ rd d (v : Int) ∨ rd d (v : Int) = 1152921504606846976 := by
 rcases h.fin v hv with h1 | ⟨_, k, hw⟩
 ·exact .inr h1
 ·have := wy_pot q hq hw
  have := hR v
  have := hR 0
  left; omega
theorem okd_zero {d : List Int} (h : Okd n E d) (h0 : 0 < n) : rd d ((0 : Nat) : Int) = 0 := by
 have := h.zero
 rcases h.fin 0 h0 with h1 | ⟨_, k, hw⟩
 ·omega
 ·have := wy_pot q hq hw
  omega
inductive Tw (E : Nat → Nat → Int → Prop) (d : List Int) : Nat → List Nat → Int → Prop
 | zero : Tw E d 0 [0] 0
 | step {u v : Nat} {L : List Nat} {p c : Int} : Tw E d u L p → rd d (u : Int) < 1152921504606846976 → E u v c → rd d (v : Int) = rd d (u : Int) + (10000 * c + 1) → Tw E d v (v :: L) (p + c)
end
section
variable {n : Nat} {E : Nat → Nat → Int → Prop} (hn : n ≤ 1500) (h0 : 0 < n) (hE : ∀ u v c, E u v c → (u < n ∧ v < n) ∧ -100 ≤ c ∧ c ≤ 100) (q : Nat → Int) (hq : ∀ u v c, E u v c → q v ≤ q u + c) (R : Int) (hR : ∀ v, 0 ≤ q v ∧ q v ≤ R) {d : List Int} (hL : Lab n E d)
theorem php : ∀ (n : Nat) (L : List Nat), L.Nodup → (∀ x ∈ L, x < n) → L.length ≤ n
 | 0, L, _, h => by
  cases L with
  | nil => simp
  | cons x xs => exact absurd (h x (by simp)) (by omega)
 | n + 1, L, hd, h => by
  have h1 : (L.filter (fun x => decide (x ≠ n))).length ≤ n := php n _ (hd.filter _) (fun x hx => by
   obtain ⟨h2, h3⟩ := List.mem_filter.mp hx
   have := h x h2
   have : x ≠ n := of_decide_eq_true h3
   omega)
  have h2 : L.length ≤ (L.filter (fun x => decide (x ≠ n))).length + 1 := by
   clear h h1
   induction L with
   | nil => simp
   | cons x xs ih =>
    obtain ⟨hx, hxs⟩ := List.nodup_cons.mp hd
    by_cases e : x = n
    ·subst e
     rw [List.filter_cons_of_neg (by simp), show xs.filter (fun y => decide (y ≠ x)) = xs from List.filter_eq_self.mpr (fun y hy => decide_eq_true (fun (e : y = x) => hx (e ▸ hy)))]
     simp
    ·rw [List.filter_cons_of_pos (by simpa using e), List.length_cons, List.length_cons]
     have := ih hxs
     omega
  omega
include hn h0 hE hq hR hL
theorem tw_facts : ∀ {v L p}, Tw E d v L p → rd d (v : Int) = 10000 * p + (L.length : Int) - 1 ∧ 1 ≤ L.length ∧ (∀ z ∈ L, z < n) ∧ L.Nodup ∧ (∀ z ∈ L, rd d (z : Int) - 10000 * q z ≤ rd d (v : Int) - 10000 * q v) ∧ -(100 * ((L.length : Int) - 1)) ≤ p ∧ p ≤ 100 * ((L.length : Int) - 1) ∧ Wy E v (rd d (v : Int)) (L.length - 1) := by
 intro v L p ht
 induction ht with
 | zero =>
  have hz := okd_zero q hq R hR hL.toOkd h0
  rw [hz]
  refine ⟨by simp, by simp, fun z hz => ?_, by simp, fun z hz2 => ?_, by simp, by simp, Wy.zero⟩
  ·simp at hz; omega
  ·simp at hz2; subst hz2; rw [hz]; exact Int.le_refl _
 | @step u v L p c ht hu he hd ih =>
  obtain ⟨i1, i2, i3, i4, i5, i6, i7, i8⟩ := ih
  have hc := hE _ _ _ he
  have hp := hq _ _ _ he
  have hlt : ∀ z ∈ L, rd d (z : Int) - 10000 * q z < rd d (v : Int) - 10000 * q v := fun z hz => by have := i5 z hz; omega
  refine ⟨by rw [List.length_cons]; omega, by simp, fun z hz => ?_, List.nodup_cons.mpr ⟨fun hv => by have := hlt v hv; omega, i4⟩, fun z hz => ?_, by rw [List.length_cons]; omega, by rw [List.length_cons]; omega, ?_⟩
  ·rcases List.mem_cons.mp hz with e | e
   ·rw [e]; exact hc.1.2
   ·exact i3 z e
  ·rcases List.mem_cons.mp hz with e | e
   ·rw [e]; exact Int.le_refl _
   ·have := hlt z e; omega
  ·rw [hd, List.length_cons, Nat.add_sub_cancel, show L.length = (L.length - 1) + 1 by omega]
   exact Wy.step i8 hu he
theorem tw_ex : ∀ {v x h}, Wy E v x h → rd d (v : Int) = x → ∃ L p, Tw E d v L p := by
 intro v x h hw
 induction hw with
 | zero => exact fun _ => ⟨_, _, Tw.zero⟩
 | @step u v x c h hw hx he ih =>
  intro hd
  have h1 := lab_le hL hw
  have h2 := hL.tight _ _ _ he (by omega)
  have hu : rd d (u : Int) = x := by omega
  obtain ⟨L, p, ht⟩ := ih hu
  exact ⟨_, _, Tw.step ht (by omega) he (by omega)⟩
theorem lab_few (v : Nat) (hv : v < n) (hf : rd d (v : Int) < 1152921504606846976) : ∃ (p : Int) (h : Nat), rd d (v : Int) = 10000 * p + (h : Int) ∧ h < n ∧ -(100 * (h : Int)) ≤ p ∧ p ≤ 100 * (h : Int) ∧ Wy E v (rd d (v : Int)) h := by
 rcases hL.fin v hv with h1 | ⟨_, k, hw⟩
 ·omega
 ·obtain ⟨L, p, ht⟩ := tw_ex hn h0 hE q hq R hR hL hw rfl
  obtain ⟨i1, i2, i3, i4, i5, i6, i7, i8⟩ := tw_facts hn h0 hE q hq R hR hL ht
  have := php n L i4 i3
  exact ⟨p, L.length - 1, by omega, by omega, by omega, by omega, i8⟩
theorem lab_step (v : Nat) (hv : v < n) (hv0 : v ≠ 0) (hf : rd d (v : Int) < 1152921504606846976) : ∃ u c, E u v c ∧ rd d (u : Int) < 1152921504606846976 ∧ rd d (v : Int) = rd d (u : Int) + (10000 * c + 1) := by
 rcases hL.fin v hv with h1 | ⟨_, k, hw⟩
 ·omega
 ·obtain ⟨L, p, ht⟩ := tw_ex hn h0 hE q hq R hR hL hw rfl
  cases ht with
  | zero => exact absurd rfl hv0
  | step ht hu he hd => exact ⟨_, _, he, hu, hd⟩
def pot (n : Nat) (q : Nat → Int) (d : List Int) (v : Nat) : Int := if rd d (v : Int) < 1152921504606846976 then rd d (v : Int) / 10000 + 100 * n else q v + 200 * n
theorem pot_fin (v : Nat) (hv : v < n) (hf : rd d (v : Int) < 1152921504606846976) : ∃ h : Nat, h < n ∧ rd d (v : Int) = 10000 * (pot n q d v - 100 * n) + (h : Int) ∧ -(100 * (h : Int)) ≤ pot n q d v - 100 * n ∧ pot n q d v - 100 * n ≤ 100 * (h : Int) := by
 obtain ⟨p, h, h1, h2, h3, h4, _⟩ := lab_few hn h0 hE q hq R hR hL v hv hf
 have hp : pot n q d v - 100 * n = p := by
  unfold pot
  rw [if_pos hf, h1]
  omega
 exact ⟨h, h2, by rw [hp]; exact h1, by rw [hp]; exact h3, by rw [hp]; exact h4⟩
theorem pot_not (v : Nat) (hf : ¬ rd d (v : Int) < 1152921504606846976) : pot n q d v = q v + 200 * n := by unfold pot; rw [if_neg hf]
theorem pot_range (v : Nat) (hv : v < n) : 0 ≤ pot n q d v ∧ pot n q d v ≤ R + 200 * n := by
 have := hR v
 by_cases hf : rd d (v : Int) < 1152921504606846976
 ·obtain ⟨h, h1, h2, h3, h4⟩ := pot_fin hn h0 hE q hq R hR hL v hv hf
  omega
 ·rw [pot_not hn h0 hE q hq R hR hL v hf]; omega
theorem pot_step (u v : Nat) (c : Int) (he : E u v c) : pot n q d v ≤ pot n q d u + c := by
 obtain ⟨⟨hu, hv⟩, hc⟩ := hE _ _ _ he
 by_cases fu : rd d (u : Int) < 1152921504606846976
 ·obtain ⟨a, a1, a2, a3, a4⟩ := pot_fin hn h0 hE q hq R hR hL u hu fu
  have ht := hL.tight _ _ _ he fu
  obtain ⟨b, b1, b2, b3, b4⟩ := pot_fin hn h0 hE q hq R hR hL v hv (by omega)
  omega
 ·rw [pot_not hn h0 hE q hq R hR hL u fu]
  by_cases fv : rd d (v : Int) < 1152921504606846976
  ·obtain ⟨b, b1, b2, b3, b4⟩ := pot_fin hn h0 hE q hq R hR hL v hv fv
   have := hR u
   omega
  ·rw [pot_not hn h0 hE q hq R hR hL v fv]
   have := hq _ _ _ he
   omega
theorem pot_tight (u v : Nat) (c : Int) (he : E u v c) (fu : rd d (u : Int) < 1152921504606846976) (hd : rd d (v : Int) = rd d (u : Int) + (10000 * c + 1)) : pot n q d v = pot n q d u + c := by
 obtain ⟨⟨hu, hv⟩, hc⟩ := hE _ _ _ he
 obtain ⟨a, a1, a2, a3, a4⟩ := pot_fin hn h0 hE q hq R hR hL u hu fu
 obtain ⟨b, b1, b2, b3, b4⟩ := pot_fin hn h0 hE q hq R hR hL v hv (by omega)
 omega
end
end Go.Proofs.Ytkdemainohfgfaa.Pure
/- The steps of a net's residual network, and the lists of those that leave and enter each node. -/
namespace Go.Proofs.Ytkdemainohfgfaa.Pure
open Go.RowKit Go.Proofs.Ytkdemainohfgfaa.Q Go.Proofs.YtkdemainohfgfaaW.PrintWords Go.Proofs.YtkdemainohfgfaaW.PrintLast
abbrev ST := S57
abbrev rdA (l : List AI) (i : Int) : AI := rd_T53 l i
def stp2 (i : Nat) : List ST := [⟨(i : Int), false⟩, ⟨(i : Int), true⟩]
def stps : Nat → List ST
 | 0 => []
 | m + 1 => stps m ++ stp2 m
def stFrom (l : List AI) (s : ST) : Int := if s.f1 = true then (rdA l s.f0).f1 else (rdA l s.f0).f0
def stTo (l : List AI) (s : ST) : Int := if s.f1 = true then (rdA l s.f0).f0 else (rdA l s.f0).f1
def stPr (l : List AI) (s : ST) : Int := if s.f1 = true then -(rdA l s.f0).f3 else (rdA l s.f0).f3
def stRm (l : List AI) (f : List Int) (s : ST) : Int := if s.f1 = true then rd f s.f0 else (rdA l s.f0).f2 - rd f s.f0
theorem stps_len : ∀ m, (stps m).length = 2 * m
 | 0 => rfl
 | m + 1 => by rw [stps, List.length_append, stps_len m]; simp [stp2]; omega
theorem mem_stps (s : ST) : ∀ m, s ∈ stps m ↔ ∃ i : Nat, i < m ∧ s.f0 = (i : Int)
 | 0 => by simp [stps]
 | m + 1 => by
  rw [stps, List.mem_append, mem_stps s m]
  constructor
  ·rintro (⟨i, h1, h2⟩ | h)
   ·exact ⟨i, by omega, h2⟩
   ·simp only [stp2, List.mem_cons, List.not_mem_nil, or_false] at h
    rcases h with rfl | rfl
    ·exact ⟨m, by omega, rfl⟩
    ·exact ⟨m, by omega, rfl⟩
  ·rintro ⟨i, h1, h2⟩
   by_cases e : i = m
   ·right
    subst e
    obtain ⟨a, b⟩ := s
    simp only at h2
    subst h2
    cases b <;> simp [stp2]
   ·exact .inl ⟨i, by omega, h2⟩
def Res (l : List AI) (f : List Int) (u v : Nat) (c : Int) : Prop := ∃ s ∈ stps l.length, 0 < stRm l f s ∧ stFrom l s = (u : Int) ∧ stTo l s = (v : Int) ∧ stPr l s = c
section
variable {n : Int} {l : List AI} (hN : Nok n l) {s : ST} (hs : s ∈ stps l.length)
include hN hs
theorem st_arc : ∃ i : Nat, ∃ h : i < l.length, s.f0 = (i : Int) ∧ rdA l s.f0 = l[i] ∧ Aok n l[i] := by
 obtain ⟨i, h1, h2⟩ := (mem_stps s l.length).mp hs
 exact ⟨i, h1, h2, by rw [h2]; exact rdA_get l i h1, hN.2.2 i (Nat.zero_le _) h1⟩
theorem st_facts : (0 ≤ stFrom l s ∧ stFrom l s < n) ∧ (0 ≤ stTo l s ∧ stTo l s < n) ∧ stFrom l s ≠ stTo l s ∧ -100 ≤ stPr l s ∧ stPr l s ≤ 100 := by
 obtain ⟨i, h, h1, h2, ⟨a1, a2⟩, ⟨b1, b2⟩, hne, _, ⟨c1, c2⟩⟩ := st_arc hN hs
 unfold stFrom stTo stPr
 rw [h2]
 cases s.f1 <;> simp only [Bool.false_eq_true, reduceIte]
 ·exact ⟨⟨a1, a2⟩, ⟨b1, b2⟩, hne, by omega, c2⟩
 ·exact ⟨⟨b1, b2⟩, ⟨a1, a2⟩, hne.symm, by omega, by omega⟩
theorem ends_ev : impl_step_ends.f s.f0 s.f1 n l = some (stFrom l s, stTo l s) := by
 obtain ⟨i, h, h1, _⟩ := st_arc hN hs
 unfold impl_step_ends.f
 rw [if_pos (by omega), if_pos (by omega)]
 unfold stFrom stTo
 cases s.f1 <;> rfl
theorem length_ev : impl_step_length.f s.f0 s.f1 n l = some (10000 * stPr l s + 1) := by
 obtain ⟨i, h, h1, h2, _, _, _, _, ⟨c1, c2⟩⟩ := st_arc hN hs
 unfold impl_step_length.f
 rw [if_pos (by omega), if_pos (by omega)]
 unfold stPr
 rw [show rd_T53 l s.f0 = l[i] from h2, show rdA l s.f0 = l[i] from h2, w64 (x := 10000 * l[i].f3) (by omega) (by omega), w64 (x := 1 - 10000 * l[i].f3) (by omega) (by omega), w64 (x := 10000 * l[i].f3 + 1) (by omega) (by omega)]
 cases s.f1
 ·rw [if_neg (by decide), if_neg (by decide)]
 ·rw [if_pos rfl, if_pos rfl]
  congr 1
  omega
theorem room_ev (f : List Int) (hf : f.length = l.length) (hfl : FlFrom l f 0) : impl_step_room.f s.f0 s.f1 n l f = some (stRm l f s) ∧ 0 ≤ stRm l f s := by
 obtain ⟨i, h, h1, h2, _, _, _, ⟨c1, c2⟩, _⟩ := st_arc hN hs
 have hx := hfl i (Nat.zero_le _) h
 rw [← h1] at hx
 unfold impl_step_room.f stRm
 rw [show rd_T53 l s.f0 = l[i] from h2, show rdA l s.f0 = l[i] from h2]
 cases s.f1
 ·simp only [Bool.false_eq_true, reduceIte]
  rw [if_pos (by omega), if_pos (by omega), if_pos (by omega), w64 (by omega) (by omega)]
  exact ⟨rfl, by omega⟩
 ·simp only [reduceIte]
  rw [if_pos (by omega), if_pos (by omega)]
  exact ⟨rfl, by omega⟩
end
theorem res_ok {n : Int} {l : List AI} (hN : Nok n l) (f : List Int) (u v : Nat) (c : Int) (h : Res l f u v c) : (u < n.toNat ∧ v < n.toNat) ∧ -100 ≤ c ∧ c ≤ 100 := by
 obtain ⟨s, hs, _, h1, h2, h3⟩ := h
 have := st_facts hN hs
 have := hN.1
 omega
def grp (g : ST → Int) (n : Nat) (L : List ST) : List (List ST) := (List.range n).map fun u => L.filter (fun s => decide (g s = ((u : Nat) : Int)))
theorem grp_len (g : ST → Int) (n : Nat) (L : List ST) : (grp g n L).length = n := by simp [grp]
theorem grp_rd (g : ST → Int) (n : Nat) (L : List ST) (u : Int) (h0 : 0 ≤ u) (h1 : u < n) : rd_L4 (grp g n L) u = L.filter (fun s => decide (g s = u)) := by
 obtain ⟨u, rfl⟩ := Int.eq_ofNat_of_zero_le h0
 have h2 : u < n := by omega
 simp [rd_L4, grp, h2]
theorem grp_snoc (g : ST → Int) (n : Nat) (L : List ST) (s : ST) (h0 : 0 ≤ g s) (h1 : g s < n) : (grp g n L).set (g s).toNat (rd_L4 (grp g n L) (g s) ++ [s]) = grp g n (L ++ [s]) := by
 rw [grp_rd g n L _ h0 h1]
 apply List.ext_getElem
 ·rw [List.length_set, grp_len, grp_len]
 ·intro i h2 h3
  rw [List.length_set, grp_len] at h2
  rw [List.getElem_set]
  by_cases e : (g s).toNat = i
  ·rw [if_pos e]
   have e2 : g s = ((i : Nat) : Int) := by omega
   simp only [grp, List.getElem_map, List.getElem_range, List.filter_append, e2]
   congr 1
   simp [e2]
  ·rw [if_neg e]
   have e2 : ¬ g s = ((i : Nat) : Int) := by omega
   simp only [grp, List.getElem_map, List.getElem_range, List.filter_append]
   rw [List.filter_cons_of_neg (by simpa using e2), List.filter_nil, List.append_nil]
theorem grp_nil (g : ST → Int) (n : Nat) : grp g n [] = List.replicate n [] := by
 apply List.ext_getElem
 ·simp [grp]
 ·intro i h1 h2; simp [grp]
section
variable {n : Int} {l : List AI} (hN : Nok n l)
include hN
theorem so_step (L : List ST) (hL : L.length ≤ 6400) (y : List ST) (i : Int) (j : Nat) (hj : j < y.length) (hy : y.length ≤ 2) (hs : y[j] ∈ stps l.length) (k : Nat) :
  impl_stepsOf.l1 (k + 1) (grp (stFrom l) n.toNat L) (grp (stTo l) n.toNat L) (l.length : Int) i y (y.length : Int) (j : Int) n l = impl_stepsOf.l1 k (grp (stFrom l) n.toNat (L ++ [y[j]])) (grp (stTo l) n.toNat (L ++ [y[j]])) (l.length : Int) i y (y.length : Int) ((j + 1 : Nat) : Int) n l := by
 have hr : rd_T57 y (j : Int) = y[j] := by simp [rd_T57, hj]
 have e9 : wrap64 ((j : Int) + 1) = ((j + 1 : Nat) : Int) := by rw [w64 (by omega) (by omega)]; rfl
 obtain ⟨⟨f1, f2⟩, ⟨t1, t2⟩, _⟩ := st_facts hN hs
 have hn := hN.1
 have g1 := grp_rd (stFrom l) n.toNat L _ f1 (by omega)
 have g2 := grp_rd (stTo l) n.toNat L _ t1 (by omega)
 have b1 := List.length_filter_le (fun s => decide (stFrom l s = stFrom l y[j])) L
 have b2 := List.length_filter_le (fun s => decide (stTo l s = stTo l y[j])) L
 rw [impl_stepsOf.l1, if_pos (by omega), if_pos (by omega), if_pos (by omega), hr, ends_ev hN hs, Option.bind_some]
 simp only
 rw [if_pos f1, if_pos (by rw [grp_len]; omega), if_pos (by rw [g1]; omega), if_pos t1, if_pos (by rw [grp_len]; omega), if_pos (by rw [g2]; omega), grp_snoc _ _ _ _ f1 (by omega), grp_snoc _ _ _ _ t1 (by omega), e9]
theorem so_l0 : ∀ (d i : Nat), i + d = l.length → ∃ K, ∀ k, K ≤ k → impl_stepsOf.l0 k (grp (stFrom l) n.toNat (stps i)) (grp (stTo l) n.toNat (stps i)) (l.length : Int) (i : Int) n l = some (grp (stFrom l) n.toNat (stps l.length), grp (stTo l) n.toNat (stps l.length))
 | 0, i, hi => by
  refine ⟨1, fun k hk => ?_⟩
  obtain ⟨k, rfl⟩ : ∃ m, k = m + 1 := ⟨k - 1, by omega⟩
  obtain rfl : i = l.length := by omega
  rw [impl_stepsOf.l0, if_neg (by omega)]
 | d + 1, i, hi => by
  obtain ⟨K, h⟩ := so_l0 d (i + 1) (by omega)
  have hl := hN.2.1
  have e9 : wrap64 ((i : Int) + 1) = ((i + 1 : Nat) : Int) := by rw [w64 (by omega) (by omega)]; rfl
  refine ⟨K + 4, fun k hk => ?_⟩
  obtain ⟨k, rfl⟩ : ∃ m, k = m + 4 := ⟨k - 4, by omega⟩
  have m0 : ∀ b, (⟨(i : Int), b⟩ : ST) ∈ stps l.length := fun b => (mem_stps _ _).mpr ⟨i, by omega, rfl⟩
  have len0 : (stps i).length ≤ 6398 := by rw [stps_len]; omega
  rw [impl_stepsOf.l0, if_pos (by omega), Option.bind_some]
  have s0 := so_step hN (stps i) (by omega) (stp2 i) (i : Int) 0 (by simp [stp2]) (by simp [stp2]) (m0 false) (k + 2)
  have s1 := so_step hN (stps i ++ [(stp2 i)[0]'(by simp [stp2])]) (by rw [List.length_append, List.length_singleton]; omega) (stp2 i) (i : Int) 1 (by simp [stp2]) (by simp [stp2]) (m0 true) (k + 1)
  have e3 : stps i ++ [(stp2 i)[0]'(by simp [stp2])] ++ [(stp2 i)[1]'(by simp [stp2])] = stps (i + 1) := by rw [stps, List.append_assoc]; rfl
  rw [e3] at s1
  refine Eq.trans (Eq.trans s0 s1) ?_
  rw [impl_stepsOf.l1, if_neg (by simp [stp2]), e9]
  exact h k (by omega)
theorem so_ev : ∃ K, ∀ k, K ≤ k → impl_stepsOf.f k n l = some (grp (stFrom l) n.toNat (stps l.length), grp (stTo l) n.toNat (stps l.length)) := by
 obtain ⟨K, h⟩ := so_l0 hN l.length 0 (by omega)
 have hn := hN.1
 refine ⟨K, fun k hk => ?_⟩
 unfold impl_stepsOf.f
 rw [if_pos (by omega), if_pos (by omega)]
 have := h k hk
 rw [show stps 0 = [] from rfl, grp_nil, grp_nil] at this
 exact this
end
end Go.Proofs.Ytkdemainohfgfaa.Pure
/- Making labels less along the steps that have room; the first labels. -/
namespace Go.Proofs.Ytkdemainohfgfaa.Pure
open Go.RowKit Go.Proofs.Ytkdemainohfgfaa.Q Go.Proofs.YtkdemainohfgfaaW.PrintWords Go.Proofs.YtkdemainohfgfaaW.PrintLast
theorem wsucc (i : Nat) (h : i ≤ 1000000) : wrap64 ((i : Int) + 1) = ((i + 1 : Nat) : Int) := by rw [w64 (by omega) (by omega)]; rfl
theorem phpI (n : Nat) (L : List Int) (hd : L.Nodup) (h : ∀ x ∈ L, 0 ≤ x ∧ x < n) : L.length ≤ n := by
 have h1 : (L.map Int.toNat).Nodup := by
  unfold List.Nodup at hd ⊢
  rw [List.pairwise_map]
  refine List.Pairwise.imp_of_mem (fun {a b} ha hb hab e => hab ?_) hd
  have := h a ha
  have := h b hb
  omega
 have := php n _ h1 (fun x hx => by
  obtain ⟨y, hy, rfl⟩ := List.mem_map.mp hx
  have := h y hy
  omega)
 simpa using this
abbrev rdB (w : List Bool) (x : Int) : Bool := rdOf false w x
theorem rdB_set (w : List Bool) (z : Int) (b : Bool) (hz : 0 ≤ z) (hl : z < w.length) (x : Int) (hx : 0 ≤ x) : rdB (w.set z.toNat b) x = if x = z then b else rdB w x := by
 unfold rdB rdOf
 rw [List.getD_eq_getElem?_getD, List.getD_eq_getElem?_getD, List.getElem?_set]
 by_cases e : x = z
 ·subst e
  rw [if_pos rfl, if_pos (by omega), if_pos rfl]; rfl
 ·rw [if_neg (by omega), if_neg e]
def rc (l : List AI) (f d : List Int) (s : ST) : Bool := decide (0 < stRm l f s ∧ rd d (stFrom l s) < 1152921504606846976 ∧ rd d (stFrom l s) + (10000 * stPr l s + 1) < rd d (stTo l s))
def rlx (l : List AI) (f d : List Int) (s : ST) : List Int := if rc l f d s = true then d.set (stTo l s).toNat (rd d (stFrom l s) + (10000 * stPr l s + 1)) else d
theorem rlx_len (l : List AI) (f d : List Int) (s : ST) : (rlx l f d s).length = d.length := by unfold rlx; split <;> simp
def Bnd (n : Int) (d : List Int) : Prop := (d.length : Int) = n ∧ ∀ v : Int, 0 ≤ v → v < n → -1000000000000 ≤ rd d v ∧ rd d v ≤ 1152921504606846976
section
variable {n : Int} {l : List AI} (hN : Nok n l) (f : List Int) (hf : f.length = l.length)
theorem arcF (i : Nat) (h : i < l.length) : stFrom l ⟨(i : Int), false⟩ = l[i].f0 ∧ stTo l ⟨(i : Int), false⟩ = l[i].f1 ∧ stPr l ⟨(i : Int), false⟩ = l[i].f3 ∧ stRm l f ⟨(i : Int), false⟩ = l[i].f2 - rd f (i : Int) := by
 have := rdA_get l i h
 unfold stFrom stTo stPr stRm rdA
 simp only [Bool.false_eq_true, reduceIte, this, and_self]
theorem arcB (i : Nat) (h : i < l.length) : stFrom l ⟨(i : Int), true⟩ = l[i].f1 ∧ stTo l ⟨(i : Int), true⟩ = l[i].f0 ∧ stPr l ⟨(i : Int), true⟩ = -l[i].f3 ∧ stRm l f ⟨(i : Int), true⟩ = rd f (i : Int) := by
 have := rdA_get l i h
 unfold stFrom stTo stPr stRm rdA
 simp only [reduceIte, this, and_self]
end
section
variable {n : Int} {l : List AI} (hN : Nok n l) (f : List Int) (hf : f.length = l.length) (q : Nat → Int) (hq : ∀ u v c, Res l f u v c → q v ≤ q u + c) (R : Int) (hR : ∀ v, 0 ≤ q v ∧ q v ≤ R) (hR8 : R ≤ 100000000)
include hq hR hR8
theorem okd_bnd (hn : 0 ≤ n) {d : List Int} (h : Okd n.toNat (Res l f) d) : Bnd n d := by
 refine ⟨by rw [h.len]; omega, fun v h0 h1 => ?_⟩
 obtain ⟨v, rfl⟩ := Int.eq_ofNat_of_zero_le h0
 have := okd_low q hq R hR h v (by omega)
 rcases h.fin v (by omega) with h2 | ⟨h2, _⟩
 ·omega
 ·omega
end
section
variable {n : Int} {l : List AI} (hN : Nok n l) (f : List Int)
include hN
theorem rlx_rd {d : List Int} (hd : (d.length : Int) = n) {s : ST} (hs : s ∈ stps l.length) (v : Int) (hv : 0 ≤ v) : rd (rlx l f d s) v = if rc l f d s = true ∧ v = stTo l s then rd d (stFrom l s) + (10000 * stPr l s + 1) else rd d v := by
 obtain ⟨_, ⟨t1, t2⟩, _⟩ := st_facts hN hs
 unfold rlx
 by_cases c : rc l f d s = true
 ·rw [if_pos c, rd_setA d (stTo l s) _ t1 (by omega) v hv]
  by_cases e : v = stTo l s
  ·rw [if_pos e, if_pos ⟨c, e⟩]
  ·rw [if_neg e, if_neg (fun h => e h.2)]
 ·rw [if_neg c, if_neg (fun h => c h.1)]
theorem rlx_le {d : List Int} (hd : (d.length : Int) = n) {s : ST} (hs : s ∈ stps l.length) (v : Int) (hv : 0 ≤ v) : rd (rlx l f d s) v ≤ rd d v := by
 rw [rlx_rd hN f hd hs v hv]
 split
 ·rename_i h
  have := (of_decide_eq_true h.1).2.2
  rw [h.2]; omega
 ·exact Int.le_refl _
theorem res_of {s : ST} (hs : s ∈ stps l.length) (h1 : 0 < stRm l f s) : Res l f (stFrom l s).toNat (stTo l s).toNat (stPr l s) := by
 obtain ⟨⟨f1, f2⟩, ⟨t1, t2⟩, _⟩ := st_facts hN hs
 exact ⟨s, hs, h1, by omega, by omega, rfl⟩
theorem rlx_okd {d : List Int} (hd : Okd n.toNat (Res l f) d) {s : ST} (hs : s ∈ stps l.length) : Okd n.toNat (Res l f) (rlx l f d s) := by
 have hn := hN.1
 have hl : (d.length : Int) = n := by rw [hd.len]; omega
 obtain ⟨⟨f1, f2⟩, ⟨t1, t2⟩, _⟩ := st_facts hN hs
 refine ⟨by rw [rlx_len]; exact hd.len, ?_, fun v hv => ?_⟩
 ·have := rlx_le hN f hl hs ((0 : Nat) : Int) (by omega)
  have := hd.zero
  omega
 ·rw [rlx_rd hN f hl hs _ (by omega)]
  split
  ·rename_i h
   obtain ⟨c1, c2, c3⟩ := of_decide_eq_true h.1
   right
   rcases hd.fin (stFrom l s).toNat (by omega) with h2 | ⟨h2, k, hw⟩
   ·rw [show (((stFrom l s).toNat : Nat) : Int) = stFrom l s by omega] at h2; omega
   ·rw [show (((stFrom l s).toNat : Nat) : Int) = stFrom l s by omega] at h2 hw
    have h3 := Wy.step hw h2 (res_of hN f hs c1)
    rw [show (stTo l s).toNat = v by omega] at h3
    refine ⟨?_, _, h3⟩
    rcases hd.fin v hv with h4 | ⟨h4, _⟩
    ·rw [h.2] at h4; omega
    ·rw [h.2] at h4; omega
  ·exact hd.fin v hv
end
def Ini (n : Nat) (d : List Int) (i : Nat) : Prop := d.length = n ∧ ∀ v : Nat, v < n → rd d (v : Int) = if 0 < v ∧ v < i then 1152921504606846976 else 0
theorem rd_zer (n v : Nat) : rd (List.replicate n 0) (v : Int) = 0 := by
 unfold rd
 rw [List.getD_eq_getElem?_getD, List.getElem?_replicate]
 split <;> rfl
theorem ini_zero (n : Nat) : Ini n (List.replicate n 0) 1 := ⟨by simp, fun v hv => by rw [if_neg (by omega)]; exact rd_zer n v⟩
theorem ini_step {n : Nat} {d : List Int} {i : Nat} (h : Ini n d i) (h0 : 0 < i) (hi : i < n) : Ini n (d.set i 1152921504606846976) (i + 1) := by
 refine ⟨by rw [List.length_set]; exact h.1, fun v hv => ?_⟩
 rw [rd_setN d i v _ (by rw [h.1]; exact hi), h.2 v hv]
 by_cases e : i = v
 ·rw [if_pos e, if_pos ⟨by omega, by omega⟩]
 ·rw [if_neg e]
  by_cases c : 0 < v ∧ v < i
  ·rw [if_pos c, if_pos ⟨c.1, by omega⟩]
  ·rw [if_neg c, if_neg (by omega)]
theorem ini_okd {n : Nat} {E : Nat → Nat → Int → Prop} {d : List Int} (h : Ini n d n) (h0 : 0 < n) : Okd n E d := by
 refine ⟨h.1, ?_, fun v hv => ?_⟩
 ·rw [h.2 0 h0, if_neg (by omega)]; exact Int.le_refl _
 ·rw [h.2 v hv]
  by_cases c : 0 < v
  ·rw [if_pos ⟨c, hv⟩]; exact .inl rfl
  ·obtain rfl : v = 0 := by omega
   rw [if_neg (by omega)]
   exact .inr ⟨by omega, 0, Wy.zero⟩
end Go.Proofs.Ytkdemainohfgfaa.Pure
/- A way of pushes, back from node 1: a rank falls from step to step. -/
namespace Go.Proofs.Ytkdemainohfgfaa.Pure
open Go.RowKit Go.Proofs.Ytkdemainohfgfaa.Q Go.Proofs.YtkdemainohfgfaaW.PrintWords Go.Proofs.YtkdemainohfgfaaW.PrintLast
def psh (g : List Int) (s : ST) : List Int := g.set s.f0.toNat (if s.f1 = true then wrap64 (rd g s.f0 - 1) else wrap64 (rd g s.f0 + 1))
theorem psh_len (g : List Int) (s : ST) : (psh g s).length = g.length := by simp [psh]
theorem fold_len : ∀ (P : List ST) (g : List Int), (P.foldl psh g).length = g.length
 | [], g => rfl
 | s :: P, g => by rw [List.foldl_cons, fold_len P, psh_len]
theorem pushed_ev (g : List Int) (s : ST) (h0 : 0 ≤ s.f0) (h1 : s.f0 < g.length) : impl_pushed.f g s.f0 s.f1 1 = some (psh g s) := by
 unfold impl_pushed.f psh
 cases s.f1 with
 | true => rw [if_pos rfl, if_pos h0, if_pos h1, if_pos rfl, w64 (x := -1) (by omega) (by omega)]; rfl
 | false => rw [if_neg (by decide), if_pos h0, if_pos h1, if_neg (by decide)]
def dl (a : Int) (z : Nat) : Int := if a = (z : Int) then 1 else 0
def Xs (l : List AI) (g : List Int) (z : Nat) : Nat → Int
 | 0 => 0
 | m + 1 => Xs l g z m + rd g (m : Int) * (dl (rdA l (m : Int)).f0 z - dl (rdA l (m : Int)).f1 z)
theorem Xs_set (l : List AI) (g : List Int) (z i : Nat) (x : Int) (hi : i < g.length) : ∀ m, Xs l (g.set i x) z m = Xs l g z m + (if i < m then (x - rd g (i : Int)) * (dl (rdA l (i : Int)).f0 z - dl (rdA l (i : Int)).f1 z) else 0)
 | 0 => by simp [Xs]
 | m + 1 => by
  rw [Xs, Xs, Xs_set l g z i x hi m, rd_setN g i m x hi]
  by_cases e : i = m
  ·subst e
   rw [if_pos rfl, if_neg (by omega), if_pos (by omega), Int.sub_mul]
   omega
  ·rw [if_neg e]
   by_cases c : i < m
   ·rw [if_pos c, if_pos (by omega)]; omega
   ·rw [if_neg c, if_neg (by omega)]; omega
structure Fl (l : List AI) (f : List Int) (c : Int) : Prop where
 len : f.length = l.length
 fl : FlFrom l f 0
 bal : ∀ z : Nat, 2 ≤ z → Xs l f z l.length = 0
 sz : Xs l f 0 l.length = c
structure Pg (n : Int) (l : List AI) (f : List Int) (rk : Int → Int) (G : AI → Prop) (v : Nat) (P : List ST) (g : List Int) : Prop where
 fold : g = P.foldl psh f
 vn : v < n.toNat
 steps : ∀ s ∈ P, s ∈ stps l.length
 chg : ∀ i : Nat, (h : i < l.length) → rd g (i : Int) = rd f (i : Int) ∨ ((0 ≤ rd g (i : Int) ∧ rd g (i : Int) ≤ l[i].f2) ∧ (rk (v : Int) < rk l[i].f0 ∨ rk (v : Int) < rk l[i].f1) ∧ G l[i])
 bal : ∀ z : Nat, Xs l g z l.length = Xs l f z l.length + dl (v : Int) z - dl 1 z
 seen : ∃ L : List Nat, L.Nodup ∧ L.length = P.length + 1 ∧ ∀ z ∈ L, z < n.toNat ∧ rk (v : Int) ≤ rk (z : Int)
section
variable {n : Int} {l : List AI} (hN : Nok n l) {f : List Int} (hf : f.length = l.length) (hfl : FlFrom l f 0) {rk : Int → Int} {G : AI → Prop}
include hN hf hfl
theorem pg_step {v : Nat} {P : List ST} {g : List Int} (h : Pg n l f rk G v P g) {s : ST} (hs : s ∈ stps l.length) (ht : stTo l s = (v : Int)) (h1 : 0 < stRm l f s) (hmm : rk (stFrom l s) < rk (v : Int)) (hG : ∀ i : Nat, (hi : i < l.length) → s.f0 = (i : Int) → G l[i]) : Pg n l f rk G (stFrom l s).toNat (P ++ [s]) (psh g s) := by
 have hn := hN.1
 obtain ⟨⟨f1, f2⟩, ⟨t1, t2⟩, hne, p1, p2⟩ := st_facts hN hs
 obtain ⟨i, hi, hs0, hA, ⟨a1, a2⟩, ⟨b1, b2⟩, hab, ⟨r1, r2⟩, ⟨c1, c2⟩⟩ := st_arc hN hs
 have hu : (((stFrom l s).toNat : Nat) : Int) = stFrom l s := by omega
 have hends : (l[i].f0 = stFrom l s ∧ l[i].f1 = (v : Int) ∧ s.f1 = false ∧ stRm l f s = l[i].f2 - rd f (i : Int)) ∨ (l[i].f0 = (v : Int) ∧ l[i].f1 = stFrom l s ∧ s.f1 = true ∧ stRm l f s = rd f (i : Int)) := by
  unfold stFrom stTo stPr stRm at *
  rw [hA] at ht ⊢
  rw [hs0] at *
  cases hb : s.f1 with
  | false => left; rw [hb] at ht; simp only [Bool.false_eq_true, reduceIte] at ht ⊢; exact ⟨True.intro, ht, True.intro, True.intro⟩
  | true => right; rw [hb] at ht; simp only [reduceIte] at ht ⊢; exact ⟨ht, True.intro, True.intro, True.intro⟩
 have hgl : g.length = l.length := by rw [h.fold, fold_len, hf]
 have hsame : rd g (i : Int) = rd f (i : Int) := by
  rcases h.chg i hi with e | ⟨_, e, _⟩
  ·exact e
  ·exfalso
   rcases hends with ⟨x1, x2, _⟩ | ⟨x1, x2, _⟩
   ·rw [x1, x2] at e; omega
   ·rw [x1, x2] at e; omega
 have hx := hfl i (Nat.zero_le _) hi
 have hval : ∃ y : Int, psh g s = g.set i y ∧ (0 ≤ y ∧ y ≤ l[i].f2) ∧ (y - rd g (i : Int) = if s.f1 = true then -1 else 1) := by
  unfold psh
  rw [hs0, Int.toNat_natCast, hsame]
  rcases hends with ⟨_, _, x3, x5⟩ | ⟨_, _, x3, x5⟩
  ·rw [x3]
   refine ⟨rd f (i : Int) + 1, ?_, ⟨by omega, by omega⟩, ?_⟩
   ·rw [if_neg (by decide), w64 (by omega) (by omega)]
   ·rw [if_neg (by decide)]; omega
  ·rw [x3]
   refine ⟨rd f (i : Int) - 1, ?_, ⟨by omega, by omega⟩, ?_⟩
   ·rw [if_pos rfl, w64 (by omega) (by omega)]
   ·rw [if_pos rfl]; omega
 obtain ⟨y, hy, hyb, hyd⟩ := hval
 refine ⟨by rw [List.foldl_append, ← h.fold]; rfl, by omega, fun s' hs' => ?_, fun j hj => ?_, fun z => ?_, ?_⟩
 ·rcases List.mem_append.mp hs' with e | e
  ·exact h.steps s' e
  ·rw [List.mem_singleton.mp e]; exact hs
 ·rw [hy, rd_setN g i j y (by omega), hu]
  by_cases e : i = j
  ·subst e
   rw [if_pos rfl]
   right
   refine ⟨hyb, ?_, hG i hi hs0⟩
   rcases hends with ⟨x1, x2, _⟩ | ⟨x1, x2, _⟩
   ·right; rw [x2]; exact hmm
   ·left; rw [x1]; exact hmm
  ·rw [if_neg e]
   rcases h.chg j hj with c | ⟨c1, c2, c3⟩
   ·exact .inl c
   ·exact .inr ⟨c1, by omega, c3⟩
 ·have hXs := Xs_set l g z i y (by omega) l.length
  rw [if_pos hi, hyd, show rdA l (i : Int) = l[i] from rdA_get l i hi] at hXs
  rw [hy, hXs, h.bal z, hu]
  rcases hends with ⟨x1, x2, x3, _⟩ | ⟨x1, x2, x3, _⟩
  ·rw [x1, x2, x3, if_neg (by decide)]; omega
  ·rw [x1, x2, x3, if_pos rfl]; omega
 ·obtain ⟨L, l1, l2, l3⟩ := h.seen
  refine ⟨(stFrom l s).toNat :: L, List.nodup_cons.mpr ⟨fun hm => ?_, l1⟩, by rw [List.length_cons, List.length_append, List.length_singleton, l2], fun z hz => ?_⟩
  ·have := (l3 _ hm).2
   rw [hu] at this
   omega
  ·rcases List.mem_cons.mp hz with e | e
   ·rw [e]; exact ⟨by omega, Int.le_refl _⟩
   ·have := l3 z e
    rw [hu]
    exact ⟨this.1, by omega⟩
omit hf hfl in
theorem pg_nil : Pg n l f rk G 1 [] f := by
 have hn := hN.1
 refine ⟨rfl, by omega, fun s hs => (by cases hs), fun i hi => .inl rfl, fun z => ?_, [1], by simp, rfl, fun z hz => ?_⟩
 ·rw [show (((1 : Nat)) : Int) = 1 from rfl]; omega
 ·rw [List.mem_singleton.mp hz]; exact ⟨by omega, Int.le_refl _⟩
omit hf hfl in
theorem pg_len {v : Nat} {P : List ST} {g : List Int} (h : Pg n l f rk G v P g) : (P.length : Int) + 1 ≤ n := by
 have hn := hN.1
 obtain ⟨L, l1, l2, l3⟩ := h.seen
 have := php n.toNat L l1 (fun z hz => (l3 z hz).1)
 omega
omit hN hf hfl in
theorem fl_next {c : Int} (h : Fl l f c) {P : List ST} {g : List Int} (hp : Pg n l f rk G 0 P g) : Fl l g (c + 1) := by
 refine ⟨by rw [hp.fold, fold_len, h.len], fun j _ hj => ?_, fun z hz => ?_, ?_⟩
 ·rcases hp.chg j hj with e | ⟨e, _⟩
  ·rw [e]; exact h.fl j (Nat.zero_le _) hj
  ·exact e
 ·rw [hp.bal z, h.bal z hz]
  unfold dl
  rw [if_neg (by omega), if_neg (by omega)]
  rfl
 ·rw [hp.bal 0, h.sz]
  unfold dl
  rw [if_pos rfl, if_neg (by decide)]
  omega
omit hf hfl in
theorem fl_zero : Fl l (List.replicate l.length 0) 0 := by
 have hX : ∀ z m, Xs l (List.replicate l.length 0) z m = 0 := by
  intro z m
  induction m with
  | zero => rfl
  | succ m ih => rw [Xs, ih, rd_zer]; simp
 refine ⟨by simp, fun j _ hj => ?_, fun z _ => hX z _, hX 0 _⟩
 rw [rd_zer]
 have := (hN.2.2 j (Nat.zero_le _) hj).2.2.2.1
 omega
end
end Go.Proofs.Ytkdemainohfgfaa.Pure
/- A flow that is drawn: one unit after the other, each along a way with the fewest arcs. -/
namespace Go.Proofs.Ytkdemainohfgfaa.Pure
open Go.RowKit Go.Proofs.Ytkdemainohfgfaa.Q Go.Proofs.YtkdemainohfgfaaW.PrintWords Go.Proofs.YtkdemainohfgfaaW.PrintLast
theorem w_n (i : Nat) (h : i ≤ 1000000) : wrap64 ((wrap64 (-(i : Int))) - 1) = -(i : Int) - 1 := by rw [w64 (x := -(i : Int)) (by omega) (by omega), w64 (by omega) (by omega)]
theorem w_p (i : Nat) (h : i ≤ 1000000) : wrap64 ((i : Int) + 1 - 1) = (i : Int) := by rw [w64 (by omega) (by omega)]; omega
theorem w_m (i : Nat) (h : i ≤ 1000000) : wrap64 ((wrap64 (-(-(i : Int) - 1))) - 1) = (i : Int) := by rw [w64 (x := -(-(i : Int) - 1)) (by omega) (by omega), w64 (by omega) (by omega)]; omega
def cd (s : ST) : Int := if s.f1 = true then -s.f0 - 1 else s.f0 + 1
structure Bq (n : Int) (l : List AI) (f : List Int) (by' : List Int) (sn : List Bool) (Q : List Int) (rk : Int → Int) : Prop where
 bl : (by'.length : Int) = n
 sl : (sn.length : Int) = n
 nd : Q.Nodup
 rng : ∀ x ∈ Q, 0 ≤ x ∧ x < n
 rb : ∀ x ∈ Q, 0 ≤ rk x ∧ rk x < (Q.length : Int)
 sq : ∀ v : Int, 0 ≤ v → v < n → (rdB sn v = true ↔ v ∈ Q)
 par : ∀ x ∈ Q, x ≠ 0 → ∃ s ∈ stps l.length, rd by' x = cd s ∧ stTo l s = x ∧ 0 < stRm l f s ∧ stFrom l s ∈ Q ∧ rk (stFrom l s) < rk x
section
variable {n : Int} {l : List AI} (hN : Nok n l) {f : List Int}
include hN
theorem bq_ini : Bq n l f (List.replicate n.toNat 0) ((List.replicate n.toNat false).set 0 true) [0] (fun _ => 0) := by
 have hn := hN.1
 refine ⟨by simp; omega, by simp; omega, by simp, fun x hx => ?_, fun x hx => by simp, fun v h0 h1 => ?_, fun x hx h => absurd (List.mem_singleton.mp hx) h⟩
 ·rw [List.mem_singleton.mp hx]; omega
 ·have := rdB_set (List.replicate n.toNat false) 0 true (Int.le_refl _) (by simp; omega) v h0
  rw [show (0 : Int).toNat = 0 from rfl] at this
  rw [this]
  have hz : rdB (List.replicate n.toNat false) v = false := by
   unfold rdB rdOf
   rw [List.getD_eq_getElem?_getD, List.getElem?_replicate]
   split <;> rfl
  by_cases e : v = 0
  ·rw [if_pos e, e]; simp
  ·rw [if_neg e, hz]; simp [e]
theorem bq_add {by' : List Int} {sn : List Bool} {Q : List Int} {rk : Int → Int} (h : Bq n l f by' sn Q rk) {s : ST} (hs : s ∈ stps l.length) (h1 : 0 < stRm l f s) (hu : stFrom l s ∈ Q) (ht : rdB sn (stTo l s) = false) : ∃ rk', Bq n l f (by'.set (stTo l s).toNat (cd s)) (sn.set (stTo l s).toNat true) (Q ++ [stTo l s]) rk' := by
 have hn := hN.1
 obtain ⟨⟨f1, f2⟩, ⟨t1, t2⟩, hne, _⟩ := st_facts hN hs
 have hbl := h.bl
 have hsl := h.sl
 have hnt : stTo l s ∉ Q := fun hm => by
  have := (h.sq _ t1 t2).mpr hm
  rw [ht] at this; cases this
 refine ⟨fun z => if z = stTo l s then (Q.length : Int) else rk z, by rw [List.length_set]; exact hbl, by rw [List.length_set]; exact hsl, ?_, fun x hx => ?_, fun x hx => ?_, fun v h0 hv => ?_, fun x hx hx0 => ?_⟩
 ·refine List.nodup_append.mpr ⟨h.nd, by simp, fun x hx y hy e => ?_⟩
  rw [List.mem_singleton.mp hy] at e
  exact hnt (e ▸ hx)
 ·rcases List.mem_append.mp hx with e | e
  ·exact h.rng x e
  ·rw [List.mem_singleton.mp e]; exact ⟨t1, t2⟩
 ·rw [List.length_append, List.length_singleton]
  show 0 ≤ (if x = stTo l s then (Q.length : Int) else rk x) ∧ (if x = stTo l s then (Q.length : Int) else rk x) < _
  rcases List.mem_append.mp hx with e | e
  ·have := h.rb x e
   rw [if_neg (fun (z : x = stTo l s) => hnt (z ▸ e))]; omega
  ·rw [if_pos (List.mem_singleton.mp e)]; omega
 ·rw [rdB_set sn _ true t1 (by omega) v h0, List.mem_append, List.mem_singleton]
  by_cases e : v = stTo l s
  ·rw [if_pos e]; exact ⟨fun _ => .inr e, fun _ => rfl⟩
  ·rw [if_neg e, h.sq v h0 hv]
   exact ⟨fun z => .inl z, fun z => z.elim id (fun z => absurd z e)⟩
 ·rcases List.mem_append.mp hx with e | e
  ·obtain ⟨s', a1, a2, a3, a4, a5, a6⟩ := h.par x e hx0
   have hx1 := h.rng x e
   refine ⟨s', a1, ?_, a3, a4, List.mem_append_left _ a5, ?_⟩
   ·rw [rd_setA by' _ _ t1 (by omega) x hx1.1, if_neg (fun (z : x = stTo l s) => hnt (z ▸ e))]; exact a2
   ·show (if stFrom l s' = stTo l s then (Q.length : Int) else rk (stFrom l s')) < (if x = stTo l s then (Q.length : Int) else rk x)
    rw [if_neg (fun (z : stFrom l s' = stTo l s) => hnt (z ▸ a5)), if_neg (fun (z : x = stTo l s) => hnt (z ▸ e))]; exact a6
  ·rw [List.mem_singleton.mp e]
   refine ⟨s, hs, ?_, rfl, h1, List.mem_append_left _ hu, ?_⟩
   ·rw [rd_setA by' _ _ t1 (by omega) _ t1, if_pos rfl]
   ·show (if stFrom l s = stTo l s then (Q.length : Int) else rk (stFrom l s)) < (if stTo l s = stTo l s then (Q.length : Int) else rk (stTo l s))
    rw [if_neg hne, if_pos rfl]
    exact (h.rb _ hu).2
theorem bq_len {by' : List Int} {sn : List Bool} {Q : List Int} {rk : Int → Int} (h : Bq n l f by' sn Q rk) : (Q.length : Int) ≤ n := by
 have hn := hN.1
 have := phpI n.toNat Q h.nd (fun x hx => by have := h.rng x hx; omega)
 omega
variable (hf : f.length = l.length)
include hf
theorem ps_arc (x1 x6 x10 a : Int) (i : Nat) (hi : i < l.length) {by' : List Int} {sn : List Bool} {Q : List Int} {rk : Int → Int} (h : Bq n l f by' sn Q rk) (ha : a ∈ Q) : ∃ by2 sn2 R rk2, Bq n l f by2 sn2 (Q ++ R) rk2 ∧ ∀ k, spec_l06Pushed.l2 (k + 2) x1 f x6 by' sn Q x10 a (i : Int) n l = spec_l06Pushed.l2 k x1 f x6 by2 sn2 (Q ++ R) x10 a ((i + 1 : Nat) : Int) n l := by
 obtain ⟨⟨a1, a2⟩, ⟨b1, b2⟩, hne, ⟨r1, r2⟩, ⟨c1, c2⟩⟩ := hN.2.2 i (Nat.zero_le _) hi
 have hl := hN.2.1
 have hn := hN.1
 have hx := rdA_get l i hi
 obtain ⟨e1, e2, e3, e4⟩ := arcF f i hi
 obtain ⟨g1, g2, g3, g4⟩ := arcB f i hi
 have m0 : ∀ b, (⟨(i : Int), b⟩ : ST) ∈ stps l.length := fun b => (mem_stps _ _).mpr ⟨i, hi, rfl⟩
 have hbl := h.bl
 have hsl := h.sl
 have hQ := bq_len hN h
 have hi6 : i ≤ 1000000 := by omega
 have q1 : (i : Int) < (f.length : Int) := by omega
 have q2 : (0 : Int) ≤ (i : Int) := by omega
 have q3 : (i : Int) < (l.length : Int) := by omega
 have q4 : l[i].f1 < (sn.length : Int) := by omega
 have q5 : l[i].f0 < (sn.length : Int) := by omega
 have q6 : l[i].f1 < (by'.length : Int) := by omega
 have q7 : l[i].f0 < (by'.length : Int) := by omega
 have q8 : Q.length < 17592186044416 := by omega
 by_cases p1 : l[i].f0 = a
 ·have p2 : ¬ l[i].f1 = a := fun e => hne (p1.trans e.symm)
  cases p3 : rdOf false sn l[i].f1 with
  | true =>
   refine ⟨by', sn, [], rk, by rw [List.append_nil]; exact h, fun k => ?_⟩
   rw [List.append_nil, show k + 2 = (k + 1) + 1 from rfl, spec_l06Pushed.l2, if_pos q1, if_pos q2, if_pos q3, hx, if_pos p1, if_pos b1, if_pos q4, if_pos p3, spec_l06Pushed.j3, if_neg (by decide), if_neg p2, wsucc i hi6]
  | false =>
   by_cases p4 : rd f (i : Int) < l[i].f2
   ·obtain ⟨rk2, hb⟩ := bq_add hN h (m0 false) (by rw [e4]; omega) (by rw [e1, p1]; exact ha) (by rw [e2]; exact p3)
    rw [e2] at hb
    refine ⟨_, _, _, rk2, hb, fun k => ?_⟩
    rw [show k + 2 = (k + 1) + 1 from rfl, spec_l06Pushed.l2, if_pos q1, if_pos q2, if_pos q3, hx, if_pos p1, if_pos b1, if_pos q4, if_neg (by rw [p3]; decide), decide_eq_true p4, spec_l06Pushed.j3, if_pos rfl, if_pos b1, if_pos q4, Option.bind_some, if_pos q6, Option.bind_some, if_pos q8, Option.bind_some, if_neg p2, wsucc i hi6]
    rfl
   ·refine ⟨by', sn, [], rk, by rw [List.append_nil]; exact h, fun k => ?_⟩
    rw [List.append_nil, show k + 2 = (k + 1) + 1 from rfl, spec_l06Pushed.l2, if_pos q1, if_pos q2, if_pos q3, hx, if_pos p1, if_pos b1, if_pos q4, if_neg (by rw [p3]; decide), decide_eq_false p4, spec_l06Pushed.j3, if_neg (by decide), if_neg p2, wsucc i hi6]
 ·by_cases p2 : l[i].f1 = a
  ·cases p3 : rdOf false sn l[i].f0 with
   | true =>
    refine ⟨by', sn, [], rk, by rw [List.append_nil]; exact h, fun k => ?_⟩
    rw [List.append_nil, show k + 2 = (k + 1) + 1 from rfl, spec_l06Pushed.l2, if_pos q1, if_pos q2, if_pos q3, hx, if_neg p1, spec_l06Pushed.j3, if_neg (by decide), if_pos p2, if_pos a1, if_pos q5, if_pos p3, wsucc i hi6]
   | false =>
    by_cases p4 : rd f (i : Int) > 0
    ·obtain ⟨rk2, hb⟩ := bq_add hN h (m0 true) (by rw [g4]; omega) (by rw [g1, p2]; exact ha) (by rw [g2]; exact p3)
     rw [g2] at hb
     refine ⟨_, _, _, rk2, hb, fun k => ?_⟩
     rw [show k + 2 = (k + 1) + 1 from rfl, spec_l06Pushed.l2, if_pos q1, if_pos q2, if_pos q3, hx, if_neg p1, spec_l06Pushed.j3, if_neg (by decide), if_pos p2, if_pos a1, if_pos q5, if_neg (by rw [p3]; decide), if_pos q2, if_pos q1, if_pos p4, if_pos q7, if_pos q8, wsucc i hi6, w_n i hi6]
     rfl
    ·refine ⟨by', sn, [], rk, by rw [List.append_nil]; exact h, fun k => ?_⟩
     rw [List.append_nil, show k + 2 = (k + 1) + 1 from rfl, spec_l06Pushed.l2, if_pos q1, if_pos q2, if_pos q3, hx, if_neg p1, spec_l06Pushed.j3, if_neg (by decide), if_pos p2, if_pos a1, if_pos q5, if_neg (by rw [p3]; decide), if_pos q2, if_pos q1, if_neg p4, wsucc i hi6]
  ·refine ⟨by', sn, [], rk, by rw [List.append_nil]; exact h, fun k => ?_⟩
   rw [List.append_nil, show k + 2 = (k + 1) + 1 from rfl, spec_l06Pushed.l2, if_pos q1, if_pos q2, if_pos q3, hx, if_neg p1, spec_l06Pushed.j3, if_neg (by decide), if_neg p2, wsucc i hi6]
theorem ps_l2 (x1 x6 x10 a : Int) : ∀ (e i : Nat) (by' : List Int) (sn : List Bool) (Q : List Int) (rk : Int → Int), i + e = l.length → Bq n l f by' sn Q rk → a ∈ Q → ∃ by2 sn2 R rk2, Bq n l f by2 sn2 (Q ++ R) rk2 ∧ ∀ k, spec_l06Pushed.l2 (k + 2 * e + 1) x1 f x6 by' sn Q x10 a (i : Int) n l = spec_l06Pushed.l1 k x1 f x6 by2 sn2 (Q ++ R) (wrap64 (x10 + 1)) n l
 | 0, i, by', sn, Q, rk, hi, h, ha => by
  refine ⟨by', sn, [], rk, by rw [List.append_nil]; exact h, fun k => ?_⟩
  rw [List.append_nil, show k + 2 * 0 + 1 = k + 1 by omega, spec_l06Pushed.l2, if_neg (by omega)]
 | e + 1, i, by', sn, Q, rk, hi, h, ha => by
  obtain ⟨by2, sn2, R, rk2, h2, g2⟩ := ps_arc hN hf x1 x6 x10 a i (by omega) h ha
  obtain ⟨by3, sn3, R3, rk3, h3, g3⟩ := ps_l2 x1 x6 x10 a e (i + 1) _ _ _ _ (by omega) h2 (List.mem_append_left _ ha)
  refine ⟨by3, sn3, R ++ R3, rk3, by rw [← List.append_assoc]; exact h3, fun k => ?_⟩
  rw [show k + 2 * (e + 1) + 1 = (k + 2 * e + 1) + 2 by omega, g2, g3, List.append_assoc]
theorem ps_l1 (x1 x6 : Int) : ∀ (e h : Nat) (by' : List Int) (sn : List Bool) (Q : List Int) (rk : Int → Int), (h : Int) + e = n → Bq n l f by' sn Q rk → (0 : Int) ∈ Q → ∃ by2 sn2 Q2 rk2 c, (Bq n l f by2 sn2 Q2 rk2 ∧ (0 : Int) ∈ Q2) ∧ ∀ k, spec_l06Pushed.l1 (k + c) x1 f x6 by' sn Q (h : Int) n l = (if rdOf false sn2 1 = true then (spec_l06Pushed.l3 k x1 f x6 by2 1 n l) else (some f)) := by
 have hn := hN.1
 intro e
 induction e with
 | zero =>
  intro h by' sn Q rk he hb h0
  have hq := bq_len hN hb
  have hs := hb.sl
  refine ⟨by', sn, Q, rk, 1, ⟨hb, h0⟩, fun k => ?_⟩
  rw [spec_l06Pushed.l1, if_neg (by omega), if_pos (by omega)]
 | succ e ih =>
  intro h by' sn Q rk he hb h0
  by_cases c : h < Q.length
  ·obtain ⟨by2, sn2, R, rk2, h2, g2⟩ := ps_l2 hN hf x1 x6 (h : Int) (rd Q (h : Int)) l.length 0 by' sn Q rk (Nat.zero_add _) hb (by rw [rd_get Q h c]; exact List.getElem_mem _)
   obtain ⟨by3, sn3, Q3, rk3, c3, h3, g3⟩ := ih (h + 1) by2 sn2 (Q ++ R) rk2 (by omega) h2 (List.mem_append_left _ h0)
   refine ⟨by3, sn3, Q3, rk3, c3 + 2 * l.length + 2, h3, fun k => ?_⟩
   rw [show k + (c3 + 2 * l.length + 2) = (k + c3 + 2 * l.length + 1) + 1 by omega, spec_l06Pushed.l1, if_pos (by omega), if_pos (by omega), show (0 : Int) = ((0 : Nat) : Int) from rfl, g2, wsucc h (by omega)]
   exact g3 k
  ·have hs := hb.sl
   refine ⟨by', sn, Q, rk, 1, ⟨hb, h0⟩, fun k => ?_⟩
   rw [spec_l06Pushed.l1, if_neg (by omega), if_pos (by omega)]
variable (hfl : FlFrom l f 0)
include hfl
theorem ps_l3 (x1 x6 : Int) {by' : List Int} {sn : List Bool} {Q : List Int} {rk : Int → Int} (h : Bq n l f by' sn Q rk) : ∀ (M v : Nat) (P : List ST) (g : List Int), (v : Int) ∈ Q → rk (v : Int) ≤ (M : Int) → Pg n l f rk (fun _ => True) v P g → ∃ P' g' c, Pg n l f rk (fun _ => True) 0 P' g' ∧ ∀ k, spec_l06Pushed.l3 (k + c) x1 g x6 by' (v : Int) n l = spec_l06Pushed.l0 k x1 g' (wrap64 (x6 + 1)) n l := by
 have hn := hN.1
 have hl := hN.2.1
 have hbl := h.bl
 have step : ∀ (v : Nat) (P : List ST) (g : List Int), v ≠ 0 → (v : Int) ∈ Q → Pg n l f rk (fun _ => True) v P g → ∃ u : Nat, ∃ s, (u : Int) ∈ Q ∧ rk (u : Int) < rk (v : Int) ∧ Pg n l f rk (fun _ => True) u (P ++ [s]) (psh g s) ∧ ∀ k, spec_l06Pushed.l3 (k + 1) x1 g x6 by' (v : Int) n l = spec_l06Pushed.l3 k x1 (psh g s) x6 by' (u : Int) n l := by
  intro v P g hv0 hv hp
  obtain ⟨s, hs, p1, p2, p3, p4, p5⟩ := h.par _ hv (by omega)
  obtain ⟨⟨f1, f2⟩, _⟩ := st_facts hN hs
  obtain ⟨i, hi, hs0, hA, _⟩ := st_arc hN hs
  have hgl : g.length = l.length := by rw [hp.fold, fold_len, hf]
  have hr := h.rng _ hv
  have hi6 : i ≤ 1000000 := by omega
  have hu : (((stFrom l s).toNat : Nat) : Int) = stFrom l s := by omega
  refine ⟨(stFrom l s).toNat, s, by rw [hu]; exact p4, by rw [hu]; exact p5, pg_step hN hf hfl hp hs p2 p3 p5 (fun _ _ _ => trivial), fun k => ?_⟩
  rw [spec_l06Pushed.l3, if_neg (by omega), if_pos (by omega), if_pos (by omega), p1, hu]
  unfold psh cd
  rw [hs0] at hA ⊢
  unfold stFrom
  rw [hs0]
  cases s.f1 with
  | false =>
   simp only [Bool.false_eq_true, reduceIte]
   rw [if_pos (by omega), w_p i hi6, if_pos (by omega), if_pos (by omega), if_pos (by omega)]
  | true =>
   simp only [reduceIte]
   rw [if_neg (by omega), w_m i hi6, if_pos (by omega), if_pos (by omega), if_pos (by omega)]
 intro M
 induction M with
 | zero =>
  intro v P g hv hM hp
  by_cases hv0 : v = 0
  ·subst hv0
   exact ⟨P, g, 1, hp, fun k => by rw [spec_l06Pushed.l3, if_pos (by omega)]⟩
  ·obtain ⟨u, s, q1, q2, _⟩ := step v P g hv0 hv hp
   have := h.rb _ q1
   omega
 | succ M ih =>
  intro v P g hv hM hp
  by_cases hv0 : v = 0
  ·subst hv0
   exact ⟨P, g, 1, hp, fun k => by rw [spec_l06Pushed.l3, if_pos (by omega)]⟩
  ·obtain ⟨u, s, q1, q2, q3, q4⟩ := step v P g hv0 hv hp
   obtain ⟨P', g', c, w1, w2⟩ := ih u _ _ q1 (by omega) q3
   exact ⟨P', g', c + 1, w1, fun k => by rw [show k + (c + 1) = (k + c) + 1 by omega, q4]; exact w2 k⟩
end
theorem ps_l0 {n : Int} {l : List AI} (hN : Nok n l) (sz : Nat) (hsz : sz ≤ 1000) : ∀ (e kx : Nat) (f : List Int), kx + e = sz → Fl l f (kx : Int) → ∃ F m K, (Fl l F m ∧ 0 ≤ m ∧ m ≤ (sz : Int)) ∧ ∀ k, K ≤ k → spec_l06Pushed.l0 k (sz : Int) f (kx : Int) n l = some F
 | 0, kx, f, he, h => by
  refine ⟨f, kx, 1, ⟨h, by omega, by omega⟩, fun k hk => ?_⟩
  obtain ⟨k, rfl⟩ : ∃ m, k = m + 1 := ⟨k - 1, by omega⟩
  rw [spec_l06Pushed.l0, if_neg (by omega)]
 | e + 1, kx, f, he, h => by
  have hn := hN.1
  obtain ⟨by2, sn2, Q2, rk2, c, ⟨h2, h0⟩, g2⟩ := ps_l1 hN h.len (sz : Int) (kx : Int) n.toNat 0 _ _ _ _ (by omega) (bq_ini (f := f) hN) (by simp)
  have hd : ∀ k, spec_l06Pushed.l0 (k + 1) (sz : Int) f (kx : Int) n l = spec_l06Pushed.l1 k (sz : Int) f (kx : Int) (List.replicate n.toNat 0) ((List.replicate n.toNat false).set 0 true) [0] 0 n l := fun k => by
   rw [spec_l06Pushed.l0, if_pos (by omega), if_pos (by omega), if_pos (by omega), if_pos (by omega), Option.bind_some, if_pos (by simp; omega)]
   rfl
  cases hb : rdOf false sn2 1 with
  | false =>
   refine ⟨f, kx, c + 2, ⟨h, by omega, by omega⟩, fun k hk => ?_⟩
   obtain ⟨k, rfl⟩ : ∃ m, k = (m + c) + 1 := ⟨k - c - 1, by omega⟩
   rw [hd]
   refine (g2 k).trans ?_
   rw [if_neg (by rw [hb]; decide)]
  | true =>
   have h1 : ((1 : Nat) : Int) ∈ Q2 := (h2.sq 1 (by omega) (by omega)).mp hb
   have hr := (h2.rb _ h1)
   obtain ⟨P', g', c', w1, w2⟩ := ps_l3 hN h.len h.fl (sz : Int) (kx : Int) h2 (rk2 ((1 : Nat) : Int)).toNat 1 [] f h1 (by omega) (pg_nil hN)
   have hnx := fl_next h w1
   obtain ⟨F, m, K, r1, r2⟩ := ps_l0 hN sz hsz e (kx + 1) g' (by omega) hnx
   refine ⟨F, m, K + c + c' + 1, r1, fun k hk => ?_⟩
   obtain ⟨k, rfl⟩ : ∃ m, k = ((m + c') + c) + 1 := ⟨k - c - c' - 1, by omega⟩
   rw [hd]
   refine (g2 _).trans ?_
   rw [if_pos hb]
   refine (w2 k).trans ?_
   rw [wsucc kx (by omega)]
   exact r2 k (by omega)
theorem ps_ev {n : Int} {l : List AI} (hN : Nok n l) (sz : Int) (h0 : 0 ≤ sz) (h1 : sz ≤ 8) : ∃ F m K, (Fl l F m ∧ 0 ≤ m ∧ m ≤ 8) ∧ ∀ k, K ≤ k → spec_l06Pushed.f k n l sz = some F := by
 obtain ⟨F, m, K, ⟨r1, r2, r3⟩, r4⟩ := ps_l0 hN sz.toNat (by omega) sz.toNat 0 _ (by omega) (fl_zero hN)
 have hl := hN.2.1
 refine ⟨F, m, K, ⟨r1, r2, by omega⟩, fun k hk => ?_⟩
 have := r4 k hk
 unfold spec_l06Pushed.f
 rw [show ((sz.toNat : Nat) : Int) = sz by omega] at this
 rw [if_pos (by omega), if_pos (by omega), Int.toNat_natCast]
 exact this
end Go.Proofs.Ytkdemainohfgfaa.Pure
/- What a flow pays, and what prices at the nodes say of it. -/
namespace Go.Proofs.Ytkdemainohfgfaa.Pure
open Go.RowKit Go.Proofs.Ytkdemainohfgfaa.Q Go.Proofs.YtkdemainohfgfaaW.PrintWords Go.Proofs.YtkdemainohfgfaaW.PrintLast
def cs (l : List AI) (f : List Int) : Nat → Int
 | 0 => 0
 | m + 1 => cs l f m + rd f (m : Int) * (rdA l (m : Int)).f3
def sg (l : List AI) (f : List Int) (φ : Int → Int) : Nat → Int
 | 0 => 0
 | m + 1 => sg l f φ m + rd f (m : Int) * (φ (rdA l (m : Int)).f0 - φ (rdA l (m : Int)).f1)
def zs (φ : Int → Int) (X : Nat → Int) : Nat → Int
 | 0 => 0
 | N + 1 => zs φ X N + φ (N : Int) * X N
theorem zs_add (φ : Int → Int) (X Y : Nat → Int) : ∀ N, zs φ (fun z => X z + Y z) N = zs φ X N + zs φ Y N
 | 0 => rfl
 | N + 1 => by simp only [zs]; rw [zs_add φ X Y N, Int.mul_add]; omega
theorem zs_dl (φ : Int → Int) (x a : Int) (ha : 0 ≤ a) : ∀ N : Nat, zs φ (fun z => x * dl a z) N = if a < (N : Int) then x * φ a else 0
 | 0 => by rw [if_neg (by omega)]; rfl
 | N + 1 => by
  simp only [zs]
  rw [zs_dl φ x a ha N]
  unfold dl
  by_cases e : a = (N : Int)
  ·rw [if_pos e, if_neg (by omega), if_pos (by omega), e, Int.mul_one, Int.mul_comm]; omega
  ·rw [if_neg e, Int.mul_zero, Int.mul_zero]
   by_cases c : a < (N : Int)
   ·rw [if_pos c, if_pos (by omega)]; omega
   ·rw [if_neg c, if_neg (by omega)]; rfl
theorem zs_two (φ : Int → Int) (X : Nat → Int) (h : ∀ z, 2 ≤ z → X z = 0) : ∀ N, zs φ X (N + 2) = φ 0 * X 0 + φ 1 * X 1
 | 0 => by simp only [zs]; rw [show (((0 : Nat)) : Int) = 0 from rfl, show ((0 + 1 : Nat) : Int) = 1 from rfl]; omega
 | N + 1 => by rw [show N + 1 + 2 = (N + 2) + 1 by omega, zs, zs_two φ X h N, h (N + 2) (by omega), Int.mul_zero]; omega
theorem tm_le (x y c a b r : Int) (hx : 0 ≤ x ∧ x ≤ r) (hy : 0 ≤ y ∧ y ≤ r) (h1 : y < r → b ≤ a + c) (h2 : 0 < y → a ≤ b - c) : 0 ≤ x * c + x * (a - b) - (y * c + y * (a - b)) ∧ (x * c + x * (a - b) - (y * c + y * (a - b)) = 0 → (x < r → b ≤ a + c) ∧ (0 < x → a ≤ b - c)) := by
 have e : x * c + x * (a - b) - (y * c + y * (a - b)) = (x - y) * (c + (a - b)) := by
  rw [Int.sub_mul, Int.mul_add, Int.mul_add]
 rw [e]
 rcases Int.lt_trichotomy (c + (a - b)) 0 with w | w | w
 ·have hy : y = r := by
   rcases Int.lt_or_le y r with q | q
   ·have := h1 q; omega
   ·omega
  refine ⟨Int.mul_nonneg_of_nonpos_of_nonpos (by omega) (by omega), fun z => ?_⟩
  rcases Int.mul_eq_zero.mp z with q | q
  ·exact ⟨fun _ => by omega, fun _ => by omega⟩
  ·omega
 ·rw [w, Int.mul_zero]
  exact ⟨Int.le_refl _, fun _ => ⟨fun _ => by omega, fun _ => by omega⟩⟩
 ·have hy : y = 0 := by
   rcases Int.lt_or_le 0 y with q | q
   ·have := h2 q; omega
   ·omega
  refine ⟨Int.mul_nonneg (by omega) (by omega), fun z => ?_⟩
  rcases Int.mul_eq_zero.mp z with q | q
  ·exact ⟨fun _ => by omega, fun _ => by omega⟩
  ·omega
def Ap (l : List AI) (f : List Int) (φ : Int → Int) : Prop := ∀ i : Nat, (h : i < l.length) → (rd f (i : Int) < l[i].f2 → φ l[i].f1 ≤ φ l[i].f0 + l[i].f3) ∧ (0 < rd f (i : Int) → φ l[i].f0 ≤ φ l[i].f1 - l[i].f3)
section
variable {n : Int} {l : List AI} (hN : Nok n l)
include hN
theorem sg_zs (f : List Int) (φ : Int → Int) : ∀ m, m ≤ l.length → sg l f φ m = zs φ (fun z => Xs l f z m) n.toNat
 | 0, _ => by
  have : ∀ N, zs φ (fun z => Xs l f z 0) N = 0 := by
   intro N
   induction N with
   | zero => rfl
   | succ N ih => simp only [zs, Xs] at ih ⊢; rw [ih]; omega
  rw [this]; rfl
 | m + 1, hm => by
  obtain ⟨⟨a1, a2⟩, ⟨b1, b2⟩, _⟩ := hN.2.2 m (Nat.zero_le _) (by omega)
  have hx : rdA l (m : Int) = l[m] := rdA_get l m (by omega)
  have e : (fun z => Xs l f z (m + 1)) = (fun z => Xs l f z m + (rd f (m : Int) * dl l[m].f0 z + (-rd f (m : Int)) * dl l[m].f1 z)) := by
   funext z
   rw [Xs, hx, Int.mul_sub, Int.neg_mul]
   omega
  rw [sg, e, zs_add, zs_add φ (fun z => rd f (m : Int) * dl l[m].f0 z) (fun z => (-rd f (m : Int)) * dl l[m].f1 z), ← sg_zs f φ m (by omega), zs_dl φ _ _ a1, zs_dl φ _ _ b1, if_pos (by omega), if_pos (by omega), hx, Int.mul_sub, Int.neg_mul]
  omega
theorem dual {f : List Int} {c : Int} (h : Fl l f c) (φ : Int → Int) : sg l f φ l.length = (φ 0 - φ 1) * c := by
 have hn := hN.1
 obtain ⟨N, hN2⟩ : ∃ N, n.toNat = N + 2 := ⟨n.toNat - 2, by omega⟩
 have key : ∀ φ, sg l f φ l.length = φ 0 * Xs l f 0 l.length + φ 1 * Xs l f 1 l.length := fun φ => by
  rw [sg_zs hN f φ _ (Nat.le_refl _), hN2, zs_two φ _ h.bal]
 have one : ∀ m, sg l f (fun _ => 1) m = 0 := by
  intro m
  induction m with
  | zero => rfl
  | succ m ih => rw [sg, ih]; simp
 have e := key (fun _ => 1)
 rw [one] at e
 rw [key φ, h.sz, show Xs l f 1 l.length = -c by have := h.sz; omega, Int.sub_mul, Int.mul_neg]
 omega
theorem best {b f : List Int} {c : Int} (hb : Fl l b c) (hf : Fl l f c) (φ : Int → Int) (hp : Ap l b φ) : cs l b l.length ≤ cs l f l.length ∧ (cs l b l.length = cs l f l.length → Ap l f φ) := by
 have key : ∀ m, m ≤ l.length → 0 ≤ cs l f m + sg l f φ m - (cs l b m + sg l b φ m) ∧ (cs l f m + sg l f φ m - (cs l b m + sg l b φ m) = 0 → ∀ i : Nat, i < m → (h : i < l.length) → (rd f (i : Int) < l[i].f2 → φ l[i].f1 ≤ φ l[i].f0 + l[i].f3) ∧ (0 < rd f (i : Int) → φ l[i].f0 ≤ φ l[i].f1 - l[i].f3)) := by
  intro m
  induction m with
  | zero => exact fun _ => ⟨by simp [cs, sg], fun _ i hi => by omega⟩
  | succ m ih =>
   intro hm
   obtain ⟨i1, i2⟩ := ih (by omega)
   have hx : rdA l (m : Int) = l[m] := rdA_get l m (by omega)
   obtain ⟨p1, p2⟩ := hp m (by omega)
   obtain ⟨t1, t2⟩ := tm_le (rd f (m : Int)) (rd b (m : Int)) l[m].f3 (φ l[m].f0) (φ l[m].f1) l[m].f2 (hf.fl m (Nat.zero_le _) (by omega)) (hb.fl m (Nat.zero_le _) (by omega)) p1 p2
   simp only [cs, sg, hx]
   generalize rd f (m : Int) * l[m].f3 = A at *
   generalize rd f (m : Int) * (φ l[m].f0 - φ l[m].f1) = B at *
   generalize rd b (m : Int) * l[m].f3 = C at *
   generalize rd b (m : Int) * (φ l[m].f0 - φ l[m].f1) = D at *
   refine ⟨by omega, fun z i hi h => ?_⟩
   by_cases e : i = m
   ·subst e; exact t2 (by omega)
   ·exact i2 (by omega) i (by omega) h
 obtain ⟨k1, k2⟩ := key l.length (Nat.le_refl _)
 rw [dual hN hb φ, dual hN hf φ] at k1 k2
 exact ⟨by omega, fun e i hi => k2 (by omega) i hi hi⟩
theorem cut {f F : List Int} {c m : Int} (hf : Fl l f c) (hF : Fl l F m) (φ : Int → Int) (h01 : φ 0 = 1 ∧ φ 1 = 0) (hφ : ∀ z, φ z = 0 ∨ φ z = 1) (h : ∀ i : Nat, (h : i < l.length) → (φ l[i].f0 = 1 → φ l[i].f1 = 0 → rd f (i : Int) = l[i].f2) ∧ (φ l[i].f0 = 0 → φ l[i].f1 = 1 → rd f (i : Int) = 0)) : m ≤ c := by
 have key : ∀ k, k ≤ l.length → sg l F φ k ≤ sg l f φ k := by
  intro k
  induction k with
  | zero => exact fun _ => Int.le_refl _
  | succ k ih =>
   intro hk
   have := ih (by omega)
   have hx : rdA l (k : Int) = l[k] := rdA_get l k (by omega)
   obtain ⟨h1, h2⟩ := h k (by omega)
   have g1 := hF.fl k (Nat.zero_le _) (by omega)
   simp only [sg, hx]
   rcases hφ l[k].f0 with a | a <;> rcases hφ l[k].f1 with b | b
   ·rw [a, b]; omega
   ·have := h2 a b
    rw [a, b, this]; omega
   ·have := h1 a b
    rw [a, b, this]; omega
   ·rw [a, b]; omega
 have := key l.length (Nat.le_refl _)
 rw [dual hN hf φ, dual hN hF φ, h01.1, h01.2] at this
 omega
theorem res_ap {f : List Int} (φ : Int → Int) (h : Ap l f φ) (u v : Nat) (c : Int) (hr : Res l f u v c) : φ (v : Int) ≤ φ (u : Int) + c := by
 obtain ⟨s, hs, h1, h2, h3, h4⟩ := hr
 obtain ⟨i, hi, hs0, _⟩ := st_arc hN hs
 obtain ⟨p1, p2⟩ := h i hi
 have hse : s = ⟨(i : Int), s.f1⟩ := by rw [← hs0]
 obtain ⟨e1, e2, e3, e4⟩ := arcF f i hi
 obtain ⟨g1, g2, g3, g4⟩ := arcB f i hi
 cases hb : s.f1 with
 | false =>
  rw [hb] at hse
  rw [hse] at h1 h2 h3 h4
  rw [e4] at h1; rw [e1] at h2; rw [e2] at h3; rw [e3] at h4
  rw [← h2, ← h3, ← h4]
  exact p1 (by omega)
 | true =>
  rw [hb] at hse
  rw [hse] at h1 h2 h3 h4
  rw [g4] at h1; rw [g1] at h2; rw [g2] at h3; rw [g3] at h4
  rw [← h2, ← h3, ← h4]
  have := p2 h1
  omega
end
end Go.Proofs.Ytkdemainohfgfaa.Pure
/- The program's prices: where some prices fit a flow at all, its rounds come to an end with such. -/
namespace Go.Proofs.Ytkdemainohfgfaa.Pure
open Go.RowKit Go.Proofs.Ytkdemainohfgfaa.Q Go.Proofs.YtkdemainohfgfaaW.PrintWords Go.Proofs.YtkdemainohfgfaaW.PrintLast
inductive Pt (E : Nat → Nat → Int → Prop) (p : List Int) : Nat → List Nat → Int → Prop
 | one {v : Nat} : rd p (v : Int) ≤ 0 → Pt E p v [v] 0
 | step {u v : Nat} {L : List Nat} {x c : Int} : Pt E p u L x → E u v c → rd p (v : Int) ≤ x + c → Pt E p v (v :: L) (x + c)
theorem pt_mono {E : Nat → Nat → Int → Prop} {p p' : List Int} (h : ∀ v : Nat, rd p' (v : Int) ≤ rd p (v : Int)) : ∀ {v L x}, Pt E p v L x → Pt E p' v L x := by
 intro v L x ht
 induction ht with
 | one h0 => exact Pt.one (Int.le_trans (h _) h0)
 | step ht he hx ih => exact Pt.step ih he (Int.le_trans (h _) hx)
theorem pt_pot {E : Nat → Nat → Int → Prop} {p : List Int} (q : Nat → Int) (hq : ∀ u v c, E u v c → q v ≤ q u + c) : ∀ {v L x}, Pt E p v L x → ∀ z ∈ L, rd p (z : Int) - q z ≤ x - q v := by
 intro v L x ht
 induction ht with
 | one h0 => intro z hz; rw [List.mem_singleton.mp hz]; omega
 | step ht he hx ih =>
  intro z hz
  have := hq _ _ _ he
  rcases List.mem_cons.mp hz with e | e
  ·rw [e]; omega
  ·have := ih z e; omega
theorem pt_low {E : Nat → Nat → Int → Prop} (hE : ∀ u v c, E u v c → -100 ≤ c) {p : List Int} : ∀ {v L x}, Pt E p v L x → 1 ≤ L.length ∧ -(100 * ((L.length : Int) - 1)) ≤ x := by
 intro v L x ht
 induction ht with
 | one h0 => simp
 | step ht he hx ih => have := hE _ _ _ he; rw [List.length_cons]; omega
def Qt (E : Nat → Nat → Int → Prop) (n : Nat) (p : List Int) (u : Nat) (m : Nat) : Prop := ∃ L, Pt E p u L (rd p (u : Int)) ∧ L.Nodup ∧ m ≤ L.length ∧ ∀ z ∈ L, z < n
def rb (l : List AI) (f p : List Int) (s : ST) : Bool := decide (0 < stRm l f s ∧ rd p (stFrom l s) + stPr l s < rd p (stTo l s))
def rx (l : List AI) (f p : List Int) (s : ST) : List Int := if rb l f p s = true then p.set (stTo l s).toNat (rd p (stFrom l s) + stPr l s) else p
structure Br (n : Int) (l : List AI) (f : List Int) (r : Nat) (D : List ST) (T : Nat) (p : List Int) (b : Bool) : Prop where
 len : (p.length : Int) = n
 bnd : ∀ v : Int, 0 ≤ v → v < n → -(100 * (T : Int)) ≤ rd p v ∧ rd p v ≤ 0
 still : b = false → ∀ s ∈ D, 0 < stRm l f s → rd p (stTo l s) ≤ rd p (stFrom l s) + stPr l s
 pth : (∃ q : Nat → Int, ∀ u v c, Res l f u v c → q v ≤ q u + c) → (∀ v : Nat, v < n.toNat → Qt (Res l f) n.toNat p v 1) ∧ (∀ s ∈ stps l.length, 0 < stRm l f s → rd p (stTo l s) ≤ rd p (stFrom l s) + stPr l s ∨ Qt (Res l f) n.toNat p (stFrom l s).toNat (r + 1)) ∧ (∀ s ∈ D, 0 < stRm l f s → rd p (stTo l s) ≤ rd p (stFrom l s) + stPr l s ∨ Qt (Res l f) n.toNat p (stFrom l s).toNat (r + 2)) ∧ (b = true → r + 2 ≤ n.toNat)
section
variable {n : Int} {l : List AI} (hN : Nok n l) {f : List Int}
include hN
theorem br_step {r : Nat} {D : List ST} {T : Nat} {p : List Int} {b : Bool} (h : Br n l f r D T p b) {s : ST} (hs : s ∈ stps l.length) (hD : ∀ s ∈ D, s ∈ stps l.length) : Br n l f r (D ++ [s]) (T + 1) (rx l f p s) (rb l f p s || b) := by
 have hn := hN.1
 have hl := h.len
 obtain ⟨⟨f1, f2⟩, ⟨t1, t2⟩, hne, p1, p2⟩ := st_facts hN hs
 cases hb : rb l f p s with
 | false =>
  have hr : rx l f p s = p := by unfold rx; rw [if_neg (by rw [hb]; decide)]
  have hc := of_decide_eq_false hb
  rw [hr, Bool.false_or]
  refine ⟨hl, fun v h0 h1 => by have := h.bnd v h0 h1; omega, fun e s' hs' h1 => ?_, fun hq => ?_⟩
  ·rcases List.mem_append.mp hs' with c | c
   ·exact h.still e s' c h1
   ·rw [List.mem_singleton.mp c] at h1 ⊢; omega
  ·obtain ⟨g1, g2, g3, g4⟩ := h.pth hq
   refine ⟨g1, g2, fun s' hs' h1 => ?_, g4⟩
   rcases List.mem_append.mp hs' with c | c
   ·exact g3 s' c h1
   ·rw [List.mem_singleton.mp c] at h1 ⊢; left; omega
 | true =>
  have hr : rx l f p s = p.set (stTo l s).toNat (rd p (stFrom l s) + stPr l s) := by unfold rx; rw [if_pos hb]
  obtain ⟨c1, c2⟩ := of_decide_eq_true hb
  have hrd : ∀ v : Int, 0 ≤ v → rd (rx l f p s) v = if v = stTo l s then rd p (stFrom l s) + stPr l s else rd p v := fun v hv => by
   rw [hr]; exact rd_setA p _ _ t1 (by omega) v hv
  have hle : ∀ v : Nat, rd (rx l f p s) (v : Int) ≤ rd p (v : Int) := fun v => by
   rw [hrd _ (by omega)]
   split
   ·rename_i e; rw [e]; omega
   ·exact Int.le_refl _
  have hfr : rd (rx l f p s) (stFrom l s) = rd p (stFrom l s) := by rw [hrd _ f1, if_neg hne]
  have hto : rd (rx l f p s) (stTo l s) = rd p (stFrom l s) + stPr l s := by rw [hrd _ t1, if_pos rfl]
  refine ⟨by rw [hr, List.length_set]; exact hl, fun v h0 h1 => ?_, fun e => (by cases e), fun hq => ?_⟩
  ·have q1 := h.bnd v h0 h1
   have q2 := h.bnd _ f1 f2
   have q3 := h.bnd _ t1 t2
   rw [hrd v h0]
   split <;> omega
  ·obtain ⟨g1, g2, g3, g4⟩ := h.pth hq
   obtain ⟨q, hq⟩ := hq
   have hres := res_of hN f hs c1
   have hu : (((stFrom l s).toNat : Nat) : Int) = stFrom l s := by omega
   have ht : (((stTo l s).toNat : Nat) : Int) = stTo l s := by omega
   -- the way to the step's end, by a way to its start
   have new : ∀ m, Qt (Res l f) n.toNat p (stFrom l s).toNat m → Qt (Res l f) n.toNat (rx l f p s) (stTo l s).toNat (m + 1) := by
    rintro m ⟨L, k1, k2, k3, k4⟩
    rw [hu] at k1
    refine ⟨(stTo l s).toNat :: L, ?_, List.nodup_cons.mpr ⟨fun hm => ?_, k2⟩, by rw [List.length_cons]; omega, fun z hz => ?_⟩
    ·rw [ht, hto]
     exact Pt.step (pt_mono hle k1) hres (by rw [ht, hto]; exact Int.le_refl _)
    ·have := pt_pot q hq k1 _ hm
     have := hq _ _ _ hres
     rw [ht] at *
     omega
    ·rcases List.mem_cons.mp hz with e | e
     ·rw [e]; omega
     ·exact k4 z e
   have old : ∀ (z m : Nat), (z : Int) ≠ stTo l s → Qt (Res l f) n.toNat p z m → Qt (Res l f) n.toNat (rx l f p s) z m := by
    rintro z m hz ⟨L, k1, k2, k3, k4⟩
    refine ⟨L, ?_, k2, k3, k4⟩
    rw [hrd _ (by omega), if_neg hz]
    exact pt_mono hle k1
   have less : ∀ {p : List Int} {z m m' : Nat}, m' ≤ m → Qt (Res l f) n.toNat p z m → Qt (Res l f) n.toNat p z m' := by
    rintro p z m m' hm ⟨L, k1, k2, k3, k4⟩
    exact ⟨L, k1, k2, by omega, k4⟩
   have hQ1 : Qt (Res l f) n.toNat p (stFrom l s).toNat (r + 1) := by
    rcases g2 s hs c1 with e | e
    ·omega
    ·exact e
   have hT := new _ hQ1
   have keep : ∀ (m : Nat), m ≤ r + 2 → ∀ s' ∈ stps l.length, (rd p (stTo l s') ≤ rd p (stFrom l s') + stPr l s' ∨ Qt (Res l f) n.toNat p (stFrom l s').toNat m) → rd (rx l f p s) (stTo l s') ≤ rd (rx l f p s) (stFrom l s') + stPr l s' ∨ Qt (Res l f) n.toNat (rx l f p s) (stFrom l s').toNat m := by
    intro m hm s' hs' hh
    obtain ⟨⟨f1', f2'⟩, ⟨t1', t2'⟩, _⟩ := st_facts hN hs'
    by_cases e : stFrom l s' = stTo l s
    ·right; rw [e]; exact less hm hT
    ·rcases hh with hh | hh
     ·left
      rw [hrd _ f1', if_neg e]
      have := hle (stTo l s').toNat
      rw [show (((stTo l s').toNat : Nat) : Int) = stTo l s' by omega] at this
      omega
     ·right
      exact old _ _ (by omega) hh
   refine ⟨fun v hv => ?_, fun s' hs' h1 => keep _ (by omega) s' hs' (g2 s' hs' h1), fun s' hs' h1 => ?_, fun _ => ?_⟩
   ·by_cases e : (v : Int) = stTo l s
    ·have : v = (stTo l s).toNat := by omega
     rw [this]; exact less (by omega) hT
    ·exact old v 1 e (g1 v hv)
   ·rcases List.mem_append.mp hs' with c | c
    ·exact keep _ (Nat.le_refl _) s' (hD s' c) (g3 s' c h1)
    ·left
     rw [List.mem_singleton.mp c, hto, hfr]
     exact Int.le_refl _
   ·obtain ⟨L, k1, k2, k3, k4⟩ := hT
    have := php n.toNat L k2 k4
    omega
theorem price_ev {s : ST} (hs : s ∈ stps l.length) : impl_step_price.f s.f0 s.f1 n l = some (stPr l s) := by
 obtain ⟨i, h, h1, h2, _, _, _, _, ⟨c1, c2⟩⟩ := st_arc hN hs
 unfold impl_step_price.f stPr
 rw [show rd_T53 l s.f0 = l[i] from h2, show rdA l s.f0 = l[i] from h2, w64 (x := -l[i].f3) (by omega) (by omega)]
 cases s.f1
 ·simp only [Bool.false_eq_true, reduceIte]; rw [if_pos (by omega), if_pos (by omega)]
 ·simp only [reduceIte]; rw [if_pos (by omega), if_pos (by omega)]
variable (hf : f.length = l.length) (hfl : FlFrom l f 0)
include hf hfl
theorem w_pr (x c : Int) (T : Nat) (hT : T ≤ 100000000) (hx : -(100 * (T : Int)) ≤ x ∧ x ≤ 0) (hc : -100 ≤ c ∧ c ≤ 100) : wrap64 (x + c) = x + c := w64 (by omega) (by omega)
theorem bm_l2 (r : Int) (i : Int) (Y : List ST) (j : Nat) (hj : j < Y.length) (hY : Y.length ≤ 2) (hs : Y[j] ∈ stps l.length) {r0 : Nat} {D : List ST} {T : Nat} (hT : T ≤ 100000000) {p : List Int} {b : Bool} (h : Br n l f r0 D T p b) (k : Nat) : impl_PricesOf.l2 (k + 1) f p r b (l.length : Int) i Y (Y.length : Int) (j : Int) n l = impl_PricesOf.l2 k f (rx l f p Y[j]) r (rb l f p Y[j] || b) (l.length : Int) i Y (Y.length : Int) ((j + 1 : Nat) : Int) n l := by
 have hl := h.len
 obtain ⟨⟨f1, f2⟩, ⟨t1, t2⟩, hne, p1, p2⟩ := st_facts hN hs
 obtain ⟨hroom, hr0⟩ := room_ev hN hs f hf hfl
 have hr : rd_T57 Y (j : Int) = Y[j] := by simp [rd_T57, hj]
 rw [impl_PricesOf.l2, if_pos (by omega), if_pos (by omega), if_pos (by omega), hr, ends_ev hN hs, Option.bind_some, hroom, Option.bind_some, price_ev hN hs]
 simp only
 rw [Option.bind_some, wsucc j (by omega), w_pr hN hf hfl _ _ T hT (h.bnd _ f1 f2) ⟨p1, p2⟩]
 by_cases c1 : stRm l f Y[j] > 0
 ·rw [if_pos c1, if_pos f1, if_pos (by omega), if_pos t1, if_pos (by omega)]
  by_cases c2 : rd p (stFrom l Y[j]) + stPr l Y[j] < rd p (stTo l Y[j])
  ·have hb : rb l f p Y[j] = true := decide_eq_true ⟨c1, c2⟩
   have hx : rx l f p Y[j] = p.set (stTo l Y[j]).toNat (rd p (stFrom l Y[j]) + stPr l Y[j]) := by unfold rx; rw [if_pos hb]
   rw [if_pos c2, Option.bind_some, w_pr hN hf hfl _ _ T hT (h.bnd _ f1 f2) ⟨p1, p2⟩, hb, hx, Bool.true_or]
  ·have hb : rb l f p Y[j] = false := decide_eq_false (fun h => c2 h.2)
   have hx : rx l f p Y[j] = p := by unfold rx; rw [if_neg (by rw [hb]; decide)]
   rw [if_neg c2, hb, hx, Bool.false_or]
 ·have hb : rb l f p Y[j] = false := decide_eq_false (fun h => c1 h.1)
  have hx : rx l f p Y[j] = p := by unfold rx; rw [if_neg (by rw [hb]; decide)]
  rw [if_neg c1, hb, hx, Bool.false_or]
theorem bm_l1 (r : Nat) (hr : (r : Int) ≤ n) : ∀ (e i : Nat) (T : Nat) (p : List Int) (b : Bool), i + e = l.length → T + 2 * e ≤ 100000000 → Br n l f r (stps i) T p b → ∃ p' b', Br n l f r (stps l.length) (T + 2 * e) p' b' ∧ ∀ k, impl_PricesOf.l1 (k + 4 * e + 1) f p (r : Int) b (l.length : Int) (i : Int) n l = (if b' = true then impl_PricesOf.l0 k f p' ((r + 1 : Nat) : Int) n l else some (p', true))
 | 0, i, T, p, b, hi, hT, h => by
  obtain rfl : i = l.length := by omega
  have hn := hN.1
  refine ⟨p, b, h, fun k => ?_⟩
  rw [show k + 4 * 0 + 1 = k + 1 by omega, impl_PricesOf.l1, if_neg (by omega), wsucc r (by omega)]
 | e + 1, i, T, p, b, hi, hT, h => by
  have m0 : ∀ b, (⟨(i : Int), b⟩ : ST) ∈ stps l.length := fun b => (mem_stps _ _).mpr ⟨i, by omega, rfl⟩
  have hl := hN.2.1
  have hD : ∀ s ∈ stps i, s ∈ stps l.length := fun s hs => by
   obtain ⟨j, h1, h2⟩ := (mem_stps _ _).mp hs
   exact (mem_stps _ _).mpr ⟨j, by omega, h2⟩
  have h1 := br_step hN h (m0 false) hD
  have hD1 : ∀ s ∈ stps i ++ [⟨(i : Int), false⟩], s ∈ stps l.length := fun s hs => by
   rcases List.mem_append.mp hs with c | c
   ·exact hD s c
   ·rw [List.mem_singleton.mp c]; exact m0 false
  have h2 := br_step hN h1 (m0 true) hD1
  rw [List.append_assoc] at h2
  obtain ⟨p', b', g1, g2⟩ := bm_l1 r hr e (i + 1) (T + 1 + 1) _ _ (by omega) (by omega) (show Br n l f r (stps (i + 1)) _ _ _ from h2)
  refine ⟨p', b', by rw [show T + 2 * (e + 1) = T + 1 + 1 + 2 * e by omega]; exact g1, fun k => ?_⟩
  have s0 := fun k => bm_l2 hN hf hfl (r : Int) (i : Int) (stp2 i) 0 (by simp [stp2]) (by simp [stp2]) (m0 false) (by omega) h k
  have s1 := fun k => bm_l2 hN hf hfl (r : Int) (i : Int) (stp2 i) 1 (by simp [stp2]) (by simp [stp2]) (m0 true) (by omega) h1 k
  rw [show k + 4 * (e + 1) + 1 = (k + 4 * e + 1) + 4 by omega, ← g2]
  rw [show k + 4 * e + 1 + 4 = (k + 4 * e + 1 + 3) + 1 by omega, impl_PricesOf.l1, if_pos (by omega), Option.bind_some]
  refine Eq.trans (Eq.trans (s0 (k + 4 * e + 1 + 2)) (s1 (k + 4 * e + 1 + 1))) ?_
  rw [impl_PricesOf.l2, if_neg (by simp [stp2]), wsucc i (by omega)]
  rfl
theorem bm_l0 : ∀ (e r : Nat) (T : Nat) (p : List Int), (r : Int) + e = n + 1 → T + 6400 * e ≤ 100000000 → Br n l f r [] T p false → ((∃ q : Nat → Int, ∀ u v c, Res l f u v c → q v ≤ q u + c) → (r : Int) ≤ n) → ∃ v K, ((v.2 = true → Ap l f (fun z => rd v.1 z) ∧ (v.1.length : Int) = n) ∧ ((∃ q : Nat → Int, ∀ u v c, Res l f u v c → q v ≤ q u + c) → v.2 = true ∧ ∀ z : Int, 0 ≤ z → z < n → -150000 ≤ rd v.1 z ∧ rd v.1 z ≤ 0) ∧ v.1.length ≤ 1500) ∧ ∀ k, K ≤ k → impl_PricesOf.l0 k f p (r : Int) n l = some v
 | 0, r, T, p, hr, hT, h, hq => by
  have hn := hN.1
  refine ⟨([], false), 1, ⟨fun e => (by cases e), fun hp => absurd (hq hp) (by omega), by simp⟩, fun k hk => ?_⟩
  obtain ⟨k, rfl⟩ : ∃ m, k = m + 1 := ⟨k - 1, by omega⟩
  rw [impl_PricesOf.l0, if_neg (by omega)]
 | e + 1, r, T, p, hr, hT, h, hq => by
  have hn := hN.1
  have hl := hN.2.1
  obtain ⟨p', b', g1, g2⟩ := bm_l1 hN hf hfl r (by omega) l.length 0 T p false (by omega) (by omega) h
  have hhead : ∀ k, impl_PricesOf.l0 (k + 4 * l.length + 2) f p (r : Int) n l = (if b' = true then impl_PricesOf.l0 k f p' ((r + 1 : Nat) : Int) n l else some (p', true)) := fun k => by
   rw [← g2 k, show k + 4 * l.length + 2 = (k + 4 * l.length + 1) + 1 by omega, impl_PricesOf.l0, if_pos (by omega)]
   rfl
  have hlen := g1.len
  cases b' with
  | false =>
   refine ⟨(p', true), 4 * l.length + 2, ⟨fun _ => ⟨fun i hi => ?_, hlen⟩, fun hp => ⟨rfl, fun z z0 z1 => ⟨?_, (g1.bnd z z0 z1).2⟩⟩, by show p'.length ≤ 1500; omega⟩, fun k hk => ?_⟩
   ·have m0 : ∀ b, (⟨(i : Int), b⟩ : ST) ∈ stps l.length := fun b => (mem_stps _ _).mpr ⟨i, hi, rfl⟩
    obtain ⟨e1, e2, e3, e4⟩ := arcF f i hi
    obtain ⟨a1, a2, a3, a4⟩ := arcB f i hi
    have t1 := g1.still rfl _ (m0 false)
    have t2 := g1.still rfl _ (m0 true)
    rw [e1, e2, e3, e4] at t1
    rw [a1, a2, a3, a4] at t2
    refine ⟨fun c => t1 (by omega), fun c => ?_⟩
    have := t2 c
    show rd p' l[i].f0 ≤ rd p' l[i].f1 - l[i].f3
    omega
   ·obtain ⟨L, k1, k2, k3, k4⟩ := (g1.pth hp).1 z.toNat (by omega)
    have := php n.toNat L k2 k4
    have := (pt_low (fun u v c he => (res_ok hN f u v c he).2.1) k1).2
    rw [show ((z.toNat : Nat) : Int) = z by omega] at this
    show -150000 ≤ rd p' z
    omega
   ·obtain ⟨k, rfl⟩ : ∃ m, k = m + 4 * l.length + 2 := ⟨k - 4 * l.length - 2, by omega⟩
    rw [hhead, if_neg (by decide)]
  | true =>
   obtain ⟨v, K, r1, r2⟩ := bm_l0 e (r + 1) (T + 2 * l.length) p' (by omega) (by omega) ⟨hlen, g1.bnd, fun _ s hs => (by cases hs), fun hp => ⟨(g1.pth hp).1, (g1.pth hp).2.2.1, fun s hs => (by cases hs), fun e => (by cases e)⟩⟩ (fun hp => by have := (g1.pth hp).2.2.2 rfl; omega)
   refine ⟨v, K + 4 * l.length + 2, r1, fun k hk => ?_⟩
   obtain ⟨k, rfl⟩ : ∃ m, k = m + 4 * l.length + 2 := ⟨k - 4 * l.length - 2, by omega⟩
   rw [hhead, if_pos rfl]
   exact r2 k (by omega)
theorem bm_ev : ∃ v K, ((v.2 = true → Ap l f (fun z => rd v.1 z) ∧ (v.1.length : Int) = n) ∧ ((∃ q : Nat → Int, ∀ u v c, Res l f u v c → q v ≤ q u + c) → v.2 = true ∧ ∀ z : Int, 0 ≤ z → z < n → -150000 ≤ rd v.1 z ∧ rd v.1 z ≤ 0) ∧ v.1.length ≤ 1500) ∧ ∀ k, K ≤ k → impl_PricesOf.l0 k f (List.replicate n.toNat 0) 0 n l = some v := by
 have hn := hN.1
 refine bm_l0 hN hf hfl (n.toNat + 1) 0 0 (List.replicate n.toNat 0) (by omega) (by omega) ⟨by simp; omega, fun v h0 h1 => ?_, fun _ s hs => (by cases hs), fun hp => ⟨fun v hv => ?_, fun s hs h1 => ?_, fun s hs => (by cases hs), fun e => (by cases e)⟩⟩ (fun _ => by omega)
 ·obtain ⟨v, rfl⟩ := Int.eq_ofNat_of_zero_le h0
  rw [rd_zer]; omega
 ·exact ⟨[v], by rw [rd_zer]; exact Pt.one (by rw [rd_zer]; exact Int.le_refl _), by simp, by simp, fun z hz => by rw [List.mem_singleton.mp hz]; exact hv⟩
 ·right
  obtain ⟨⟨f1, f2⟩, _⟩ := st_facts hN hs
  exact ⟨[(stFrom l s).toNat], by rw [rd_zer]; exact Pt.one (by rw [rd_zer]; exact Int.le_refl _), by simp, by simp, fun z hz => by rw [List.mem_singleton.mp hz]; omega⟩
end
end Go.Proofs.Ytkdemainohfgfaa.Pure
/- The program's distances: a queue of nodes, until no label gets less. -/
namespace Go.Proofs.Ytkdemainohfgfaa.Pure
open Go.RowKit Go.Proofs.Ytkdemainohfgfaa.Q Go.Proofs.YtkdemainohfgfaaW.PrintWords Go.Proofs.YtkdemainohfgfaaW.PrintLast
def sumI : List Int → Int
 | [] => 0
 | x :: xs => x + sumI xs
theorem sumI_set : ∀ (l : List Int) (i : Nat) (x : Int), i < l.length → sumI (l.set i x) = sumI l - rd l (i : Int) + x
 | [], i, x, h => by simp at h
 | y :: ys, 0, x, h => by simp only [List.set_cons_zero, sumI]; have : rd (y :: ys) ((0 : Nat) : Int) = y := rfl; rw [this]; omega
 | y :: ys, i + 1, x, h => by
  have h2 : i < ys.length := by simpa using h
  have e : rd (y :: ys) ((i + 1 : Nat) : Int) = rd ys (i : Int) := by rw [rd_get _ _ h, rd_get _ _ h2]; rfl
  simp only [List.set_cons_succ, sumI]
  rw [sumI_set ys i x h2, e]; omega
theorem sumI_low (B : Int) : ∀ (l : List Int), (∀ x ∈ l, -B ≤ x) → -(B * l.length) ≤ sumI l
 | [], _ => by simp [sumI]
 | y :: ys, h => by
  have := sumI_low B ys (fun x hx => h x (List.mem_cons_of_mem _ hx))
  have := h y (by simp)
  simp only [sumI, List.length_cons]
  rw [show B * (((ys.length + 1 : Nat)) : Int) = B * ys.length + B by rw [Int.natCast_add, Int.mul_add]; simp]
  omega
section
variable (n : Int) (l : List AI) (f : List Int)
structure Sp (d : List Int) (w : List Bool) (Q : List Int) : Prop where
 ok : Okd n.toNat (Res l f) d
 wl : (w.length : Int) = n
 nd : Q.Nodup
 rng : ∀ x ∈ Q, (0 ≤ x ∧ x < n) ∧ rd d x < 1152921504606846976
 wq : ∀ v : Int, 0 ≤ v → v < n → rdB w v = true → v ∈ Q
 qw : ∀ x ∈ Q.tail, rdB w x = true
 tight : ∀ u v c, Res l f u v c → rd d (u : Int) < 1152921504606846976 → (u : Int) ∈ Q ∨ rd d (v : Int) ≤ rd d (u : Int) + (10000 * c + 1)
structure Si (a : Int) (D : List ST) (d : List Int) (w : List Bool) (T : List Int) : Prop where
 ok : Okd n.toNat (Res l f) d
 wl : (w.length : Int) = n
 an : (0 ≤ a ∧ a < n) ∧ rd d a < 1152921504606846976
 nd : (a :: T).Nodup
 rng : ∀ x ∈ T, (0 ≤ x ∧ x < n) ∧ rd d x < 1152921504606846976
 wq : ∀ v : Int, 0 ≤ v → v < n → rdB w v = true → v ∈ T
 qw : ∀ x ∈ T, rdB w x = true
 tight : ∀ u v c, Res l f u v c → rd d (u : Int) < 1152921504606846976 → (u : Int) ≠ a → (u : Int) ∈ T ∨ rd d (v : Int) ≤ rd d (u : Int) + (10000 * c + 1)
 done : ∀ s ∈ D, 0 < stRm l f s → rd d (stTo l s) ≤ rd d a + (10000 * stPr l s + 1)
end
section
variable {n : Int} {l : List AI} (hN : Nok n l) (f : List Int)
include hN
theorem si_skip {a : Int} {D : List ST} {d : List Int} {w : List Bool} {T : List Int} (h : Si n l f a D d w T) {s : ST} (hs : s ∈ stps l.length) (ha : stFrom l s = a) (hc : rc l f d s = false) : Si n l f a (D ++ [s]) d w T :=
 ⟨h.ok, h.wl, h.an, h.nd, h.rng, h.wq, h.qw, h.tight, fun s' hs' h1 => by
  rcases List.mem_append.mp hs' with e | e
  ·exact h.done s' e h1
  ·rw [List.mem_singleton.mp e] at h1 ⊢
   have := of_decide_eq_false hc
   rw [ha] at this
   have h2 := h.an.2
   by_cases c : rd d a + (10000 * stPr l s + 1) < rd d (stTo l s)
   ·exact absurd ⟨h1, h2, c⟩ this
   ·omega⟩
theorem si_relax {a : Int} {D : List ST} {d : List Int} {w : List Bool} {T : List Int} (h : Si n l f a D d w T) {s : ST} (hs : s ∈ stps l.length) (ha : stFrom l s = a) (hc : rc l f d s = true) (w' : List Bool) (T' : List Int) (hw : (rdB w (stTo l s) = true ∧ w' = w ∧ T' = T) ∨ (rdB w (stTo l s) = false ∧ w' = w.set (stTo l s).toNat true ∧ T' = T ++ [stTo l s])) : Si n l f a (D ++ [s]) (rlx l f d s) w' T' := by
 have hn := hN.1
 have hl : (d.length : Int) = n := by rw [h.ok.len]; omega
 obtain ⟨⟨f1, f2⟩, ⟨t1, t2⟩, hne, _⟩ := st_facts hN hs
 obtain ⟨c1, c2, c3⟩ := of_decide_eq_true hc
 have hle := rlx_le hN f hl hs
 have hra : rd (rlx l f d s) a = rd d a := by
  rw [rlx_rd hN f hl hs a h.an.1.1, if_neg (fun e => hne (by rw [ha]; exact e.2))]
 have hrt : rd (rlx l f d s) (stTo l s) = rd d a + (10000 * stPr l s + 1) := by rw [rlx_rd hN f hl hs _ t1, if_pos ⟨hc, rfl⟩, ha]
 have hfin : ∀ v : Nat, v < n.toNat → rd d (v : Int) ≤ 1152921504606846976 := fun v hv => by
  rcases h.ok.fin v hv with e | e
  ·omega
  ·omega
 have htf : rd (rlx l f d s) (stTo l s) < 1152921504606846976 := by
  have := hfin (stTo l s).toNat (by omega)
  rw [show (((stTo l s).toNat : Nat) : Int) = stTo l s by omega] at this
  rw [hrt]; rw [ha] at c3; omega
 have hin : stTo l s ∈ T' := by
  rcases hw with ⟨e1, _, e3⟩ | ⟨_, _, e3⟩
  ·rw [e3]; exact h.wq _ t1 t2 e1
  ·rw [e3]; simp
 have hsub : ∀ x ∈ T, x ∈ T' := fun x hx => by
  rcases hw with ⟨_, _, e3⟩ | ⟨_, _, e3⟩
  ·rw [e3]; exact hx
  ·rw [e3]; exact List.mem_append_left _ hx
 have hmem : ∀ x ∈ T', x ∈ T ∨ x = stTo l s := fun x hx => by
  rcases hw with ⟨_, _, e3⟩ | ⟨_, _, e3⟩
  ·rw [e3] at hx; exact .inl hx
  ·rw [e3] at hx
   rcases List.mem_append.mp hx with e | e
   ·exact .inl e
   ·exact .inr (List.mem_singleton.mp e)
 have hdone : ∀ s' ∈ D ++ [s], 0 < stRm l f s' → rd (rlx l f d s) (stTo l s') ≤ rd (rlx l f d s) a + (10000 * stPr l s' + 1) := fun s' hs' h1 => by
  rw [hra]
  rcases List.mem_append.mp hs' with e | e
  ·have := h.done s' e h1
   have h3 : 0 ≤ stTo l s' ∨ ¬ 0 ≤ stTo l s' := Decidable.em _
   rcases h3 with h3 | h3
   ·have := hle _ h3
    omega
   ·have e0 : ∀ x : List Int, rd x (stTo l s') = rd x 0 := fun x => by unfold rd; rw [show (stTo l s').toNat = 0 by omega]; rfl
    rw [e0] at this ⊢
    have := hle 0 (Int.le_refl _)
    omega
  ·rw [List.mem_singleton.mp e, hrt]
   exact Int.le_refl _
 have hwv : ∀ v : Int, 0 ≤ v → (rdB w' v = true ↔ (rdB w v = true ∨ v = stTo l s)) := fun v hv => by
  rcases hw with ⟨e1, e2, _⟩ | ⟨e1, e2, _⟩
  ·rw [e2]
   exact ⟨fun h => .inl h, fun h => h.elim id (fun e => by rw [e]; exact e1)⟩
  ·rw [e2, rdB_set w _ true t1 (by rw [h.wl]; exact t2) v hv]
   by_cases e : v = stTo l s
   ·rw [if_pos e]; exact ⟨fun _ => .inr e, fun _ => rfl⟩
   ·rw [if_neg e]; exact ⟨fun h => .inl h, fun h => h.elim id (fun z => absurd z e)⟩
 refine ⟨rlx_okd hN f h.ok hs, ?_, ⟨h.an.1, by rw [hra]; exact h.an.2⟩, ?_, fun x hx => ?_, fun v h0 h1 hv => ?_, fun x hx => ?_, fun u v c hr hu hua => ?_, hdone⟩
 ·rcases hw with ⟨_, e2, _⟩ | ⟨_, e2, _⟩
  ·rw [e2]; exact h.wl
  ·rw [e2, List.length_set]; exact h.wl
 ·rcases hw with ⟨_, _, e3⟩ | ⟨e1, _, e3⟩
  ·rw [e3]; exact h.nd
  ·rw [e3]
   obtain ⟨n1, n2⟩ := List.nodup_cons.mp h.nd
   refine List.nodup_cons.mpr ⟨fun hx => ?_, ?_⟩
   ·rcases List.mem_append.mp hx with e | e
    ·exact n1 e
    ·exact hne (by rw [ha]; exact List.mem_singleton.mp e)
   ·refine List.nodup_append.mpr ⟨n2, by simp, fun x hx y hy e => ?_⟩
    rw [List.mem_singleton.mp hy] at e
    have := h.qw x hx
    rw [e, e1] at this
    cases this
 ·rcases hmem x hx with e | e
  ·obtain ⟨r1, r2⟩ := h.rng x e
   exact ⟨r1, by have := hle x r1.1; omega⟩
  ·rw [e]; exact ⟨⟨t1, t2⟩, htf⟩
 ·rcases (hwv v h0).mp hv with e | e
  ·exact hsub v (h.wq v h0 h1 e)
  ·rw [e]; exact hin
 ·rcases hmem x hx with e | e
  ·exact (hwv x (h.rng x e).1.1).mpr (.inl (h.qw x e))
  ·exact (hwv x (by omega)).mpr (.inr e)
 ·by_cases e : (u : Int) = stTo l s
  ·left; rw [e]; exact hin
  ·have hu2 : rd (rlx l f d s) (u : Int) = rd d (u : Int) := by rw [rlx_rd hN f hl hs _ (by omega), if_neg (fun z => e z.2)]
   rw [hu2] at hu ⊢
   rcases h.tight u v c hr hu hua with g | g
   ·exact .inl (hsub _ g)
   ·right
    have := hle (v : Int) (by omega)
    omega
theorem sum_rlx {d : List Int} (hd : (d.length : Int) = n) {s : ST} (hs : s ∈ stps l.length) (hc : rc l f d s = true) : sumI (rlx l f d s) + 1 ≤ sumI d := by
 obtain ⟨_, ⟨t1, t2⟩, _⟩ := st_facts hN hs
 have := (of_decide_eq_true hc).2.2
 unfold rlx
 rw [if_pos hc, sumI_set d _ _ (by omega), show (((stTo l s).toNat : Nat) : Int) = stTo l s by omega]
 omega
variable (hf : f.length = l.length) (hfl : FlFrom l f 0) (q : Nat → Int) (hq : ∀ u v c, Res l f u v c → q v ≤ q u + c) (R : Int) (hR : ∀ v, 0 ≤ q v ∧ q v ≤ R) (hR8 : R ≤ 100000000)
include hf hfl hq hR hR8
theorem di_step (LV : List (List ST)) (Y : List ST) (hY : ∀ s ∈ Y, s ∈ stps l.length) (hYl : Y.length ≤ 6400) (a : Int) (hYa : ∀ s ∈ Y, stFrom l s = a) (j : Nat) (hj : j < Y.length) {d : List Int} {w : List Bool} {T : List Int} (h : Si n l f a (Y.take j) d w T) : ∃ d' w' T', Si n l f a (Y.take (j + 1)) d' w' T' ∧ 2 * sumI d' + (T'.length : Int) ≤ 2 * sumI d + (T.length : Int) ∧ ∀ k, impl_distances.l2 (k + 2) LV f d w (a :: T) a Y (Y.length : Int) (j : Int) n l = impl_distances.l2 k LV f d' w' (a :: T') a Y (Y.length : Int) ((j + 1 : Nat) : Int) n l := by
 have hn := hN.1
 have hs : Y[j] ∈ stps l.length := hY _ (List.getElem_mem _)
 have ha : stFrom l Y[j] = a := hYa _ (List.getElem_mem _)
 have hr : rd_T57 Y (j : Int) = Y[j] := by simp [rd_T57, hj]
 have e9 : wrap64 ((j : Int) + 1) = ((j + 1 : Nat) : Int) := by rw [w64 (by omega) (by omega)]; rfl
 have et : Y.take (j + 1) = Y.take j ++ [Y[j]] := List.take_succ_eq_append_getElem hj
 have hdl : (d.length : Int) = n := by rw [h.ok.len]; omega
 obtain ⟨hroom, hr0⟩ := room_ev hN hs f hf hfl
 obtain ⟨⟨f1, f2⟩, ⟨t1, t2⟩, hne, p1, p2⟩ := st_facts hN hs
 have hB := okd_bnd f q hq R hR hR8 (by omega) h.ok
 obtain ⟨b1, b2⟩ := hB.2 a h.an.1.1 h.an.1.2
 have ew : wrap64 (rd d a + (10000 * stPr l Y[j] + 1)) = rd d a + (10000 * stPr l Y[j] + 1) := w64 (by omega) (by omega)
 have hlen := phpI n.toNat (a :: T) h.nd (fun x hx => by
  rcases List.mem_cons.mp hx with e | e
  ·have := h.an.1; rw [e]; omega
  ·have := (h.rng x e).1; omega)
 have head : ∀ k, impl_distances.l2 (k + 2) LV f d w (a :: T) a Y (Y.length : Int) (j : Int) n l = impl_distances.j3 (k + 1) LV f d w (a :: T) a (stTo l Y[j]) (rd d a + (10000 * stPr l Y[j] + 1)) Y (Y.length : Int) (j : Int) (!(rc l f d Y[j])) n l := fun k => by
  rw [show k + 2 = (k + 1) + 1 by omega, impl_distances.l2, if_pos (by omega), if_pos (by omega), if_pos (by omega), hr, ends_ev hN hs, Option.bind_some, if_pos h.an.1.1, if_pos (by have := h.an.1; omega), length_ev hN hs, Option.bind_some, hroom, Option.bind_some]
  simp only
  rw [ew]
  by_cases c1 : stRm l f Y[j] = 0
  ·rw [if_pos c1]
   congr 1
   unfold rc
   rw [decide_eq_false (fun z => by omega)]; rfl
  ·rw [if_neg c1, if_pos t1, if_pos (by omega)]
   congr 1
   unfold rc
   rw [ha]
   by_cases c2 : rd d a + (10000 * stPr l Y[j] + 1) < rd d (stTo l Y[j])
   ·rw [decide_eq_true (⟨by omega, h.an.2, c2⟩ : 0 < stRm l f Y[j] ∧ _), decide_eq_false (by omega)]; rfl
   ·rw [decide_eq_false (fun z => c2 z.2.2 : ¬ (0 < stRm l f Y[j] ∧ rd d a < 1152921504606846976 ∧ rd d a + (10000 * stPr l Y[j] + 1) < rd d (stTo l Y[j]))), decide_eq_true (by omega)]; rfl
 cases hc : rc l f d Y[j] with
 | false =>
  refine ⟨d, w, T, by rw [et]; exact si_skip hN f h hs ha hc, Int.le_refl _, fun k => ?_⟩
  rw [head k, hc, impl_distances.j3, if_pos (by decide), e9]
 | true =>
  have hrl : d.set (stTo l Y[j]).toNat (rd d a + (10000 * stPr l Y[j] + 1)) = rlx l f d Y[j] := by unfold rlx; rw [if_pos hc, ha]
  have hsum := sum_rlx hN f hdl hs hc
  by_cases c3 : rdOf false w (stTo l Y[j]) = true
  ·refine ⟨rlx l f d Y[j], w, T, by rw [et]; exact si_relax hN f h hs ha hc w T (.inl ⟨c3, rfl, rfl⟩), by omega, fun k => ?_⟩
   rw [head k, hc, impl_distances.j3, if_neg (by decide), if_pos t1, if_pos (by omega), Option.bind_some, if_pos (by have := h.wl; omega), if_pos c3, hrl, e9]
  ·refine ⟨rlx l f d Y[j], w.set (stTo l Y[j]).toNat true, T ++ [stTo l Y[j]], by rw [et]; exact si_relax hN f h hs ha hc _ _ (.inr ⟨by simpa using c3, rfl, rfl⟩), by rw [List.length_append, List.length_singleton]; omega, fun k => ?_⟩
   rw [head k, hc, impl_distances.j3, if_neg (by decide), if_pos t1, if_pos (by omega), Option.bind_some, if_pos (by have := h.wl; omega), if_neg c3, if_pos (by omega), hrl, e9]
   rfl
theorem di_l2 (LV : List (List ST)) (Y : List ST) (hY : ∀ s ∈ Y, s ∈ stps l.length) (hYl : Y.length ≤ 6400) (a : Int) (hYa : ∀ s ∈ Y, stFrom l s = a) : ∀ (e j : Nat) (d : List Int) (w : List Bool) (T : List Int), j + e = Y.length → Si n l f a (Y.take j) d w T → ∃ d' w' T', Si n l f a Y d' w' T' ∧ 2 * sumI d' + (T'.length : Int) ≤ 2 * sumI d + (T.length : Int) ∧ ∀ k, impl_distances.l2 (k + 2 * e + 1) LV f d w (a :: T) a Y (Y.length : Int) (j : Int) n l = impl_distances.l1 k LV f d' w' T' n l
 | 0, j, d, w, T, hj, h => by
  obtain rfl : j = Y.length := by omega
  refine ⟨d, w, T, by rw [List.take_length] at h; exact h, Int.le_refl _, fun k => ?_⟩
  rw [show k + 2 * 0 + 1 = k + 1 by omega, impl_distances.l2, if_neg (by omega), if_pos (by simp only [List.length_cons]; omega)]
  rfl
 | e + 1, j, d, w, T, hj, h => by
  obtain ⟨d1, w1, T1, g1, g2, g3⟩ := di_step hN f hf hfl q hq R hR hR8 LV Y hY hYl a hYa j (by omega) h
  obtain ⟨d2, w2, T2, k1, k2, k3⟩ := di_l2 LV Y hY hYl a hYa e (j + 1) d1 w1 T1 (by omega) g1
  refine ⟨d2, w2, T2, k1, by omega, fun k => ?_⟩
  rw [show k + 2 * (e + 1) + 1 = (k + 2 * e + 1) + 2 by omega, g3]
  exact k3 k
theorem di_l1 : ∀ (M : Nat) (d : List Int) (w : List Bool) (Q : List Int), Sp n l f d w Q → 2 * sumI d + (Q.length : Int) ≤ -(2 * (1000000000000 * n)) + (M : Int) → ∃ dS, Lab n.toNat (Res l f) dS ∧ ∃ K, ∀ k, K ≤ k → impl_distances.l1 k (grp (stFrom l) n.toNat (stps l.length)) f d w Q n l = some dS := by
 intro M
 induction M with
 | zero =>
  intro d w Q h hm
  have hn := hN.1
  have hB := okd_bnd f q hq R hR hR8 (by omega) h.ok
  have hlow := sumI_low 1000000000000 d (fun x hx => by
   obtain ⟨i, hi, rfl⟩ := List.getElem_of_mem hx
   have := hB.2 (i : Int) (by omega) (by have := hB.1; omega)
   rw [rd_get d i hi] at this
   exact this.1)
  rw [hB.1] at hlow
  cases Q with
  | nil =>
   refine ⟨d, ⟨h.ok, fun u v c hr hu => by rcases h.tight u v c hr hu with e | e; cases e; exact e⟩, 1, fun k hk => ?_⟩
   obtain ⟨k, rfl⟩ : ∃ m, k = m + 1 := ⟨k - 1, by omega⟩
   rw [impl_distances.l1, if_neg (by simp)]
  | cons a T => simp only [List.length_cons] at hm; omega
 | succ M ih =>
  intro d w Q h hm
  have hn := hN.1
  cases Q with
  | nil =>
   refine ⟨d, ⟨h.ok, fun u v c hr hu => by rcases h.tight u v c hr hu with e | e; cases e; exact e⟩, 1, fun k hk => ?_⟩
   obtain ⟨k, rfl⟩ : ∃ m, k = m + 1 := ⟨k - 1, by omega⟩
   rw [impl_distances.l1, if_neg (by simp)]
  | cons a T =>
   obtain ⟨⟨a1, a2⟩, a3⟩ := h.rng a (by simp)
   have hg := grp_rd (stFrom l) n.toNat (stps l.length) a a1 (by omega)
   have hY : ∀ s ∈ (stps l.length).filter (fun s => decide (stFrom l s = a)), s ∈ stps l.length ∧ stFrom l s = a := fun s hs => by
    obtain ⟨h1, h2⟩ := List.mem_filter.mp hs
    exact ⟨h1, of_decide_eq_true h2⟩
   have hYl : ((stps l.length).filter (fun s => decide (stFrom l s = a))).length ≤ 6400 := by
    have := List.length_filter_le (fun s => decide (stFrom l s = a)) (stps l.length)
    rw [stps_len] at this
    have := hN.2.1
    omega
   have nd := List.nodup_cons.mp h.nd
   have hr0 : rd (a :: T) 0 = a := rfl
   have h0 : Si n l f a [] d (w.set a.toNat false) T := by
    refine ⟨h.ok, by rw [List.length_set]; exact h.wl, ⟨⟨a1, a2⟩, a3⟩, h.nd, fun x hx => h.rng x (by simp [hx]), fun v h0 h1 hv => ?_, fun x hx => ?_, fun u v c hr hu hua => ?_, fun s hs => by cases hs⟩
    ·rw [rdB_set w a false a1 (by rw [h.wl]; exact a2) v h0] at hv
     by_cases e : v = a
     ·rw [if_pos e] at hv; cases hv
     ·rw [if_neg e] at hv
      rcases List.mem_cons.mp (h.wq v h0 h1 hv) with z | z
      ·exact absurd z e
      ·exact z
    ·rw [rdB_set w a false a1 (by rw [h.wl]; exact a2) x (h.rng x (by simp [hx])).1.1, if_neg (fun (e : x = a) => nd.1 (e ▸ hx))]
     exact h.qw x hx
    ·rcases h.tight u v c hr hu with e | e
     ·rcases List.mem_cons.mp e with z | z
      ·exact absurd z hua
      ·exact .inl z
     ·exact .inr e
   obtain ⟨d', w', T', g1, g2, g3⟩ := di_l2 hN f hf hfl q hq R hR hR8 (grp (stFrom l) n.toNat (stps l.length)) _ (fun s hs => (hY s hs).1) hYl a (fun s hs => (hY s hs).2) _ 0 d _ T (Nat.zero_add _) (by rw [List.take_zero]; exact h0)
   have hS : Sp n l f d' w' T' := by
    refine ⟨g1.ok, g1.wl, (List.nodup_cons.mp g1.nd).2, g1.rng, g1.wq, fun x hx => g1.qw x (List.mem_of_mem_tail hx), fun u v c hr hu => ?_⟩
    by_cases e : (u : Int) = a
    ·right
     obtain ⟨s, hs, h1, h2, h3, h4⟩ := hr
     have := g1.done s (List.mem_filter.mpr ⟨hs, decide_eq_true (h2.trans e)⟩) h1
     rw [h3, h4, ← e] at this
     exact this
    ·exact g1.tight u v c hr hu e
   obtain ⟨dS, hL, K, hK⟩ := ih d' w' T' hS (by simp only [List.length_cons] at hm; omega)
   refine ⟨dS, hL, K + 2 * ((stps l.length).filter (fun s => decide (stFrom l s = a))).length + 2, fun k hk => ?_⟩
   obtain ⟨k, rfl⟩ : ∃ m, k = (m + 2 * ((stps l.length).filter (fun s => decide (stFrom l s = a))).length + 1) + 1 := ⟨k - 2 * ((stps l.length).filter (fun s => decide (stFrom l s = a))).length - 2, by omega⟩
   rw [impl_distances.l1, if_pos (by simp only [List.length_cons]; omega), if_pos (by simp only [List.length_cons]; omega), hr0, if_pos a1, if_pos (by have := h.wl; omega), if_pos (by rw [grp_len]; omega), hg]
   rw [show (0 : Int) = ((0 : Nat) : Int) from rfl, g3]
   exact hK k (by omega)
end
section
variable {n : Int} {l : List AI} (hN : Nok n l) (f : List Int)
include hN
theorem di_l0 (LV : List (List ST)) (w : List Bool) : ∀ (e i : Nat) (d : List Int), (i : Int) + e = n → 0 < i → Ini n.toNat d i → ∃ d', Ini n.toNat d' n.toNat ∧ ∀ k, impl_distances.l0 (k + e + 1) LV f d w (i : Int) n l = impl_distances.l1 k LV f d' w [0] n l
 | 0, i, d, hi, h0, h => by
  have hn := hN.1
  obtain rfl : i = n.toNat := by omega
  refine ⟨d, h, fun k => ?_⟩
  rw [show k + 0 + 1 = k + 1 by omega, impl_distances.l0, if_neg (by omega)]
 | e + 1, i, d, hi, h0, h => by
  have hn := hN.1
  obtain ⟨d', g1, g2⟩ := di_l0 LV w e (i + 1) _ (by omega) (by omega) (ini_step h h0 (by omega))
  refine ⟨d', g1, fun k => ?_⟩
  have hl := h.1
  rw [show k + (e + 1) + 1 = (k + e + 1) + 1 by omega, impl_distances.l0, if_pos (by omega), if_pos (by omega), if_pos (by omega), show wrap64 ((i : Int) + 1) = ((i + 1 : Nat) : Int) by rw [w64 (by omega) (by omega)]; rfl, Int.toNat_natCast]
  exact g2 k
variable (hf : f.length = l.length) (hfl : FlFrom l f 0) (q : Nat → Int) (hq : ∀ u v c, Res l f u v c → q v ≤ q u + c) (R : Int) (hR : ∀ v, 0 ≤ q v ∧ q v ≤ R) (hR8 : R ≤ 100000000)
include hf hfl hq hR hR8
theorem di_ev : ∃ dS, Lab n.toNat (Res l f) dS ∧ ∃ K, ∀ k, K ≤ k → impl_distances.f k n l (grp (stFrom l) n.toNat (stps l.length)) f = some dS := by
 have hn := hN.1
 obtain ⟨d', g1, g2⟩ := di_l0 hN f (grp (stFrom l) n.toNat (stps l.length)) (List.replicate n.toNat false) (n.toNat - 1) 1 (List.replicate n.toNat 0) (by omega) (by omega) (ini_zero n.toNat)
 have hok := ini_okd (E := Res l f) g1 (by omega)
 have hw : ∀ v : Int, rdB (List.replicate n.toNat false) v = false := fun v => by
  unfold rdB rdOf
  rw [List.getD_eq_getElem?_getD, List.getElem?_replicate]
  split <;> rfl
 have hS : Sp n l f d' (List.replicate n.toNat false) [0] := by
  refine ⟨hok, by simp; omega, by simp, fun x hx => ?_, fun v _ _ hv => (by rw [hw v] at hv; cases hv), fun x hx => (by cases hx), fun u v c hr hu => ?_⟩
  ·rw [List.mem_singleton.mp hx]
   have := g1.2 0 (by omega)
   rw [if_neg (by omega)] at this
   exact ⟨by omega, by rw [show (0 : Int) = ((0 : Nat) : Int) from rfl, this]; omega⟩
  ·left
   have hu2 := (res_ok hN f u v c hr).1.1
   rw [g1.2 u hu2] at hu
   by_cases c0 : 0 < u
   ·rw [if_pos ⟨c0, hu2⟩] at hu; omega
   ·simp; omega
 obtain ⟨dS, hL, K, h⟩ := di_l1 hN f hf hfl q hq R hR hR8 ((2 * sumI d' + 1) + 2 * (1000000000000 * n)).toNat d' _ [0] hS (by simp only [List.length_singleton]; omega)
 refine ⟨dS, hL, K + n.toNat + 1, fun k hk => ?_⟩
 obtain ⟨k, rfl⟩ : ∃ m, k = m + (n.toNat - 1) + 1 := ⟨k - (n.toNat - 1) - 1, by omega⟩
 unfold impl_distances.f
 rw [if_pos (by omega), if_pos (by omega), if_pos (by omega), show (1 : Int) = ((1 : Nat) : Int) from rfl, g2]
 exact h k (by omega)
end
end Go.Proofs.Ytkdemainohfgfaa.Pure
/- The first step that fits, as the program looks for it. -/
namespace Go.Proofs.Ytkdemainohfgfaa.Pure
open Go.RowKit Go.Proofs.Ytkdemainohfgfaa.Q Go.Proofs.YtkdemainohfgfaaW.PrintWords Go.Proofs.YtkdemainohfgfaaW.PrintLast
theorem w_e (x p : Int) (h : -100 ≤ p ∧ p ≤ 100) (hx : -1000000000000 ≤ x ∧ x ≤ 1152921504606846976) : wrap64 (x + (10000 * p + 1)) = x + (10000 * p + 1) := w64 (by omega) (by omega)
def fit0 (l : List AI) (f d : List Int) (v : Int) (s : ST) : Bool := decide (0 < stRm l f s ∧ rd d (stFrom l s) < 1152921504606846976 ∧ rd d (stFrom l s) + (10000 * stPr l s + 1) = rd d v)
def fitB (l : List AI) (f d : List Int) (v : Int) (s : ST) : Bool := decide (stTo l s = v) && fit0 l f d v s
section
variable {n : Int} {l : List AI} (hN : Nok n l) (f : List Int) (hf : f.length = l.length) {d : List Int} (hB : Bnd n d) (v : Int) (hv : 0 ≤ v ∧ v < n)
include hN hf hB hv
variable (hfl : FlFrom l f 0)
include hfl
theorem bk_l2 (x1 : Int) (LV EV : List (List ST)) (P : List ST) (hP : P.length ≤ 1500) (Y : List ST) (hYl : Y.length ≤ 6400) (hY : ∀ s ∈ Y, s ∈ stps l.length) (s : ST) : ∀ (e j : Nat), j + e = Y.length → (Y.drop j).find? (fit0 l f d v) = some s → ∃ c, ∀ k, impl_Cheapest.l2 (k + c) x1 LV EV f d P v Y (Y.length : Int) (j : Int) n l = impl_Cheapest.l1 k x1 LV EV f d (P ++ [s]) (stFrom l s) n l
 | 0, j, hj, h => by rw [List.drop_of_length_le (by omega)] at h; cases h
 | e + 1, j, hj, h => by
  have hjl : j < Y.length := by omega
  have hs : Y[j] ∈ stps l.length := hY _ (List.getElem_mem _)
  have hr : rd_T57 Y (j : Int) = Y[j] := by simp [rd_T57, hjl]
  have hdl := hB.1
  obtain ⟨hroom, hr0⟩ := room_ev hN hs f hf hfl
  obtain ⟨⟨f1, f2⟩, _, _, p1, p2⟩ := st_facts hN hs
  obtain ⟨u1, u2⟩ := hB.2 _ f1 f2
  have head : ∀ k, impl_Cheapest.l2 (k + 1) x1 LV EV f d P v Y (Y.length : Int) (j : Int) n l = (if fit0 l f d v Y[j] = true then impl_Cheapest.l1 k x1 LV EV f d (P ++ [Y[j]]) (stFrom l Y[j]) n l else impl_Cheapest.l2 k x1 LV EV f d P v Y (Y.length : Int) ((j + 1 : Nat) : Int) n l) := fun k => by
   rw [impl_Cheapest.l2, if_pos (by omega), if_pos (by omega), if_pos (by omega), hr, ends_ev hN hs, Option.bind_some, hroom, Option.bind_some]
   simp only
   rw [wsucc j (by omega)]
   unfold fit0
   by_cases c1 : stRm l f Y[j] > 0
   ·rw [if_pos c1, if_pos f1, if_pos (by omega)]
    by_cases c2 : rd d (stFrom l Y[j]) < 1152921504606846976
    ·rw [if_pos c2, length_ev hN hs, Option.bind_some, if_pos hv.1, if_pos (by omega), w_e _ _ ⟨p1, p2⟩ ⟨u1, u2⟩]
     by_cases c3 : rd d (stFrom l Y[j]) + (10000 * stPr l Y[j] + 1) = rd d v
     ·rw [if_pos c3, if_pos (by omega), decide_eq_true ⟨c1, c2, c3⟩, if_pos rfl]
     ·rw [if_neg c3, decide_eq_false (fun h => c3 h.2.2), if_neg (by decide)]
    ·rw [if_neg c2, decide_eq_false (fun h => c2 h.2.1), if_neg (by decide)]
   ·rw [if_neg c1, decide_eq_false (fun h => c1 h.1), if_neg (by decide)]
  rw [drop_cons Y j hjl, List.find?_cons] at h
  cases hb : fit0 l f d v Y[j] with
  | true =>
   rw [hb] at h
   injection h with h
   subst h
   exact ⟨1, fun k => by rw [head k, hb, if_pos rfl]⟩
  | false =>
   rw [hb] at h
   obtain ⟨c, hc⟩ := bk_l2 x1 LV EV P hP Y hYl hY s e (j + 1) (by omega) h
   exact ⟨c + 1, fun k => by rw [show k + (c + 1) = (k + c) + 1 by omega, head, hb, if_neg (by decide)]; exact hc k⟩
end
end Go.Proofs.Ytkdemainohfgfaa.Pure
/- The program's cheapest flow: it has its size wherever a flow of that size is, and prices fit it. -/
namespace Go.Proofs.Ytkdemainohfgfaa.Pure
open Go.RowKit Go.Proofs.Ytkdemainohfgfaa.Q Go.Proofs.YtkdemainohfgfaaW.PrintWords Go.Proofs.YtkdemainohfgfaaW.PrintLast
theorem w_co (x a c : Int) (i : Nat) (hi : i ≤ 3200) (hx : 0 ≤ x ∧ x ≤ 2000 * (i : Int)) (ha : 0 ≤ a ∧ a ≤ 20) (hc : 0 ≤ c ∧ c ≤ 100) : wrap64 (x + wrap64 (a * c)) = x + a * c ∧ 0 ≤ a * c ∧ a * c ≤ 2000 := by
 have h1 : 0 ≤ a * c := Int.mul_nonneg ha.1 hc.1
 have h2 : a * c ≤ 20 * 100 := Int.mul_le_mul ha.2 hc.2 hc.1 (by omega)
 refine ⟨?_, h1, by omega⟩
 rw [w64 (x := a * c) (by omega) (by omega), w64 (by omega) (by omega)]
def mm (d : List Int) (q : Nat → Int) (z : Int) : Int := rd d z - 10000 * q z.toNat
def gG (n : Int) (d : List Int) (q : Nat → Int) (a : AI) : Prop := pot n.toNat q d a.f1.toNat = pot n.toNat q d a.f0.toNat + a.f3
structure FInv (n : Int) (l : List AI) (kx : Nat) (f : List Int) : Prop extends Fl l f (kx : Int) where
 pot : ∃ q : Nat → Int, (∀ u v c, Res l f u v c → q v ≤ q u + c) ∧ ∀ v, 0 ≤ q v ∧ q v ≤ 300000 * (kx : Int)
section
variable {n : Int} {l : List AI} (hN : Nok n l) (f : List Int) (hf : f.length = l.length) (hfl : FlFrom l f 0) (q : Nat → Int) (hq : ∀ u v c, Res l f u v c → q v ≤ q u + c) (R : Int) (hR : ∀ v, 0 ≤ q v ∧ q v ≤ R) (hR8 : R ≤ 100000000) {d : List Int} (hL : Lab n.toNat (Res l f) d)
include hN hf hfl hq hR hR8 hL
theorem fit_ex (v : Nat) (hv : v < n.toNat) (hv0 : v ≠ 0) (hd : rd d (v : Int) < 1152921504606846976) : ∃ s, (stps l.length).find? (fitB l f d (v : Int)) = some s ∧ s ∈ stps l.length ∧ stTo l s = (v : Int) ∧ 0 < stRm l f s ∧ rd d (stFrom l s) < 1152921504606846976 ∧ rd d (v : Int) = rd d (stFrom l s) + (10000 * stPr l s + 1) := by
 have hn := hN.1
 obtain ⟨u, c, ⟨s, hs, h1, h2, h3, h4⟩, hu, he⟩ := lab_step (n := n.toNat) (by omega) (by omega) (res_ok hN f) q hq R hR hL v hv hv0 hd
 have hb : fitB l f d (v : Int) s = true := by
  unfold fitB fit0
  rw [← Bool.decide_and]
  exact decide_eq_true ⟨h3, h1, by rw [h2]; exact hu, by rw [h2, h4, he]⟩
 cases hx : (stps l.length).find? (fitB l f d (v : Int)) with
 | none =>
  have := List.find?_eq_none.mp hx s hs
  exact absurd hb this
 | some s' =>
  have m := List.mem_of_find?_eq_some hx
  have p := List.find?_some hx
  unfold fitB fit0 at p
  rw [← Bool.decide_and] at p
  obtain ⟨a1, a2, a3, a4⟩ := of_decide_eq_true p
  exact ⟨s', rfl, m, a1, a2, a3, a4.symm⟩
theorem cp_step {v : Nat} {P : List ST} {g : List Int} (h : Pg n l f (mm d q) (gG n d q) v P g) {s : ST} (hs : s ∈ stps l.length) (ht : stTo l s = (v : Int)) (h1 : 0 < stRm l f s) (h2 : rd d (stFrom l s) < 1152921504606846976) (h3 : rd d (v : Int) = rd d (stFrom l s) + (10000 * stPr l s + 1)) : Pg n l f (mm d q) (gG n d q) (stFrom l s).toNat (P ++ [s]) (psh g s) ∧ mm d q (stFrom l s) < mm d q (v : Int) := by
 have hn := hN.1
 obtain ⟨⟨f1, f2⟩, ⟨t1, t2⟩, hne, p1, p2⟩ := st_facts hN hs
 have hres := res_of hN f hs h1
 have hpot := hq _ _ _ hres
 have hpt := pot_tight (n := n.toNat) (by omega) (by omega) (res_ok hN f) q hq R hR hL _ _ _ hres (by rw [show (((stFrom l s).toNat : Nat) : Int) = stFrom l s by omega]; exact h2) (by rw [show (((stFrom l s).toNat : Nat) : Int) = stFrom l s by omega, show (((stTo l s).toNat : Nat) : Int) = stTo l s by omega, ht]; exact h3)
 have hmm : mm d q (stFrom l s) < mm d q (v : Int) := by
  unfold mm
  rw [ht] at hpot
  omega
 refine ⟨pg_step hN hf hfl h hs ht h1 hmm (fun i hi hs0 => ?_), hmm⟩
 have hA : rdA l s.f0 = l[i] := by rw [hs0]; exact rdA_get l i hi
 unfold gG
 unfold stFrom stTo stPr at hpt
 rw [hA] at hpt
 cases hb : s.f1 with
 | false => rw [hb] at hpt; simp only [Bool.false_eq_true, reduceIte] at hpt; exact hpt
 | true => rw [hb] at hpt; simp only [reduceIte] at hpt; omega
theorem cp_walk (x1 : Int) : ∀ (M : Nat) (v : Nat) (P : List ST) (g : List Int), mm d q (v : Int) - mm d q 0 ≤ (M : Int) → rd d (v : Int) < 1152921504606846976 → Pg n l f (mm d q) (gG n d q) v P g → ∃ P' g' c', Pg n l f (mm d q) (gG n d q) 0 P' g' ∧ ∀ k, impl_Cheapest.l1 (k + c') x1 (grp (stFrom l) n.toNat (stps l.length)) (grp (stTo l) n.toNat (stps l.length)) f d P (v : Int) n l = impl_Cheapest.l3 k x1 (grp (stFrom l) n.toNat (stps l.length)) (grp (stTo l) n.toNat (stps l.length)) f P' (P'.length : Int) 0 n l := by
 have hn := hN.1
 have done : ∀ (P : List ST) (g : List Int), Pg n l f (mm d q) (gG n d q) 0 P g → ∃ P' g' c', Pg n l f (mm d q) (gG n d q) 0 P' g' ∧ ∀ k, impl_Cheapest.l1 (k + c') x1 (grp (stFrom l) n.toNat (stps l.length)) (grp (stTo l) n.toNat (stps l.length)) f d P ((0 : Nat) : Int) n l = impl_Cheapest.l3 k x1 (grp (stFrom l) n.toNat (stps l.length)) (grp (stTo l) n.toNat (stps l.length)) f P' (P'.length : Int) 0 n l := fun P g h => ⟨P, g, 1, h, fun k => by rw [impl_Cheapest.l1, if_pos (by omega)]⟩
 intro M
 induction M with
 | zero =>
  intro v P g hM hvd h
  by_cases hv0 : v = 0
  ·subst hv0; exact done P g h
  ·exfalso
   obtain ⟨s, _, hs, ht, h1, h2, h3⟩ := fit_ex hN f hf hfl q hq R hR hR8 hL v h.vn hv0 hvd
   obtain ⟨_, hlt⟩ := cp_step hN f hf hfl q hq R hR hR8 hL h hs ht h1 h2 h3
   obtain ⟨⟨f1, f2⟩, _⟩ := st_facts hN hs
   have hz := okd_zero q hq R hR hL.toOkd (by omega)
   rcases hL.fin (stFrom l s).toNat (by omega) with e | ⟨_, k, hw⟩
   ·rw [show (((stFrom l s).toNat : Nat) : Int) = stFrom l s by omega] at e; omega
   ·have := wy_pot q hq hw
    rw [show (((stFrom l s).toNat : Nat) : Int) = stFrom l s by omega] at this
    unfold mm at hM hlt
    rw [show ((0 : Nat) : Int) = 0 from rfl] at hz
    rw [hz, show ((0 : Int)).toNat = 0 from rfl] at hM
    omega
 | succ M ih =>
  intro v P g hM hvd h
  by_cases hv0 : v = 0
  ·subst hv0; exact done P g h
  ·obtain ⟨s, hfd, hs, ht, h1, h2, h3⟩ := fit_ex hN f hf hfl q hq R hR hR8 hL v h.vn hv0 hvd
   obtain ⟨hph, hlt⟩ := cp_step hN f hf hfl q hq R hR hR8 hL h hs ht h1 h2 h3
   obtain ⟨⟨f1, f2⟩, _⟩ := st_facts hN hs
   have hu : (((stFrom l s).toNat : Nat) : Int) = stFrom l s := by omega
   obtain ⟨P', g', c', w1, w3⟩ := ih _ _ _ (by rw [hu]; omega) (by rw [hu]; exact h2) hph
   have hlen := pg_len hN h
   have hB := okd_bnd f q hq R hR hR8 (by omega) hL.toOkd
   have hvn := h.vn
   obtain ⟨cc, hcc⟩ := bk_l2 hN f hf hB (v : Int) ⟨by omega, by omega⟩ hfl x1 (grp (stFrom l) n.toNat (stps l.length)) (grp (stTo l) n.toNat (stps l.length)) P (by omega) ((stps l.length).filter (fun s => decide (stTo l s = (v : Int)))) (by
    have := List.length_filter_le (fun s => decide (stTo l s = (v : Int))) (stps l.length)
    rw [stps_len] at this
    have := hN.2.1
    omega) (fun s hs => (List.mem_filter.mp hs).1) s _ 0 (Nat.zero_add _) (by
     rw [List.drop_zero, List.find?_filter, show (fun a => decide (decide (stTo l a = (v : Int)) = true ∧ fit0 l f d (v : Int) a = true)) = fitB l f d (v : Int) from funext fun a => by simp [fitB, Bool.decide_and]]
     exact hfd)
   refine ⟨P', g', c' + cc + 1, w1, fun k => ?_⟩
   have w3' := w3 k
   rw [hu] at w3'
   rw [← w3', show k + (c' + cc + 1) = (k + c' + cc) + 1 by omega, impl_Cheapest.l1, if_neg (by omega), if_pos (by omega), if_pos (by rw [grp_len]; omega), grp_rd _ _ _ _ (by omega) (by omega)]
   exact hcc (k + c')
end
section
variable {n : Int} {l : List AI} (hN : Nok n l)
include hN
theorem push_l3 (x1 : Int) (LV EV : List (List ST)) (P : List ST) (hP : ∀ s ∈ P, s ∈ stps l.length) (hPl : P.length ≤ 1500) : ∀ (e j : Nat) (g : List Int), j + e = P.length → g.length = l.length → ∀ k, impl_Cheapest.l3 (k + e + 1) x1 LV EV g P (P.length : Int) (j : Int) n l = impl_Cheapest.l0 k (wrap64 (x1 - 1)) LV EV ((P.drop j).foldl psh g) n l
 | 0, j, g, hj, hg, k => by
  rw [show k + 0 + 1 = k + 1 by omega, impl_Cheapest.l3, if_neg (by omega), List.drop_of_length_le (by omega)]
  rfl
 | e + 1, j, g, hj, hg, k => by
  have hjl : j < P.length := by omega
  have hs : P[j] ∈ stps l.length := hP _ (List.getElem_mem _)
  have hr : rd_T57 P (j : Int) = P[j] := by simp [rd_T57, hjl]
  obtain ⟨i, hi, hs0, _⟩ := st_arc hN hs
  rw [show k + (e + 1) + 1 = (k + e + 1) + 1 by omega, impl_Cheapest.l3, if_pos (by omega), if_pos (by omega), if_pos (by omega), hr, pushed_ev g _ (by omega) (by omega), Option.bind_some, wsucc j (by omega), push_l3 x1 LV EV P hP hPl e (j + 1) _ (by omega) (by rw [psh_len]; exact hg), drop_cons P j hjl]
  rfl
theorem finv_zero : FInv n l 0 (List.replicate l.length 0) := by
 refine ⟨fl_zero hN, fun _ => 0, fun u v c hr => ?_, fun v => by show (0 : Int) ≤ 0 ∧ (0 : Int) ≤ 300000 * ((0 : Nat) : Int); omega⟩
 obtain ⟨s, hs, h1, _, _, h4⟩ := hr
 obtain ⟨i, hi, hs0, hA, _, _, _, _, ⟨c1, c2⟩⟩ := st_arc hN hs
 unfold stRm at h1
 unfold stPr at h4
 rw [hA] at h1 h4
 rw [hs0, rd_zer] at h1
 show (0 : Int) ≤ 0 + c
 cases hb : s.f1 with
 | false => rw [hb] at h4; simp only [Bool.false_eq_true, reduceIte] at h4; omega
 | true => rw [hb] at h1; simp at h1
theorem finv_next {kx : Nat} {f : List Int} (h : FInv n l kx f) {d : List Int} {q : Nat → Int} (hq : ∀ u v c, Res l f u v c → q v ≤ q u + c) (hR : ∀ v, 0 ≤ q v ∧ q v ≤ 300000 * (kx : Int)) (hL : Lab n.toNat (Res l f) d) {P : List ST} {g : List Int} (hp : Pg n l f (mm d q) (gG n d q) 0 P g) : FInv n l (kx + 1) g := by
 have hn := hN.1
 refine ⟨fl_next h.toFl hp, fun v => if v < n.toNat then pot n.toNat q d v else 0, fun u v c hr => ?_, fun v => ?_⟩
 ·obtain ⟨⟨hu, hv⟩, _⟩ := res_ok hN g u v c hr
  simp only
  rw [if_pos hu, if_pos hv]
  obtain ⟨s, hs, h1, h2, h3, h4⟩ := hr
  obtain ⟨i, hi, hs0, hA, _⟩ := st_arc hN hs
  rcases hp.chg i hi with e | ⟨_, _, e⟩
  ·refine pot_step (n := n.toNat) (by omega) (by omega) (res_ok hN f) q hq _ hR hL u v c ⟨s, hs, ?_, h2, h3, h4⟩
   unfold stRm at h1 ⊢
   rw [hs0] at h1 ⊢
   rw [e] at h1
   exact h1
  ·unfold gG at e
   unfold stFrom at h2
   unfold stTo at h3
   unfold stPr at h4
   rw [hA] at h2 h3 h4
   cases hb : s.f1 with
   | false =>
    rw [hb] at h2 h3 h4
    simp only [Bool.false_eq_true, reduceIte] at h2 h3 h4
    rw [h2, h3, h4, Int.toNat_natCast, Int.toNat_natCast] at e
    omega
   | true =>
    rw [hb] at h2 h3 h4
    simp only [reduceIte] at h2 h3 h4
    rw [h2, h3, Int.toNat_natCast, Int.toNat_natCast] at e
    omega
 ·simp only
  split
  ·rename_i hv
   have := pot_range (n := n.toNat) (by omega) (by omega) (res_ok hN f) q hq _ hR hL v hv
   omega
  ·omega
theorem co_l0 {f : List Int} (hf : f.length = l.length) (hfl : FlFrom l f 0) : ∀ (e i : Nat), i + e = l.length → (0 ≤ cs l f i ∧ cs l f i ≤ 2000 * (i : Int)) → ∀ k, impl_costOf.l0 (k + e + 1) f (cs l f i) l (l.length : Int) (i : Int) = some (cs l f l.length)
 | 0, i, hi, hb, k => by
  obtain rfl : i = l.length := by omega
  rw [show k + 0 + 1 = k + 1 by omega, impl_costOf.l0, if_neg (by omega)]
 | e + 1, i, hi, hb, k => by
  have hil : i < l.length := by omega
  have hl := hN.2.1
  have hx : rdA l (i : Int) = l[i] := rdA_get l i hil
  have hA := (hN.2.2 i (Nat.zero_le _) hil).2.2.2
  have hfi := hfl i (Nat.zero_le _) hil
  obtain ⟨w1, w2, w3⟩ := w_co (cs l f i) (rd f (i : Int)) l[i].f3 i (by omega) hb ⟨hfi.1, Int.le_trans hfi.2 hA.1.2⟩ hA.2
  have hc : cs l f (i + 1) = cs l f i + rd f (i : Int) * l[i].f3 := by rw [cs, hx]
  rw [show k + (e + 1) + 1 = (k + e + 1) + 1 by omega, impl_costOf.l0, if_pos (by omega), if_pos (by omega), if_pos (by omega), if_pos (by omega), show rd_T53 l (i : Int) = l[i] from hx, w1, wsucc i (by omega), ← hc]
  clear w1
  exact co_l0 hf hfl e (i + 1) (by omega) (by rw [hc]; omega) k
theorem co_ev {f : List Int} (hf : f.length = l.length) (hfl : FlFrom l f 0) (k : Nat) (hk : l.length + 1 ≤ k) : impl_costOf.f k n l f = some (cs l f l.length) := by
 obtain ⟨k, rfl⟩ : ∃ m, k = m + l.length + 1 := ⟨k - l.length - 1, by omega⟩
 exact co_l0 hN hf hfl l.length 0 (by omega) (by simp [cs]) k
variable {F : List Int} {m : Nat} (hm : m ≤ 16) (hF : Fl l F (m : Int))
include hm hF
theorem cp_l0 : ∀ (e kx : Nat) (f : List Int), kx + e = m → FInv n l kx f → ∃ B K, FInv n l m B ∧ ∀ k, K ≤ k → impl_Cheapest.l0 k ((m : Int) - (kx : Int)) (grp (stFrom l) n.toNat (stps l.length)) (grp (stTo l) n.toNat (stps l.length)) f n l = some (B, cs l B l.length, true)
 | 0, kx, f, hk, h => by
  obtain rfl : kx = m := by omega
  refine ⟨f, l.length + 2, h, fun k hk => ?_⟩
  obtain ⟨k, rfl⟩ : ∃ m, k = m + 1 := ⟨k - 1, by omega⟩
  rw [impl_Cheapest.l0, if_neg (by omega), co_ev hN h.len h.fl k (by omega), Option.bind_some]
 | e + 1, kx, f, hk, h => by
  have hn := hN.1
  have hl := hN.2.1
  obtain ⟨q, hq, hR⟩ := h.pot
  obtain ⟨dS, hL, K1, h1⟩ := di_ev hN f h.len h.fl q hq _ hR (by omega)
  have hdl := hL.len
  have hz := okd_zero q hq _ hR hL.toOkd (by omega)
  have c : ¬ rd dS 1 = 1152921504606846976 := fun c => by
   have := cut hN h.toFl hF (fun z => if 0 ≤ z ∧ rd dS z < 1152921504606846976 then 1 else 0) ⟨by rw [if_pos ⟨Int.le_refl _, by rw [show (0 : Int) = ((0 : Nat) : Int) from rfl, hz]; omega⟩], by rw [if_neg (by omega)]⟩ (fun z => by split <;> simp) (fun i hi => by
    obtain ⟨⟨a1, a2⟩, ⟨b1, b2⟩, _⟩ := hN.2.2 i (Nat.zero_le _) hi
    have hfi := h.fl i (Nat.zero_le _) hi
    have m0 : ∀ b, (⟨(i : Int), b⟩ : ST) ∈ stps l.length := fun b => (mem_stps _ _).mpr ⟨i, hi, rfl⟩
    obtain ⟨e1, e2, e3, e4⟩ := arcF f i hi
    obtain ⟨g1, g2, g3, g4⟩ := arcB f i hi
    have hB := okd_bnd f q hq _ hR (by omega) (by omega) hL.toOkd
    have u1 := hB.2 _ a1 a2
    have u2 := hB.2 _ b1 b2
    have fin : ∀ v : Int, 0 ≤ v → v < n → (rd dS v < 1152921504606846976 ∨ rd dS v = 1152921504606846976) := fun v h0 h1 => by have := hB.2 v h0 h1; omega
    have low : ∀ v : Int, 0 ≤ v → v < n → rd dS v < 1152921504606846976 → rd dS v ≤ 200000000 * 1500 := fun v h0 h1 hlt => by
     obtain ⟨p, hh, q1, q2, q3, q4, _⟩ := lab_few (n := n.toNat) (by omega) (by omega) (res_ok hN f) q hq _ hR hL v.toNat (by omega) (by rw [show ((v.toNat : Nat) : Int) = v by omega]; exact hlt)
     rw [show ((v.toNat : Nat) : Int) = v by omega] at q1
     omega
    refine ⟨fun z0 z1 => ?_, fun z0 z1 => ?_⟩
    ·have y0 : rd dS l[i].f0 < 1152921504606846976 := by
      rcases fin _ a1 a2 with y | y
      ·exact y
      ·rw [if_neg (by omega)] at z0; omega
     have y1 : ¬ rd dS l[i].f1 < 1152921504606846976 := fun y => by rw [if_pos ⟨b1, y⟩] at z1; omega
     rcases Int.lt_or_le (rd f (i : Int)) l[i].f2 with w | w
     ·have hc := (hN.2.2 i (Nat.zero_le _) hi).2.2.2.2
      have := hL.tight l[i].f0.toNat l[i].f1.toNat l[i].f3 ⟨_, m0 false, by rw [e4]; omega, by rw [e1]; omega, by rw [e2]; omega, e3⟩ (by rw [show ((l[i].f0.toNat : Nat) : Int) = l[i].f0 by omega]; exact y0)
      rw [show ((l[i].f0.toNat : Nat) : Int) = l[i].f0 by omega, show ((l[i].f1.toNat : Nat) : Int) = l[i].f1 by omega] at this
      have := low _ a1 a2 y0
      omega
     ·omega
    ·have y0 : ¬ rd dS l[i].f0 < 1152921504606846976 := fun y => by rw [if_pos ⟨a1, y⟩] at z0; omega
     have y1 : rd dS l[i].f1 < 1152921504606846976 := by
      rcases fin _ b1 b2 with y | y
      ·exact y
      ·rw [if_neg (by omega)] at z1; omega
     rcases Int.lt_or_le 0 (rd f (i : Int)) with w | w
     ·have hc := (hN.2.2 i (Nat.zero_le _) hi).2.2.2.2
      have := hL.tight l[i].f1.toNat l[i].f0.toNat (-l[i].f3) ⟨_, m0 true, by rw [g4]; omega, by rw [g1]; omega, by rw [g2]; omega, g3⟩ (by rw [show ((l[i].f1.toNat : Nat) : Int) = l[i].f1 by omega]; exact y1)
      rw [show ((l[i].f0.toNat : Nat) : Int) = l[i].f0 by omega, show ((l[i].f1.toNat : Nat) : Int) = l[i].f1 by omega] at this
      have := low _ b1 b2 y1
      omega
     ·omega)
   omega
  have hlt : rd dS ((1 : Nat) : Int) < 1152921504606846976 := by
   have hB := okd_bnd f q hq _ hR (by omega) (by omega) hL.toOkd
   have := hB.2 ((1 : Nat) : Int) (by omega) (by omega)
   rw [show ((1 : Nat) : Int) = 1 from rfl] at this ⊢
   omega
  obtain ⟨P', g', c2, w1, w3⟩ := cp_walk hN f h.len h.fl q hq _ hR (by omega) hL ((m : Int) - (kx : Int)) (mm dS q ((1 : Nat) : Int) - mm dS q 0).toNat 1 [] f (by omega) hlt (pg_nil hN)
  have hnx := finv_next hN h hq hR hL w1
  obtain ⟨B, K3, hB, h3⟩ := cp_l0 e (kx + 1) g' (by omega) hnx
  have hpl := pg_len hN w1
  have hpush := push_l3 hN ((m : Int) - (kx : Int)) (grp (stFrom l) n.toNat (stps l.length)) (grp (stTo l) n.toNat (stps l.length)) P' w1.steps (by omega) P'.length 0 f (by omega) h.len
  rw [List.drop_zero, ← w1.fold, w64 (x := (m : Int) - (kx : Int) - 1) (by omega) (by omega), show (m : Int) - (kx : Int) - 1 = (m : Int) - ((kx + 1 : Nat) : Int) by omega] at hpush
  refine ⟨B, K1 + K3 + c2 + P'.length + 2 * l.length + 5, hB, fun k hk => ?_⟩
  obtain ⟨k, rfl⟩ : ∃ m, k = ((m + P'.length + 1) + c2) + 1 := ⟨k - P'.length - c2 - 2, by omega⟩
  rw [impl_Cheapest.l0, if_pos (by omega), h1 _ (by omega), Option.bind_some, if_pos (by omega), if_neg c]
  exact (w3 (k + P'.length + 1)).trans ((hpush k).trans (h3 k (by omega)))
end
end Go.Proofs.Ytkdemainohfgfaa.Pure
/- A right flow, as the program and the reference tell it. -/
namespace Go.Proofs.Ytkdemainohfgfaa.Pure
open Go.RowKit Go.Proofs.Ytkdemainohfgfaa.Q Go.Proofs.YtkdemainohfgfaaW.PrintWords Go.Proofs.YtkdemainohfgfaaW.PrintLast
theorem dl_mul (x a b : Int) (z : Nat) : x * (dl a z - dl b z) = (if a = (z : Int) then x else 0) - (if b = (z : Int) then x else 0) := by
 unfold dl
 by_cases c1 : a = (z : Int) <;> by_cases c2 : b = (z : Int) <;> simp only [c1, c2, if_true, if_false, reduceIte] <;> (first | omega | (simp))
theorem Xs_bnd (l : List AI) (f : List Int) (hfl : FlFrom l f 0) (hl : ∀ i : Nat, (h : i < l.length) → l[i].f2 ≤ 20) (z : Nat) : ∀ m, m ≤ l.length → -(20 * (m : Int)) ≤ Xs l f z m ∧ Xs l f z m ≤ 20 * (m : Int)
 | 0, _ => by simp [Xs]
 | m + 1, hm => by
  have ih := Xs_bnd l f hfl hl z m (by omega)
  have h1 := hfl m (Nat.zero_le _) (by omega)
  have h2 := hl m (by omega)
  rw [Xs, dl_mul]
  split <;> split <;> omega
theorem w_pm (x y : Int) (i : Nat) (hi : i ≤ 3200) (hx : -(20 * (i : Int)) ≤ x ∧ x ≤ 20 * (i : Int)) (hy : 0 ≤ y ∧ y ≤ 20) : wrap64 (x + y) = x + y ∧ wrap64 (x - y) = x - y := ⟨w64 (by omega) (by omega), w64 (by omega) (by omega)⟩
section
variable {n : Int} {l : List AI} (hN : Nok n l) {f : List Int} {m : Int} (hF : Fl l f m)
include hN hF
theorem ex_l0 : ∀ (e i : Nat) (p q : List Int), i + e = l.length → (p.length : Int) = n → (q.length : Int) = n → (∀ z : Nat, z < n.toNat → rd p (z : Int) = Xs l f z i ∧ rd q (z : Int) = -Xs l f z i) → ∃ p' q', ((p'.length : Int) = n ∧ (q'.length : Int) = n ∧ ∀ z : Nat, z < n.toNat → rd p' (z : Int) = Xs l f z l.length ∧ rd q' (z : Int) = -Xs l f z l.length) ∧ ∀ k, spec_l06Out.l0 (k + e + 1) f p (i : Int) n l = some p' ∧ impl_excess.l0 (k + e + 1) f q l (l.length : Int) (i : Int) = some q'
 | 0, i, p, q, hi, hp, hq, h => by
  obtain rfl : i = l.length := by omega
  have hf := hF.len
  refine ⟨p, q, ⟨hp, hq, h⟩, fun k => ?_⟩
  rw [show k + 0 + 1 = k + 1 by omega, spec_l06Out.l0, impl_excess.l0, if_neg (by omega), if_neg (by omega)]
  exact ⟨rfl, rfl⟩
 | e + 1, i, p, q, hi, hp, hq, h => by
  have hil : i < l.length := by omega
  have hf := hF.len
  obtain ⟨⟨a1, a2⟩, ⟨b1, b2⟩, hab, ⟨r1, r2⟩, _⟩ := hN.2.2 i (Nat.zero_le _) hil
  have hl := hN.2.1
  have hx := rdA_get l i hil
  have hfi := hF.fl i (Nat.zero_le _) hil
  have hbd := fun z => Xs_bnd l f hF.fl (fun j hj => (hN.2.2 j (Nat.zero_le _) hj).2.2.2.1.2) z i (by omega)
  have hat : ∀ x : Int, 0 ≤ x → x < n → (-(20 * (i : Int)) ≤ rd p x ∧ rd p x ≤ 20 * (i : Int)) ∧ (-(20 * (i : Int)) ≤ rd q x ∧ rd q x ≤ 20 * (i : Int)) := fun x h0 h1 => by
   have := h x.toNat (by omega)
   rw [show ((x.toNat : Nat) : Int) = x by omega] at this
   have := hbd x.toNat
   omega
  have hfy : 0 ≤ rd f (i : Int) ∧ rd f (i : Int) ≤ 20 := ⟨hfi.1, Int.le_trans hfi.2 r2⟩
  have two : ∀ (p : List Int) (x y : Int) (g : Int) (a b : Int), (p.length : Int) = n → 0 ≤ a → a < n → 0 ≤ b → b < n → a ≠ b → ∀ z : Nat, z < n.toNat → rd ((p.set a.toNat (rd p a + g)).set b.toNat (rd p b - g)) (z : Int) = rd p (z : Int) + ((if a = (z : Int) then g else 0) - (if b = (z : Int) then g else 0)) := fun p x y g a b hp a0 a1 b0 b1 hab z hz => by
   rw [rd_setA _ _ _ b0 (by rw [List.length_set]; omega) _ (by omega), rd_setA p _ _ a0 (by omega) _ (by omega)]
   by_cases c1 : (z : Int) = b
   ·rw [if_pos c1, if_neg (fun e => hab (e.trans c1)), if_pos c1.symm, ← c1]; omega
   ·by_cases c2 : (z : Int) = a
    ·rw [if_neg c1, if_pos c2, if_pos c2.symm, if_neg (fun e => c1 e.symm), ← c2]; omega
    ·rw [if_neg c1, if_neg c2, if_neg (fun e => c2 e.symm), if_neg (fun e => c1 e.symm)]; omega
  obtain ⟨p', q', g1, g2⟩ := ex_l0 e (i + 1) ((p.set l[i].f0.toNat (rd p l[i].f0 + rd f (i : Int))).set l[i].f1.toNat (rd p l[i].f1 - rd f (i : Int))) ((q.set l[i].f1.toNat (rd q l[i].f1 + rd f (i : Int))).set l[i].f0.toNat (rd q l[i].f0 - rd f (i : Int))) (by omega) (by rw [List.length_set, List.length_set]; exact hp) (by rw [List.length_set, List.length_set]; exact hq) (fun z hz => by
   rw [two p 0 0 _ _ _ hp a1 a2 b1 b2 hab z hz, two q 0 0 _ _ _ hq b1 b2 a1 a2 hab.symm z hz, Xs, show rdA l (i : Int) = l[i] from hx, dl_mul, (h z hz).1, (h z hz).2]
   exact ⟨rfl, by omega⟩)
  refine ⟨p', q', g1, fun k => ?_⟩
  have y1 : rd (p.set l[i].f0.toNat (rd p l[i].f0 + rd f (i : Int))) l[i].f1 = rd p l[i].f1 := by rw [rd_setA p _ _ a1 (by omega) _ b1, if_neg (fun e => hab e.symm)]
  have y2 : rd (q.set l[i].f1.toNat (rd q l[i].f1 + rd f (i : Int))) l[i].f0 = rd q l[i].f0 := by rw [rd_setA q _ _ b1 (by omega) _ a1, if_neg hab]
  have hpl : ((p.set l[i].f0.toNat (rd p l[i].f0 + rd f (i : Int))).length : Int) = n := by rw [List.length_set]; exact hp
  have hql : ((q.set l[i].f1.toNat (rd q l[i].f1 + rd f (i : Int))).length : Int) = n := by rw [List.length_set]; exact hq
  have i32 : i ≤ 3200 := by omega
  obtain ⟨u1, u2⟩ := hat _ a1 a2
  obtain ⟨v1, v2⟩ := hat _ b1 b2
  rw [show k + (e + 1) + 1 = (k + e + 1) + 1 by omega]
  refine ⟨?_, ?_⟩
  ·rw [spec_l06Out.l0, if_pos (by omega), if_pos (by omega), if_pos (by omega), hx, if_pos a1, if_pos (by omega), (w_pm _ _ i i32 u1 hfy).1, Option.bind_some, if_pos b1, if_pos (by omega), y1, (w_pm _ _ i i32 v1 hfy).2, wsucc i (by omega)]
   exact (g2 k).1
  ·rw [impl_excess.l0, if_pos (by omega), if_pos (by omega), if_pos (by omega), hx, if_pos b1, if_pos (by omega), if_pos (by omega), (w_pm _ _ i i32 v2 hfy).1, Option.bind_some, if_pos a1, if_pos (by omega), y2, (w_pm _ _ i i32 u2 hfy).2, wsucc i (by omega)]
   exact (g2 k).2
theorem ex_ev : ∃ p q K, ((p.length : Int) = n ∧ (q.length : Int) = n ∧ ∀ z : Nat, z < n.toNat → rd p (z : Int) = Xs l f z l.length ∧ rd q (z : Int) = -Xs l f z l.length) ∧ ∀ k, K ≤ k → spec_l06Out.f k n l f = some p ∧ impl_excess.f k n l f = some q := by
 have hn := hN.1
 obtain ⟨p, q, h1, h2⟩ := ex_l0 hN hF l.length 0 (List.replicate n.toNat 0) (List.replicate n.toNat 0) (by omega) (by simp; omega) (by simp; omega) (fun z hz => by rw [rd_zer]; exact ⟨rfl, rfl⟩)
 refine ⟨p, q, l.length + 1, h1, fun k hk => ?_⟩
 obtain ⟨k, rfl⟩ : ∃ m, k = m + l.length + 1 := ⟨k - l.length - 1, by omega⟩
 unfold spec_l06Out.f impl_excess.f
 rw [if_pos (by omega), if_pos (by omega), if_pos (by omega), if_pos (by omega)]
 exact h2 k
omit hF in
theorem ok_l1 (p q : List Int) (hp : (p.length : Int) = n) (hq : (q.length : Int) = n) (h0 : ∀ z : Nat, 2 ≤ z → z < n.toNat → rd p (z : Int) = 0 ∧ rd q (z : Int) = 0) : ∀ (e i : Nat), (i : Int) + e = n → ∀ k, (2 ≤ i → spec_FlowOk.l1 (k + e + 1) p (i : Int) n l = some true) ∧ impl_FlowOk.l1 (k + e + 1) q (q.length : Int) (i : Int) = some true
 | 0, i, hi, k => by rw [show k + 0 + 1 = k + 1 by omega, spec_FlowOk.l1, impl_FlowOk.l1, if_neg (by omega), if_neg (by omega)]; exact ⟨fun _ => rfl, rfl⟩
 | e + 1, i, hi, k => by
  have hn := hN.1
  obtain ⟨g1, g2⟩ := ok_l1 p q hp hq h0 e (i + 1) (by omega) k
  rw [show k + (e + 1) + 1 = (k + e + 1) + 1 by omega]
  refine ⟨fun h2 => ?_, ?_⟩
  ·rw [spec_FlowOk.l1, if_pos (by omega), if_pos (by omega), if_pos (by omega), if_pos (h0 i h2 (by omega)).1, wsucc i (by omega)]
   exact g1 (by omega)
  ·rw [impl_FlowOk.l1, if_pos (by omega), if_pos (by omega), if_pos (by omega), wsucc i (by omega)]
   by_cases c : (i : Int) > 1
   ·rw [if_pos c, if_pos (h0 i (by omega) (by omega)).2]; exact g2
   ·rw [if_neg c]; exact g2
theorem ok_l0 : ∀ (e i : Nat), i + e = l.length → ∃ K, ∀ k, K ≤ k → spec_FlowOk.l0 k f (i : Int) n l = some true ∧ impl_FlowOk.l0 k f l (l.length : Int) (i : Int) n l = some true
 | 0, i, hi => by
  have hn := hN.1
  have hf := hF.len
  obtain ⟨p, q, K, ⟨h1, h2, h3⟩, h4⟩ := ex_ev hN hF
  have hz : ∀ z : Nat, 2 ≤ z → z < n.toNat → rd p (z : Int) = 0 ∧ rd q (z : Int) = 0 := fun z hz h => by
   obtain ⟨a, b⟩ := h3 z h
   have := hF.bal z hz
   omega
  refine ⟨K + n.toNat + 3, fun k hk => ?_⟩
  obtain ⟨k, rfl⟩ : ∃ m, k = m + 1 := ⟨k - 1, by omega⟩
  rw [spec_FlowOk.l0, impl_FlowOk.l0, if_neg (by omega), if_neg (by omega), (h4 k (by omega)).1, (h4 k (by omega)).2, Option.bind_some, Option.bind_some]
  constructor
  ·obtain ⟨k, rfl⟩ : ∃ m, k = m + (n.toNat - 2) + 1 := ⟨k - (n.toNat - 2) - 1, by omega⟩
   exact (ok_l1 hN p q h1 h2 hz (n.toNat - 2) 2 (by omega) k).1 (Nat.le_refl _)
  ·obtain ⟨k, rfl⟩ : ∃ m, k = m + n.toNat + 1 := ⟨k - n.toNat - 1, by omega⟩
   exact (ok_l1 hN p q h1 h2 hz n.toNat 0 (by omega) k).2
 | e + 1, i, hi => by
  have hil : i < l.length := by omega
  obtain ⟨K, h⟩ := ok_l0 e (i + 1) (by omega)
  have hl := hN.2.1
  have hf := hF.len
  have hfi := hF.fl i (Nat.zero_le _) hil
  refine ⟨K + 1, fun k hk => ?_⟩
  obtain ⟨k, rfl⟩ : ∃ m, k = m + 1 := ⟨k - 1, by omega⟩
  have hx := rdA_get l i hil
  have g := h k (by omega)
  constructor
  ·rw [spec_FlowOk.l0, if_pos (by omega), if_pos (by omega), if_pos (by omega), hx, l01In_eq, Option.bind_some, decide_eq_true hfi, if_pos rfl, wsucc i (by omega)]
   exact g.1
  ·rw [impl_FlowOk.l0, if_pos (by omega), if_pos (by omega), if_pos (by omega), if_pos (by omega), hx, if_neg (by omega), if_neg (by omega), wsucc i (by omega)]
   exact g.2
theorem ok_ev : ∃ K, ∀ k, K ≤ k → spec_FlowOk.f k n l f = some true ∧ impl_FlowOk.f k n l f = some true := by
 have hl := hN.2.1
 obtain ⟨g, K1, h1, h2⟩ := net_ev n l (by omega)
 obtain ⟨K2, h3⟩ := ok_l0 hN hF l.length 0 (by omega)
 obtain rfl := h2.mpr hN
 refine ⟨K1 + K2 + 1, fun k hk => ?_⟩
 unfold spec_FlowOk.f impl_FlowOk.f
 rw [(h1 k (by omega)).1, (h1 k (by omega)).2, Option.bind_some, Option.bind_some, if_pos rfl, if_pos rfl]
 obtain ⟨k, rfl⟩ : ∃ m, k = m + 1 := ⟨k - 1, by omega⟩
 rw [spec_FlowOk.j0, impl_FlowOk.j0, show ((f.length : Int) != (l.length : Int)) = false by rw [hF.len]; simp, if_neg (by decide), if_neg (by decide)]
 exact h3 k (by omega)
theorem size_ev : ∃ K, ∀ k, K ≤ k → spec_FlowSize.f k n l f = some m ∧ impl_FlowCost.f k n l f = some (cs l f l.length) := by
 have hn := hN.1
 obtain ⟨K1, h1⟩ := ok_ev hN hF
 obtain ⟨p, q, K2, ⟨g1, g2, g3⟩, g4⟩ := ex_ev hN hF
 refine ⟨K1 + K2 + l.length + 1, fun k hk => ?_⟩
 unfold spec_FlowSize.f impl_FlowCost.f
 refine ⟨?_, ?_⟩
 ·rw [(h1 k (by omega)).1, Option.bind_some, if_pos rfl, (g4 k (by omega)).1, Option.bind_some, if_pos (by omega)]
  have := (g3 0 (by omega)).1
  rw [hF.sz] at this
  exact congrArg some this
 ·rw [(h1 k (by omega)).2, Option.bind_some, if_pos rfl, co_ev hN hF.len hF.fl k (by omega), Option.bind_some]
theorem pok_l1 (p : List Int) (hp : (p.length : Int) = n) (hb : ∀ z : Int, 0 ≤ z → z < n → -150000 ≤ rd p z ∧ rd p z ≤ 0) (hA : Ap l f (fun z => rd p z)) : ∀ (e i : Nat), i + e = l.length → ∀ k, impl_PricesOk.l1 (k + e + 1) f p l (l.length : Int) (i : Int) = some true
 | 0, i, hi, k => by rw [show k + 0 + 1 = k + 1 by omega, impl_PricesOk.l1, if_neg (by omega)]
 | e + 1, i, hi, k => by
  have hil : i < l.length := by omega
  have hf := hF.len
  have hl := hN.2.1
  have g := pok_l1 p hp hb hA e (i + 1) (by omega) k
  obtain ⟨⟨a1, a2⟩, ⟨b1, b2⟩, hab, ⟨r1, r2⟩, ⟨c1, c2⟩⟩ := hN.2.2 i (Nat.zero_le _) hil
  obtain ⟨t1, t2⟩ := hA i hil
  simp only at t1 t2
  have u := hb _ a1 a2
  have v := hb _ b1 b2
  have w1 : wrap64 (rd p l[i].f0 + l[i].f3) = rd p l[i].f0 + l[i].f3 := w64 (by omega) (by omega)
  have w2 : wrap64 (rd p l[i].f1 - l[i].f3) = rd p l[i].f1 - l[i].f3 := w64 (by clear w1; omega) (by clear w1; omega)
  rw [show k + (e + 1) + 1 = (k + e + 1) + 1 by omega, impl_PricesOk.l1, if_pos (by clear w1 w2; omega), if_pos (by clear w1 w2; omega), if_pos (by clear w1 w2; omega), if_pos (by clear w1 w2; omega), rdA_get l i hil, w1, w2, wsucc i (by clear w1 w2; omega)]
  clear w1 w2
  by_cases q1 : rd f (i : Int) < l[i].f2
  ·have := t1 q1
   rw [if_pos q1, if_pos a1, if_pos (by omega), if_pos b1, if_pos (by omega), if_neg (by omega)]
   by_cases q2 : rd f (i : Int) > 0
   ·have := t2 q2
    rw [if_pos q2, if_neg (by omega)]; exact g
   ·rw [if_neg q2]; exact g
  ·rw [if_neg q1]
   by_cases q2 : rd f (i : Int) > 0
   ·have := t2 q2
    rw [if_pos q2, if_pos b1, if_pos (by omega), if_pos a1, if_pos (by omega), if_neg (by omega)]; exact g
   ·rw [if_neg q2]; exact g
theorem pok_ev (p : List Int) (hp : (p.length : Int) = n) (hb : ∀ z : Int, 0 ≤ z → z < n → -150000 ≤ rd p z ∧ rd p z ≤ 0) (hA : Ap l f (fun z => rd p z)) : ∃ K, ∀ k, K ≤ k → impl_PricesOk.f k n l f p = some true := by
 have hn := hN.1
 obtain ⟨K1, h1⟩ := ok_ev hN hF
 have l0 : ∀ (e i : Nat), (i : Int) + e = n → ∀ k, impl_PricesOk.l0 (k + l.length + 1 + e + 1) f p p (p.length : Int) (i : Int) n l = some true := by
  intro e
  induction e with
  | zero =>
   intro i hi k
   rw [show k + l.length + 1 + 0 + 1 = (k + l.length + 1) + 1 by omega, impl_PricesOk.l0, if_neg (by omega)]
   exact pok_l1 hN hF p hp hb hA l.length 0 (by omega) k
  | succ e ih =>
   intro i hi k
   have := hb (i : Int) (by omega) (by omega)
   rw [show k + l.length + 1 + (e + 1) + 1 = (k + l.length + 1 + e + 1) + 1 by omega, impl_PricesOk.l0, if_pos (by omega), if_pos (by omega), if_pos (by omega), if_neg (by omega), if_neg (by omega), wsucc i (by omega)]
   exact ih (i + 1) (by omega) k
 refine ⟨K1 + l.length + n.toNat + 4, fun k hk => ?_⟩
 unfold impl_PricesOk.f
 rw [(h1 k (by omega)).2, Option.bind_some, if_pos rfl, show ((p.length : Int) != n) = false by rw [hp]; simp]
 obtain ⟨k, rfl⟩ : ∃ m, k = (m + l.length + 1 + n.toNat + 1) + 1 := ⟨k - l.length - n.toNat - 3, by omega⟩
 rw [impl_PricesOk.j0, if_neg (by decide)]
 exact l0 n.toNat 0 (by omega) k
end
end Go.Proofs.Ytkdemainohfgfaa.Pure
