/- The plain facts of this claim, in their order. -/
import Derived.Test.YtkdemainohfgfaaQ0
import Derived.Test.YtkdemainohfgfaaQ2
import Derived.Test.YtkdemainohfgfaaQ1
import Derived.Test.YtkdemainohfgfaaQ4
import Derived.Test.YtkdemainohfgfaaQ7
import Derived.Test.YtkdemainohfgfaaQ5
import Derived.Test.YtkdemainohfgfaaQ9
import Derived.Test.YtkdemainohfgfaaQ10
set_option linter.unusedSimpArgs false
set_option linter.unusedSectionVars false
/- Plain facts that all the proofs share. -/
namespace Go.Proofs.Ytkdemainohfgfaa.Pure
open Go.RowKit Go.Proofs.Ytkdemainohfgfaa.Q Go.Proofs.YtkdemainohfgfaaW.PrintWords Go.Proofs.YtkdemainohfgfaaW.PrintLast

theorem w64 {x : Int} (h0 : -9223372036854775808 ≤ x) (h1 : x ≤ 9223372036854775807) : wrap64 x = x := by unfold wrap64; omega
theorem rd_get (l : List Int) (i : Nat) (h : i < l.length) : rd l (i : Int) = l[i] := by simp [rd, h]
theorem drop_cons {α : Type} (l : List α) (i : Nat) (h : i < l.length) : l.drop i = l[i] :: l.drop (i + 1) := List.drop_eq_getElem_cons h
def iota (m : Int) : Nat → List Int
 | 0 => []
 | d + 1 => m :: iota (m + 1) d
theorem iota_length : ∀ (m : Int) (d : Nat), (iota m d).length = d
 | _, 0 => rfl
 | m, d + 1 => by simp [iota, iota_length (m + 1) d]

end Go.Proofs.Ytkdemainohfgfaa.Pure
/- Plain facts about the law's helpers over whole numbers: what comparing answers. -/
namespace Go.Proofs.Ytkdemainohfgfaa.Pure
open Go.RowKit Go.Proofs.Ytkdemainohfgfaa.Q Go.Proofs.YtkdemainohfgfaaW.PrintWords Go.Proofs.YtkdemainohfgfaaW.PrintLast

theorem eqIntS_l0 (a b : List Int) (hl : a.length = b.length) (hn : a.length ≤ 9223372036854775807) : ∀ (d i k : Nat), i + d = a.length → d < k →
  laws_eqIntS.l0 k a b (i : Int) = some (decide (a.drop i = b.drop i))
 | 0, i, k, hi, hk => by
  obtain ⟨k, rfl⟩ : ∃ m, k = m + 1 := ⟨k - 1, by omega⟩
  simp only [laws_eqIntS.l0]
  rw [if_neg (by omega), List.drop_of_length_le (by omega), List.drop_of_length_le (by omega)]
  rfl
 | d + 1, i, k, hi, hk => by
  obtain ⟨k, rfl⟩ : ∃ m, k = m + 1 := ⟨k - 1, by omega⟩
  simp only [laws_eqIntS.l0]
  rw [if_pos (by omega), if_pos (by omega), if_pos (by omega), rd_get a i (by omega), rd_get b i (by omega), drop_cons a i (by omega), drop_cons b i (by omega), w64 (by omega) (by omega)]
  by_cases h : a[i]'(by omega) = b[i]'(by omega)
  ·rw [if_pos h, show ((i : Int) + 1) = ((i + 1 : Nat) : Int) by omega, eqIntS_l0 a b hl hn d (i + 1) k (by omega) (by omega)]
   simp only [h, List.cons.injEq, true_and]
  ·rw [if_neg h]
   simp only [List.cons.injEq, h, false_and, decide_false]
theorem eqIntS_ev (a b : List Int) (hn : a.length ≤ 9223372036854775807) : ∃ K, ∀ k, K ≤ k → laws_eqIntS.f k a b = some (decide (a = b)) := by
 refine ⟨a.length + 1, fun k hk => ?_⟩
 show laws_eqIntS.f k a b = some (decide (a = b))
 unfold laws_eqIntS.f
 by_cases h : a.length = b.length
 ·rw [if_pos (by omega)]
  have := eqIntS_l0 a b h hn a.length 0 k (by omega) (by omega)
  simpa using this
 ·rw [if_neg (by omega), decide_eq_false (fun e => h (by rw [e]))]
end Go.Proofs.Ytkdemainohfgfaa.Pure
/- Plain facts about the law's helpers over whole numbers: what copying answers. -/
namespace Go.Proofs.Ytkdemainohfgfaa.Pure
open Go.RowKit Go.Proofs.Ytkdemainohfgfaa.Q Go.Proofs.YtkdemainohfgfaaW.PrintWords Go.Proofs.YtkdemainohfgfaaW.PrintLast

theorem toIntS_l0 (l : List Int) (hn : l.length ≤ 9223372036854775807) : ∀ (d i k : Nat) (out : List Int), out.length = l.length → i + d = l.length → (∀ j, j < i → out[j]? = l[j]?) → d < k →
  laws_toIntS.l0 k l out (i : Int) = some l
 | 0, i, k, out, ho, hi, hj, hk => by
  obtain ⟨k, rfl⟩ : ∃ m, k = m + 1 := ⟨k - 1, by omega⟩
  simp only [laws_toIntS.l0]
  rw [if_neg (by omega)]
  congr 1
  apply List.ext_getElem?
  intro j
  rcases Nat.lt_or_ge j l.length with h | h
  ·exact hj j (by omega)
  ·rw [List.getElem?_eq_none (by omega), List.getElem?_eq_none h]
 | d + 1, i, k, out, ho, hi, hj, hk => by
  obtain ⟨k, rfl⟩ : ∃ m, k = m + 1 := ⟨k - 1, by omega⟩
  simp only [laws_toIntS.l0]
  rw [if_pos (by omega), if_pos (by omega), if_pos (by omega), w64 (by omega) (by omega), show ((i : Int) + 1) = ((i + 1 : Nat) : Int) by omega]
  refine toIntS_l0 l hn d (i + 1) k _ (by simpa using ho) (by omega) (fun j hji => ?_) (by omega)
  rw [Int.toNat_natCast, rd_get l i (by omega), List.getElem?_set]
  by_cases e : i = j
  ·subst e
   rw [if_pos rfl, if_pos (by omega), List.getElem?_eq_getElem (by omega)]
  ·rw [if_neg e]
   exact hj j (by omega)
theorem toIntS_ev (l : List Int) (hn : l.length ≤ 35184372088832) : ∃ K, ∀ k, K ≤ k → laws_toIntS.f k l = some l := by
 refine ⟨l.length + 1, fun k hk => ?_⟩
 show laws_toIntS.f k l = some l
 unfold laws_toIntS.f
 rw [if_pos (by omega), if_pos (by omega)]
 exact toIntS_l0 l (by omega) l.length 0 k _ (by simp) (by omega) (fun j hj => absurd hj (Nat.not_lt_zero _)) (by omega)
end Go.Proofs.Ytkdemainohfgfaa.Pure
/- A number between two others. -/
namespace Go.Proofs.Ytkdemainohfgfaa.Pure
open Go.RowKit Go.Proofs.Ytkdemainohfgfaa.Q Go.Proofs.YtkdemainohfgfaaW.PrintWords Go.Proofs.YtkdemainohfgfaaW.PrintLast
theorem l01In_eq (a b c : Int) : spec_l01In.f a b c = some (decide (b ≤ a ∧ a ≤ c)) := by
 unfold spec_l01In.f
 by_cases h : a ≥ b
 ·rw [if_pos h]; congr 1; exact decide_eq_decide.mpr ⟨fun h2 => ⟨h, h2⟩, fun h2 => h2.2⟩
 ·rw [if_neg h, decide_eq_false (fun h2 => h h2.1)]
end Go.Proofs.Ytkdemainohfgfaa.Pure
/- Nets and flows: what the program and the reference answer. -/
namespace Go.Proofs.Ytkdemainohfgfaa.Pure
open Go.RowKit Go.Proofs.Ytkdemainohfgfaa.Q Go.Proofs.YtkdemainohfgfaaW.PrintWords Go.Proofs.YtkdemainohfgfaaW.PrintLast
abbrev AI := S53
theorem rdA_get (l : List AI) (i : Nat) (h : i < l.length) : rd_T53 l (i : Int) = l[i] := by simp [rd_T53, h]
def Aok (n : Int) (x : AI) : Prop := (0 ≤ x.f0 ∧ x.f0 < n) ∧ (0 ≤ x.f1 ∧ x.f1 < n) ∧ x.f0 ≠ x.f1 ∧ (0 ≤ x.f2 ∧ x.f2 ≤ 20) ∧ (0 ≤ x.f3 ∧ x.f3 ≤ 100)
def AFrom (n : Int) (l : List AI) (i : Nat) : Prop := ∀ j : Nat, i ≤ j → (h : j < l.length) → Aok n l[j]
theorem AFrom_step (n : Int) (l : List AI) (i : Nat) (hi : i < l.length) : AFrom n l i ↔ Aok n l[i] ∧ AFrom n l (i + 1) := by
 constructor
 ·exact fun h => ⟨h i (Nat.le_refl _) hi, fun j h1 => h j (by omega)⟩
 ·rintro ⟨h0, h⟩ j h1 h2
  rcases Nat.eq_or_lt_of_le h1 with e | e
  ·subst e; exact h0
  ·exact h j e h2
def Nok (n : Int) (l : List AI) : Prop := (2 ≤ n ∧ n ≤ 1500) ∧ l.length ≤ 3200 ∧ AFrom n l 0
theorem net_l0 (n : Int) (l : List AI) (hn : 2 ≤ n ∧ n ≤ 1500) (hl : l.length ≤ 3200) : ∀ (d i : Nat), i + d = l.length → ∃ g K, (∀ k, K ≤ k → spec_NetOk.l0 k (i : Int) n l = some g ∧ impl_NetOk.l0 k l (l.length : Int) (i : Int) n l = some g) ∧ (g = true ↔ AFrom n l i)
 | 0, i, hi => by
  refine ⟨true, 1, fun k hk => ?_, ⟨fun _ j h1 h2 => by omega, fun _ => rfl⟩⟩
  obtain ⟨k, rfl⟩ : ∃ m, k = m + 1 := ⟨k - 1, by omega⟩
  have e1 : ¬ (i : Int) < (l.length : Int) := by omega
  simp only [spec_NetOk.l0, impl_NetOk.l0, e1, reduceIte, and_self]
 | d + 1, i, hi => by
  obtain ⟨g, K, h, hg⟩ := net_l0 n l hn hl d (i + 1) (by omega)
  have e1 : (i : Int) < (l.length : Int) := by omega
  have e2 : (0 : Int) ≤ i := by omega
  have e8 : wrap64 (n - 1) = n - 1 := w64 (by omega) (by omega)
  have e9 : wrap64 ((i : Int) + 1) = ((i + 1 : Nat) : Int) := by rw [w64 (by omega) (by omega)]; rfl
  rw [AFrom_step n l i (by omega)]
  have r1 := rdA_get l i (show i < l.length by omega)
  have hL : l[i]'(by omega) = l[i]'(by omega) := rfl
  generalize l[i]'(by omega) = x at r1 ⊢
  clear hL
  by_cases hA : Aok n x
  ·obtain ⟨⟨a1, a2⟩, ⟨a3, a4⟩, a5, ⟨a6, a7⟩, ⟨a8, a9⟩⟩ := id hA
   refine ⟨g, K + 2, fun k hk => ?_, by rw [hg]; exact ⟨fun h => ⟨hA, h⟩, fun h => h.2⟩⟩
   obtain ⟨k, rfl⟩ : ∃ m, k = m + 2 := ⟨k - 2, by omega⟩
   obtain ⟨h1, h2⟩ := h k (by omega)
   obtain ⟨h3, h4⟩ := h (k + 1) (by omega)
   have b1 : ¬ x.f0 < 0 := by clear h hg; omega
   have b2 : ¬ x.f0 ≥ n := by clear h hg; omega
   have b3 : ¬ x.f1 < 0 := by clear h hg; omega
   have b4 : ¬ x.f1 ≥ n := by clear h hg; omega
   have b6 : ¬ x.f2 < 0 := by clear h hg; omega
   have b7 : ¬ x.f2 > 20 := by clear h hg; omega
   have b8 : ¬ x.f3 < 0 := by clear h hg; omega
   have b9 : ¬ x.f3 > 100 := by clear h hg; omega
   have c1 : (0 ≤ x.f0 ∧ x.f0 ≤ n - 1) := by clear h hg; omega
   have c2 : (0 ≤ x.f1 ∧ x.f1 ≤ n - 1) := by clear h hg; omega
   have b5 : (x.f0 == x.f1) = false := by simpa using a5
   constructor
   ·clear h2
    rw [show k + 2 = (k + 1) + 1 from rfl]
    generalize k + 1 = k1 at h3 ⊢
    simp only [spec_NetOk.l0, r1, e1, e2, e9, e8, l01In_eq, Option.bind_some, c1, c2, a5, a6, a7, a8, a9, and_self, decide_true, reduceIte]
    exact h3
   ·simp only [impl_NetOk.l0, impl_NetOk.j2, r1, e1, e2, e9, b1, b2, b3, b4, b5, b6, b7, b8, b9, Bool.false_eq_true, reduceIte]
    exact h2
  ·refine ⟨false, 2, fun k hk => ?_, ⟨fun h => (by cases h), fun h => absurd h.1 hA⟩⟩
   obtain ⟨k, rfl⟩ : ∃ m, k = m + 2 := ⟨k - 2, by omega⟩
   clear h hg
   constructor
   ·simp only [spec_NetOk.l0, r1, e1, e2, e8, l01In_eq, Option.bind_some, reduceIte]
    by_cases c1 : (0 ≤ x.f0 ∧ x.f0 ≤ n - 1)
    ·by_cases c2 : (0 ≤ x.f1 ∧ x.f1 ≤ n - 1)
     ·by_cases c3 : x.f0 = x.f1
      ·rw [decide_eq_true c1, decide_eq_true c2]
       simp only [c3, reduceIte]
      ·by_cases c4 : (0 ≤ x.f2 ∧ x.f2 ≤ 20)
       ·by_cases c5 : (0 ≤ x.f3 ∧ x.f3 ≤ 100)
        ·exact absurd ⟨⟨c1.1, by omega⟩, ⟨c2.1, by omega⟩, c3, c4, c5⟩ hA
        ·rw [decide_eq_true c1, decide_eq_true c2, decide_eq_true c4, decide_eq_false c5]
         simp only [c3, Bool.false_eq_true, reduceIte]
       ·rw [decide_eq_true c1, decide_eq_true c2, decide_eq_false c4]
        simp only [c3, Bool.false_eq_true, reduceIte]
     ·rw [decide_eq_true c1, decide_eq_false c2]
      simp only [Bool.false_eq_true, reduceIte]
    ·rw [decide_eq_false c1]
     simp only [Bool.false_eq_true, reduceIte]
   ·simp only [impl_NetOk.l0, impl_NetOk.j2, r1, e1, e2, reduceIte]
    by_cases c1 : x.f0 < 0
    ·simp only [c1, reduceIte]
    ·by_cases c2 : x.f0 ≥ n
     ·simp only [c1, c2, reduceIte]
     ·by_cases c3 : x.f1 < 0
      ·simp only [c1, c2, c3, reduceIte]
      ·by_cases c4 : x.f1 ≥ n
       ·simp only [c1, c2, c3, c4, reduceIte]
       ·by_cases c5 : (x.f0 == x.f1) = true
        ·simp only [c1, c2, c3, c4, c5, reduceIte]
        ·by_cases c6 : x.f2 < 0
         ·simp only [c1, c2, c3, c4, c5, c6, Bool.false_eq_true, reduceIte]
         ·by_cases c7 : x.f2 > 20
          ·simp only [c1, c2, c3, c4, c5, c6, c7, Bool.false_eq_true, reduceIte]
          ·by_cases c8 : x.f3 < 0
           ·simp only [c1, c2, c3, c4, c5, c6, c7, c8, Bool.false_eq_true, reduceIte]
           ·by_cases c9 : x.f3 > 100
            ·simp only [c1, c2, c3, c4, c5, c6, c7, c8, c9, Bool.false_eq_true, reduceIte]
            ·exact absurd ⟨⟨by omega, by omega⟩, ⟨by omega, by omega⟩, by simpa using c5, ⟨by omega, by omega⟩, ⟨by omega, by omega⟩⟩ hA
theorem net_ev (n : Int) (l : List AI) (hl : l.length ≤ 1048576) : ∃ g K, (∀ k, K ≤ k → spec_NetOk.f k n l = some g ∧ impl_NetOk.f k n l = some g) ∧ (g = true ↔ Nok n l) := by
 by_cases hn : 2 ≤ n ∧ n ≤ 1500
 ·by_cases h3 : l.length ≤ 3200
  ·obtain ⟨g, K, h, hg⟩ := net_l0 n l hn h3 l.length 0 (by omega)
   refine ⟨g, K + 1, fun k hk => ?_, by rw [hg]; exact ⟨fun h => ⟨hn, h3, h⟩, fun h => h.2.2⟩⟩
   obtain ⟨k, rfl⟩ : ∃ m, k = m + 1 := ⟨k - 1, by omega⟩
   have b1 : ¬ n < 2 := by clear h hg; omega
   have b2 : ¬ n > 1500 := by clear h hg; omega
   have b3 : decide ((l.length : Int) > 3200) = false := decide_eq_false (by clear h hg; omega)
   unfold spec_NetOk.f impl_NetOk.f
   simp only [l01In_eq, hn, and_self, decide_true, Option.bind_some, b1, b2, b3, reduceIte]
   simp only [spec_NetOk.j0, impl_NetOk.j0, Bool.false_eq_true, reduceIte]
   exact h k (by omega)
  ·refine ⟨false, 1, fun k hk => ?_, ⟨fun h => (by cases h), fun h => absurd h.2.1 h3⟩⟩
   obtain ⟨k, rfl⟩ : ∃ m, k = m + 1 := ⟨k - 1, by omega⟩
   have b1 : ¬ n < 2 := by omega
   have b2 : ¬ n > 1500 := by omega
   have b3 : decide ((l.length : Int) > 3200) = true := decide_eq_true (by omega)
   unfold spec_NetOk.f impl_NetOk.f
   simp only [l01In_eq, hn, and_self, decide_true, Option.bind_some, b1, b2, b3, reduceIte]
   simp only [spec_NetOk.j0, impl_NetOk.j0, reduceIte, and_self]
 ·refine ⟨false, 1, fun k hk => ?_, ⟨fun h => (by cases h), fun h => absurd h.1 hn⟩⟩
  obtain ⟨k, rfl⟩ : ∃ m, k = m + 1 := ⟨k - 1, by omega⟩
  unfold spec_NetOk.f impl_NetOk.f
  rw [l01In_eq, Option.bind_some, decide_eq_false hn]
  simp only [Bool.false_eq_true, reduceIte]
  by_cases b1 : n < 2
  ·simp only [b1, spec_NetOk.j0, impl_NetOk.j0, reduceIte, and_self]
  ·have b2 : n > 1500 := by omega
   simp only [b1, b2, spec_NetOk.j0, impl_NetOk.j0, reduceIte, and_self]
theorem rd_setA (l : List Int) (z v : Int) (hz : 0 ≤ z) (hl : z < l.length) (i : Int) (hi : 0 ≤ i) : rd (l.set z.toNat v) i = if i = z then v else rd l i := by
 unfold rd
 rw [List.getD_eq_getElem?_getD, List.getD_eq_getElem?_getD, List.getElem?_set]
 by_cases e : i = z
 ·subst e
  rw [if_pos rfl, if_pos (by omega), if_pos rfl]; rfl
 ·rw [if_neg (by omega), if_neg e]
def FlFrom (l : List AI) (f : List Int) (i : Nat) : Prop := ∀ j : Nat, i ≤ j → (h : j < l.length) → 0 ≤ rd f (j : Int) ∧ rd f (j : Int) ≤ l[j].f2
theorem excess_l0 (n : Int) (l : List AI) (f : List Int) (hN : Nok n l) (hf : f.length = l.length) (hfl : FlFrom l f 0) : ∀ (d i : Nat) (p q : List Int), i + d = l.length → (p.length : Int) = n → (q.length : Int) = n → (∀ j : Int, 0 ≤ j → rd q j = - rd p j ∧ -(40 * (i : Int)) ≤ rd p j ∧ rd p j ≤ 40 * (i : Int)) →
  ∃ p' q' K, (∀ k, K ≤ k → spec_l06Out.l0 k f p (i : Int) n l = some p' ∧ impl_excess.l0 k f q l (l.length : Int) (i : Int) = some q') ∧ (p'.length : Int) = n ∧ (q'.length : Int) = n ∧ ∀ j : Int, 0 ≤ j → rd q' j = - rd p' j
 | 0, i, p, q, hi, hp, hq, h => by
  refine ⟨p, q, 1, fun k hk => ?_, hp, hq, fun j hj => (h j hj).1⟩
  obtain ⟨k, rfl⟩ : ∃ m, k = m + 1 := ⟨k - 1, by omega⟩
  have e1 : ¬ (i : Int) < (l.length : Int) := by clear h; omega
  have e2 : ¬ (i : Int) < (f.length : Int) := by clear h; omega
  simp only [spec_l06Out.l0, impl_excess.l0, e1, e2, reduceIte, and_self]
 | d + 1, i, p, q, hi, hp, hq, h => by
  have hil : i < l.length := by clear h; omega
  obtain ⟨hn, h32, hA⟩ := id hN
  obtain ⟨⟨a1, a2⟩, ⟨a3, a4⟩, a5, ⟨a6, a7⟩, _⟩ := hA i (Nat.zero_le _) hil
  obtain ⟨f0, f1⟩ := hfl i (Nat.zero_le _) hil
  have r1 := rdA_get l i hil
  have e1 : (i : Int) < (l.length : Int) := by clear h; omega
  have e2 : (0 : Int) ≤ i := by clear h; omega
  have e3 : (i : Int) < (f.length : Int) := by clear h; omega
  have hi40 : (i : Int) ≤ 3200 := by clear h hA hfl; omega
  have e9' : Aside0 (wrap64 ((i : Int) + 1) = ((i + 1 : Nat) : Int)) := ⟨by rw [w64 (by clear h hA hfl; omega) (by clear h hA hfl; omega)]; rfl⟩
  generalize l[i] = x at a1 a2 a3 a4 a5 a6 a7 f0 f1 r1
  generalize hc : rd f (i : Int) = c at f0 f1
  have c20 : c ≤ 20 := by clear h; omega
  have p1 : x.f0 < (p.length : Int) := by rw [hp]; exact a2
  have p2 : x.f1 < (p.length : Int) := by rw [hp]; exact a4
  have q1 : x.f0 < (q.length : Int) := by rw [hq]; exact a2
  have q2 : x.f1 < (q.length : Int) := by rw [hq]; exact a4
  obtain ⟨g1, g2, g3⟩ := h x.f0 a1
  obtain ⟨g4, g5, g6⟩ := h x.f1 a3
  have ne1 : ¬ x.f1 = x.f0 := fun e => a5 e.symm
  have s1 : rd (p.set x.f0.toNat (wrap64 (rd p x.f0 + c))) x.f1 = rd p x.f1 := by rw [rd_setA p x.f0 _ a1 p1 x.f1 a3, if_neg ne1]
  have s2 : rd (q.set x.f1.toNat (wrap64 (rd q x.f1 + c))) x.f0 = rd q x.f0 := by rw [rd_setA q x.f1 _ a3 q2 x.f0 a1, if_neg a5]
  have w1 : wrap64 (rd p x.f0 + c) = rd p x.f0 + c := by clear h; exact w64 (by omega) (by omega)
  have w2 : wrap64 (rd p x.f1 - c) = rd p x.f1 - c := by clear h; exact w64 (by omega) (by omega)
  have w3 : wrap64 (rd q x.f1 + c) = rd q x.f1 + c := by clear h; exact w64 (by omega) (by omega)
  have w4 : wrap64 (rd q x.f0 - c) = rd q x.f0 - c := by clear h; exact w64 (by omega) (by omega)
  obtain ⟨p', q', K, hh, hp', hq', hr⟩ := excess_l0 n l f hN hf hfl d (i + 1) ((p.set x.f0.toNat (rd p x.f0 + c)).set x.f1.toNat (rd p x.f1 - c)) ((q.set x.f1.toNat (rd q x.f1 + c)).set x.f0.toNat (rd q x.f0 - c)) (by clear h; omega) (by simpa using hp) (by simpa using hq) (fun j hj => by
   obtain ⟨u1, u2, u3⟩ := h j hj
   clear h
   rw [rd_setA _ x.f1 _ a3 (by simpa using p2) j hj, rd_setA _ x.f0 _ a1 p1 j hj, rd_setA _ x.f0 _ a1 (by simpa using q1) j hj, rd_setA _ x.f1 _ a3 q2 j hj]
   by_cases j1 : j = x.f1
   ·have j0 : ¬ j = x.f0 := fun e => a5 (by rw [← e, ← j1])
    rw [if_pos j1, if_neg j0, if_pos j1]
    clear s1 s2 w1 w2 w3 w4
    omega
   ·rw [if_neg j1]
    by_cases j0 : j = x.f0
    ·rw [if_pos j0, if_pos j0]
     clear s1 s2 w1 w2 w3 w4
     omega
    ·rw [if_neg j0, if_neg j0, if_neg j1]
     clear s1 s2 w1 w2 w3 w4
     omega)
  clear h
  refine ⟨p', q', K + 1, fun k hk => ?_, hp', hq', hr⟩
  obtain ⟨k, rfl, hkK⟩ : ∃ m, k = m + 1 ∧ K ≤ m := ⟨k - 1, Nat.eq_add_of_sub_eq (Nat.le_trans (Nat.le_add_left 1 K) hk) rfl, Nat.le_sub_of_add_le hk⟩
  obtain ⟨h1, h2⟩ := hh k hkK
  rw [w1] at s1
  rw [w3] at s2
  have p3 : x.f1 < ((p.set x.f0.toNat (rd p x.f0 + c)).length : Int) := by simpa using p2
  have e9 := e9'.out
  constructor
  ·simp only [spec_l06Out.l0, r1, hc, e1, e2, e3, a1, a3, p1, p2, Option.bind_some, w1, s1, w2, e9, reduceIte]
   exact h1
  ·simp only [impl_excess.l0, r1, hc, e1, e2, e3, a1, a3, q1, q2, Option.bind_some, w3, s2, w4, e9, reduceIte]
   exact h2
theorem rd_zeros (n : Nat) (j : Int) : rd (List.replicate n 0) j = 0 := by
 unfold rd
 rw [List.getD_eq_getElem?_getD, List.getElem?_replicate]
 split <;> rfl
theorem excess_ev (n : Int) (l : List AI) (f : List Int) (hN : Nok n l) (hf : f.length = l.length) (hfl : FlFrom l f 0) : ∃ p q K, (∀ k, K ≤ k → spec_l06Out.f k n l f = some p ∧ impl_excess.f k n l f = some q) ∧ (p.length : Int) = n ∧ (q.length : Int) = n ∧ ∀ j : Int, 0 ≤ j → rd q j = - rd p j := by
 obtain ⟨hn, _, _⟩ := id hN
 have hlen : ((List.replicate n.toNat (0 : Int)).length : Int) = n := by simp; omega
 obtain ⟨p, q, K, h, h1, h2, h3⟩ := excess_l0 n l f hN hf hfl l.length 0 (List.replicate n.toNat 0) (List.replicate n.toNat 0) (by omega) hlen hlen (fun j _ => by rw [rd_zeros]; omega)
 refine ⟨p, q, K, fun k hk => ?_, h1, h2, h3⟩
 unfold spec_l06Out.f impl_excess.f
 rw [if_pos (by clear h; omega), if_pos (by clear h; omega), if_pos (by clear h; omega), if_pos (by clear h; omega)]
 exact h k hk
def Bal (p : List Int) (n : Int) (i : Nat) : Prop := ∀ j : Nat, i ≤ j → (j : Int) < n → 2 ≤ j → rd p (j : Int) = 0
theorem Bal_step (p : List Int) (n : Int) (i : Nat) (hi : (i : Int) < n) : Bal p n i ↔ (2 ≤ i → rd p (i : Int) = 0) ∧ Bal p n (i + 1) := by
 constructor
 ·exact fun h => ⟨fun h2 => h i (Nat.le_refl _) hi h2, fun j h1 => h j (by omega)⟩
 ·rintro ⟨h0, h⟩ j h1 h2 h3
  rcases Nat.eq_or_lt_of_le h1 with e | e
  ·subst e; exact h0 h3
  ·exact h j e h2 h3
theorem specBal_l1 (n : Int) (l : List AI) (p : List Int) (hp : (p.length : Int) = n) (hn : n ≤ 1500) : ∀ (d i : Nat), (i : Int) + d = n → 2 ≤ i → ∃ g K, (∀ k, K ≤ k → spec_FlowOk.l1 k p (i : Int) n l = some g) ∧ (g = true ↔ Bal p n i)
 | 0, i, hi, h2 => by
  refine ⟨true, 1, fun k hk => ?_, ⟨fun _ j h1 h2 => by omega, fun _ => rfl⟩⟩
  obtain ⟨k, rfl⟩ : ∃ m, k = m + 1 := ⟨k - 1, by omega⟩
  simp only [spec_FlowOk.l1]
  rw [if_neg (by omega)]
 | d + 1, i, hi, h2 => by
  obtain ⟨g, K, h, hg⟩ := specBal_l1 n l p hp hn d (i + 1) (by omega) (by omega)
  have e1 : (i : Int) < n := by clear h hg; omega
  have e2 : (0 : Int) ≤ i := by clear h hg; omega
  have e3 : (i : Int) < (p.length : Int) := by clear h hg; omega
  have e9 : wrap64 ((i : Int) + 1) = ((i + 1 : Nat) : Int) := by rw [w64 (by clear h hg; omega) (by clear h hg; omega)]; rfl
  rw [Bal_step p n i e1]
  by_cases c : rd p (i : Int) = 0
  ·refine ⟨g, K + 1, fun k hk => ?_, by rw [hg]; exact ⟨fun h => ⟨fun _ => c, h⟩, fun h => h.2⟩⟩
   obtain ⟨k, rfl⟩ : ∃ m, k = m + 1 := ⟨k - 1, by omega⟩
   simp only [spec_FlowOk.l1, e1, e2, e3, e9, c, reduceIte]
   exact h k (by omega)
  ·refine ⟨false, 1, fun k hk => ?_, ⟨fun h => (by cases h), fun h => absurd (h.1 h2) c⟩⟩
   obtain ⟨k, rfl⟩ : ∃ m, k = m + 1 := ⟨k - 1, by omega⟩
   simp only [spec_FlowOk.l1, e1, e2, e3, c, reduceIte]
theorem implBal_l1 (n : Int) (q : List Int) (hq : (q.length : Int) = n) (hn : n ≤ 1500) : ∀ (d i : Nat), (i : Int) + d = n → ∃ g K, (∀ k, K ≤ k → impl_FlowOk.l1 k q (q.length : Int) (i : Int) = some g) ∧ (g = true ↔ Bal q n i)
 | 0, i, hi => by
  refine ⟨true, 1, fun k hk => ?_, ⟨fun _ j h1 h2 => by omega, fun _ => rfl⟩⟩
  obtain ⟨k, rfl⟩ : ∃ m, k = m + 1 := ⟨k - 1, by omega⟩
  simp only [impl_FlowOk.l1]
  rw [if_neg (by omega)]
 | d + 1, i, hi => by
  obtain ⟨g, K, h, hg⟩ := implBal_l1 n q hq hn d (i + 1) (by omega)
  have e1 : (i : Int) < n := by clear h hg; omega
  have e2 : (0 : Int) ≤ i := by clear h hg; omega
  have e3 : (i : Int) < (q.length : Int) := by clear h hg; omega
  have e9 : wrap64 ((i : Int) + 1) = ((i + 1 : Nat) : Int) := by rw [w64 (by clear h hg; omega) (by clear h hg; omega)]; rfl
  rw [Bal_step q n i e1]
  by_cases b : 2 ≤ i
  ·have b1 : (i : Int) > 1 := by clear h hg; omega
   by_cases c : rd q (i : Int) = 0
   ·refine ⟨g, K + 1, fun k hk => ?_, by rw [hg]; exact ⟨fun h => ⟨fun _ => c, h⟩, fun h => h.2⟩⟩
    obtain ⟨k, rfl⟩ : ∃ m, k = m + 1 := ⟨k - 1, by omega⟩
    simp only [impl_FlowOk.l1, e2, e3, e9, b1, c, reduceIte]
    exact h k (by omega)
   ·refine ⟨false, 1, fun k hk => ?_, ⟨fun h => (by cases h), fun h => absurd (h.1 b) c⟩⟩
    obtain ⟨k, rfl⟩ : ∃ m, k = m + 1 := ⟨k - 1, by omega⟩
    simp only [impl_FlowOk.l1, e2, e3, b1, c, reduceIte]
  ·have b1 : ¬ (i : Int) > 1 := by clear h hg; omega
   refine ⟨g, K + 1, fun k hk => ?_, by rw [hg]; exact ⟨fun h => ⟨fun h2 => absurd h2 b, h⟩, fun h => h.2⟩⟩
   obtain ⟨k, rfl⟩ : ∃ m, k = m + 1 := ⟨k - 1, by omega⟩
   simp only [impl_FlowOk.l1, e2, e3, e9, b1, reduceIte]
   exact h k (by omega)
end Go.Proofs.Ytkdemainohfgfaa.Pure
/- Flows that are right, and the law's helpers over nets. -/
namespace Go.Proofs.Ytkdemainohfgfaa.Pure
open Go.RowKit Go.Proofs.Ytkdemainohfgfaa.Q Go.Proofs.YtkdemainohfgfaaW.PrintWords Go.Proofs.YtkdemainohfgfaaW.PrintLast
abbrev AL := S77
def toA (x : AL) : AI := ⟨x.f0, x.f1, x.f2, x.f3⟩
theorem rdAL_get (l : List AL) (i : Nat) (h : i < l.length) : rd_T77 l (i : Int) = l[i] := by simp [rd_T77, h]
theorem szNet_eq (n : Int) (l : List AL) (hn : l.length ≤ 9223372036854775807) : laws_szNet.f n l 1048576 = some (if l.length ≤ 1048576 then 1048576 - (l.length : Int) else -1) := by
 unfold laws_szNet.f laws_szArcS.f
 rw [w64 (by omega) (by omega)]
 by_cases h : l.length ≤ 1048576
 ·rw [if_neg (by omega), if_pos h, Option.bind_some, if_neg (by omega)]
 ·rw [if_pos (by omega), if_neg h]; rfl
theorem toArcS_l0 (l : List AL) (hn : l.length ≤ 1048576) : ∀ (d i k : Nat) (out : List AI), out.length = l.length → i + d = l.length → (∀ j, j < i → out[j]? = (l.map toA)[j]?) → d < k →
  laws_toArcS.l0 k l out (i : Int) = some (l.map toA)
 | 0, i, k, out, ho, hi, hj, hk => by
  obtain ⟨k, rfl⟩ : ∃ m, k = m + 1 := ⟨k - 1, by omega⟩
  simp only [laws_toArcS.l0]
  rw [if_neg (by omega)]
  congr 1
  apply List.ext_getElem?
  intro j
  rcases Nat.lt_or_ge j l.length with h | h
  ·exact hj j (by omega)
  ·rw [List.getElem?_eq_none (by omega), List.getElem?_eq_none (by simp; omega)]
 | d + 1, i, k, out, ho, hi, hj, hk => by
  obtain ⟨k, rfl⟩ : ∃ m, k = m + 1 := ⟨k - 1, by omega⟩
  simp only [laws_toArcS.l0, laws_toArc.f, Option.bind_some]
  rw [if_pos (by omega), if_pos (by omega), if_pos (by omega), w64 (by omega) (by omega), show ((i : Int) + 1) = ((i + 1 : Nat) : Int) by omega]
  refine toArcS_l0 l hn d (i + 1) k _ (by simpa using ho) (by omega) (fun j hji => ?_) (by omega)
  rw [Int.toNat_natCast, rdAL_get l i (by omega), List.getElem?_set]
  by_cases e : i = j
  ·subst e
   rw [if_pos rfl, if_pos (by omega), List.getElem?_map, List.getElem?_eq_getElem (by omega)]
   rfl
  ·rw [if_neg e]
   exact hj j (by omega)
theorem toNet_ev (n : Int) (l : List AL) (hn : l.length ≤ 1048576) (k : Nat) (hk : l.length < k) : laws_toNet.f k n l = some (n, l.map toA) := by
 have h0 := toArcS_l0 l hn l.length 0 k (List.replicate ((l.length : Int)).toNat z53) (by simp) (by omega) (fun j hj => absurd hj (Nat.not_lt_zero _)) hk
 rw [show ((0 : Nat) : Int) = 0 from rfl] at h0
 unfold laws_toNet.f laws_toArcS.f
 rw [if_pos (by omega), if_pos (by omega), h0]
 rfl
theorem eqArcS_l0 (l : List AI) (hn : l.length ≤ 1048576) : ∀ (d i k : Nat), i + d = l.length → d < k → laws_eqArcS.l0 k l l (i : Int) = some true
 | 0, i, k, hi, hk => by
  obtain ⟨k, rfl⟩ : ∃ m, k = m + 1 := ⟨k - 1, by omega⟩
  simp only [laws_eqArcS.l0]
  rw [if_neg (by omega)]
 | d + 1, i, k, hi, hk => by
  obtain ⟨k, rfl⟩ : ∃ m, k = m + 1 := ⟨k - 1, by omega⟩
  simp only [laws_eqArcS.l0, laws_eqArc.f, reduceIte, Option.bind_some]
  rw [if_pos (by omega), if_pos (by omega), if_pos (by omega), w64 (by omega) (by omega), show ((i : Int) + 1) = ((i + 1 : Nat) : Int) by omega]
  exact eqArcS_l0 l hn d (i + 1) k (by omega) (by omega)
theorem eqNet_ev (n : Int) (l : List AI) (hn : l.length ≤ 1048576) (k : Nat) (hk : l.length < k) : laws_eqNet.f k n l n l = some true := by
 unfold laws_eqNet.f laws_eqArcS.f
 rw [if_pos rfl, if_pos rfl]
 have := eqArcS_l0 l hn l.length 0 k (by omega) hk
 rw [show ((0 : Nat) : Int) = 0 from rfl] at this
 rw [this]; rfl
section
variable (n : Int) (l : List AI) (f : List Int) (hN : Nok n l) (hf : f.length = l.length)
include hN hf
theorem flow_l0 (hc : FlFrom l f 0 → ∃ g K, ∀ k, K ≤ k → ((spec_l06Out.f k n l f).bind fun t130 => (spec_FlowOk.l1 k t130 2 n l)) = some g ∧ ((impl_excess.f k n l f).bind fun t193 => (impl_FlowOk.l1 k t193 (t193.length : Int) 0)) = some g) :
  ∀ (d i : Nat), i + d = l.length → (∀ j : Nat, j < i → (h : j < l.length) → 0 ≤ rd f (j : Int) ∧ rd f (j : Int) ≤ l[j].f2) → ∃ g K, (∀ k, K ≤ k → spec_FlowOk.l0 k f (i : Int) n l = some g ∧ impl_FlowOk.l0 k f l (l.length : Int) (i : Int) n l = some g) ∧ (g = true → FlFrom l f 0)
 | 0, i, hi, hj => by
  have hfl : FlFrom l f 0 := fun j _ h => hj j (by omega) h
  obtain ⟨g, K, h⟩ := hc hfl
  refine ⟨g, K + 1, fun k hk => ?_, fun _ => hfl⟩
  obtain ⟨k, rfl⟩ : ∃ m, k = m + 1 := ⟨k - 1, by omega⟩
  have e1 : ¬ (i : Int) < (l.length : Int) := by clear h hc; omega
  have e2 : ¬ (i : Int) < (f.length : Int) := by clear h hc; omega
  simp only [spec_FlowOk.l0, impl_FlowOk.l0, e1, e2, reduceIte]
  exact h k (by omega)
 | d + 1, i, hi, hj => by
  have hil : i < l.length := by omega
  have h32 := hN.2.1
  have e1 : (i : Int) < (l.length : Int) := by omega
  have e2 : (i : Int) < (f.length : Int) := by omega
  have e3 : (0 : Int) ≤ i := by omega
  have e9 : wrap64 ((i : Int) + 1) = ((i + 1 : Nat) : Int) := by rw [w64 (by omega) (by omega)]; rfl
  have r1 := rdA_get l i hil
  by_cases c : 0 ≤ rd f (i : Int) ∧ rd f (i : Int) ≤ l[i].f2
  ·obtain ⟨g, K, h, h1⟩ := flow_l0 hc d (i + 1) (by omega) (fun j hji h => by
    rcases Nat.lt_or_ge j i with e | e
    ·exact hj j e h
    ·have : j = i := by omega
     subst this; exact c)
   refine ⟨g, K + 1, fun k hk => ?_, h1⟩
   obtain ⟨k, rfl⟩ : ∃ m, k = m + 1 := ⟨k - 1, by omega⟩
   have b1 : ¬ rd f (i : Int) < 0 := Int.not_lt.mpr c.1
   have b2 : ¬ rd f (i : Int) > l[i].f2 := Int.not_lt.mpr c.2
   simp only [spec_FlowOk.l0, impl_FlowOk.l0, r1, e1, e2, e3, e9, l01In_eq, Option.bind_some, c, and_self, decide_true, b1, b2, reduceIte]
   exact h k (by omega)
  ·refine ⟨false, 1, fun k hk => ?_, fun h => (by cases h)⟩
   obtain ⟨k, rfl⟩ : ∃ m, k = m + 1 := ⟨k - 1, by omega⟩
   simp only [spec_FlowOk.l0, impl_FlowOk.l0, r1, e1, e2, e3, l01In_eq, Option.bind_some, c, decide_false, Bool.false_eq_true, reduceIte, true_and]
   by_cases b1 : rd f (i : Int) < 0
   ·simp only [b1, reduceIte]
   ·have b2 : rd f (i : Int) > l[i].f2 := Int.lt_of_not_ge (fun h => c ⟨Int.not_lt.mp b1, h⟩)
    simp only [b1, b2, reduceIte]
end
theorem flow_ev (n : Int) (l : List AI) (f : List Int) (hl : l.length ≤ 1048576) : ∃ g K, (∀ k, K ≤ k → spec_FlowOk.f k n l f = some g ∧ impl_FlowOk.f k n l f = some g) ∧ (g = true → Nok n l ∧ f.length = l.length ∧ FlFrom l f 0) := by
 obtain ⟨b, K1, h1, hb⟩ := net_ev n l hl
 have hj : ∀ k, spec_FlowOk.j0 (k + 1) f true n l = some false := fun k => by simp only [spec_FlowOk.j0, reduceIte]
 have hj2 : ∀ k, impl_FlowOk.j0 (k + 1) f true n l = some false := fun k => by simp only [impl_FlowOk.j0, reduceIte]
 cases b with
 | false =>
  refine ⟨false, K1 + 1, fun k hk => ?_, fun h => (by cases h)⟩
  obtain ⟨k, rfl⟩ : ∃ m, k = m + 1 := ⟨k - 1, by omega⟩
  unfold spec_FlowOk.f impl_FlowOk.f
  rw [(h1 (k + 1) (by omega)).1, (h1 (k + 1) (by omega)).2]
  simp only [Option.bind_some, Bool.false_eq_true, reduceIte, hj, hj2, and_self]
 | true =>
  have hN := hb.mp rfl
  by_cases hf : f.length = l.length
  ·have hn := hN.1
   obtain ⟨g, K, h, hg⟩ := flow_l0 n l f hN hf (fun hfl => by
    obtain ⟨p, q, K2, h2, hp, hq, hr⟩ := excess_ev n l f hN hf hfl
    obtain ⟨D, hD⟩ : ∃ D : Nat, ((2 : Nat) : Int) + D = n := ⟨(n - 2).toNat, by clear h2 hr; omega⟩
    obtain ⟨g1, K3, h3, hg1⟩ := specBal_l1 n l p hp (by clear h2 hr; omega) D 2 hD (Nat.le_refl _)
    obtain ⟨D2, hD2⟩ : ∃ D : Nat, ((0 : Nat) : Int) + D = n := ⟨n.toNat, by clear h2 hr h3 hg1; omega⟩
    obtain ⟨g2, K4, h4, hg2⟩ := implBal_l1 n q hq (by clear h2 hr h3 hg1; omega) D2 0 hD2
    have hBB : Bal p n 2 ↔ Bal q n 0 := by
     constructor
     ·intro hB j _ hj1 hj2
      rw [hr (j : Int) (by clear h2 hr h3 hg1 h4 hg2; omega), hB j hj2 hj1 hj2]; rfl
     ·intro hB j _ hj1 hj2
      have := hB j (Nat.zero_le _) hj1 hj2
      rw [hr (j : Int) (by clear h2 hr h3 hg1 h4 hg2 this; omega)] at this
      exact Int.neg_eq_zero.mp this
    have hgg : g1 = g2 := by
     cases g1 with
     | true => exact (hg2.mpr (hBB.mp (hg1.mp rfl))).symm
     | false =>
      cases g2 with
      | false => rfl
      | true => exact hg1.mpr (hBB.mpr (hg2.mp rfl))
    subst hgg
    refine ⟨g1, K2 + K3 + K4, fun k hk => ⟨?_, ?_⟩⟩
    ·rw [(h2 k (by clear h2 hr h3 hg1 h4 hg2; omega)).1, Option.bind_some]
     exact h3 k (by clear h2 hr h3 hg1 h4 hg2; omega)
    ·rw [(h2 k (by clear h2 hr h3 hg1 h4 hg2; omega)).2, Option.bind_some]
     exact h4 k (by clear h2 hr h3 hg1 h4 hg2; omega)) l.length 0 (by omega) (fun j h => absurd h (Nat.not_lt_zero _))
   refine ⟨g, K1 + K + 1, fun k hk => ?_, fun hgt => ⟨hN, hf, hg hgt⟩⟩
   obtain ⟨k, rfl⟩ : ∃ m, k = m + 1 := ⟨k - 1, by omega⟩
   have e : ((f.length : Int) != (l.length : Int)) = false := by rw [hf]; simp
   unfold spec_FlowOk.f impl_FlowOk.f
   rw [(h1 (k + 1) (by omega)).1, (h1 (k + 1) (by omega)).2]
   simp only [Option.bind_some, reduceIte, e]
   simp only [spec_FlowOk.j0, impl_FlowOk.j0, Bool.false_eq_true, reduceIte]
   exact h k (by omega)
  ·refine ⟨false, K1 + 1, fun k hk => ?_, fun h => (by cases h)⟩
   obtain ⟨k, rfl⟩ : ∃ m, k = m + 1 := ⟨k - 1, by omega⟩
   have e : ((f.length : Int) != (l.length : Int)) = true := by simp; omega
   unfold spec_FlowOk.f impl_FlowOk.f
   rw [(h1 (k + 1) (by omega)).1, (h1 (k + 1) (by omega)).2]
   simp only [Option.bind_some, reduceIte, e, hj, hj2, and_self]
end Go.Proofs.Ytkdemainohfgfaa.Pure
/- PricesOf: the program's rounds and the reference's are the same ones. -/
namespace Go.Proofs.Ytkdemainohfgfaa.Pure
open Go.RowKit Go.Proofs.Ytkdemainohfgfaa.Q Go.Proofs.YtkdemainohfgfaaW.PrintWords Go.Proofs.YtkdemainohfgfaaW.PrintLast
def cA (a : AI) (x : Int) (p : List Int) : Bool := decide (x < a.f2) && decide (wrap64 (rd p a.f0 + a.f3) < rd p a.f1)
def cB (a : AI) (x : Int) (p : List Int) : Bool := decide (x > 0) && decide (wrap64 (rd p a.f1 - a.f3) < rd p a.f0)
def stA (a : AI) (x : Int) (p : List Int) : List Int := if cA a x p = true then p.set a.f1.toNat (wrap64 (rd p a.f0 + a.f3)) else p
def stB (a : AI) (x : Int) (p : List Int) : List Int := if cB a x p = true then p.set a.f0.toNat (wrap64 (rd p a.f1 - a.f3)) else p
theorem stA_len (a : AI) (x : Int) (p : List Int) : (stA a x p).length = p.length := by unfold stA; split <;> simp
theorem stB_len (a : AI) (x : Int) (p : List Int) : (stB a x p).length = p.length := by unfold stB; split <;> simp
section
variable (n : Int) (l : List AI) (f : List Int) (hN : Nok n l) (hf : f.length = l.length) (hFl : FlFrom l f 0)
include hN hf
theorem spec_arc (p : List Int) (hp : (p.length : Int) = n) (r : Int) (b : Bool) (i : Nat) (hi : i < l.length) (k : Nat) : spec_PricesOf.l1 (k + 2) f p r b (i : Int) n l = spec_PricesOf.l1 k f (stB l[i] (rd f (i : Int)) (stA l[i] (rd f (i : Int)) p)) r (if cB l[i] (rd f (i : Int)) (stA l[i] (rd f (i : Int)) p) = true then true else if cA l[i] (rd f (i : Int)) p = true then true else b) ((i + 1 : Nat) : Int) n l := by
 obtain ⟨hn, h32, hA⟩ := id hN
 obtain ⟨⟨a1, a2⟩, ⟨a3, a4⟩, _⟩ := hA i (Nat.zero_le _) hi
 have e1 : (i : Int) < (l.length : Int) := by omega
 have e2 : (i : Int) < (f.length : Int) := by omega
 have e3 : (0 : Int) ≤ i := by omega
 have a5 : l[i].f0 < (p.length : Int) := by rw [hp]; exact a2
 have a6 : l[i].f1 < (p.length : Int) := by rw [hp]; exact a4
 have e9 : wrap64 ((i : Int) + 1) = ((i + 1 : Nat) : Int) := w64 (by omega) (by omega)
 have r1 := rdA_get l i hi
 clear hA hN
 generalize l[i] = a at *
 have q5 : ∀ v, a.f0 < ((p.set a.f1.toNat v).length : Int) := fun v => by simpa using a5
 have q6 : ∀ v, a.f1 < ((p.set a.f1.toNat v).length : Int) := fun v => by simpa using a6
 unfold stB stA cB cA
 by_cases c1 : rd f (i : Int) < a.f2
 ·by_cases c2 : wrap64 (rd p a.f0 + a.f3) < rd p a.f1
  ·by_cases c3 : rd f (i : Int) > 0
   ·by_cases c4 : wrap64 (rd (p.set a.f1.toNat (wrap64 (rd p a.f0 + a.f3))) a.f1 - a.f3) < rd (p.set a.f1.toNat (wrap64 (rd p a.f0 + a.f3))) a.f0
    ·simp only [spec_PricesOf.l1, spec_PricesOf.j2, r1, e1, e2, e3, e9, a1, a3, a5, a6, c1, c2, c3, c4, Option.bind_some, decide_true, Bool.and_self, reduceIte]
    ·simp only [spec_PricesOf.l1, spec_PricesOf.j2, r1, e1, e2, e3, e9, a1, a3, a5, a6, c1, c2, c3, c4, Option.bind_some, decide_true, decide_false, Bool.and_false, Bool.false_eq_true, Bool.and_self, reduceIte]
   ·simp only [spec_PricesOf.l1, spec_PricesOf.j2, r1, e1, e2, e3, e9, a1, a3, a5, a6, c1, c2, c3, Option.bind_some, decide_true, decide_false, Bool.false_and, Bool.false_eq_true, Bool.and_self, reduceIte]
  ·by_cases c3 : rd f (i : Int) > 0
   ·by_cases c4 : wrap64 (rd p a.f1 - a.f3) < rd p a.f0
    ·simp only [spec_PricesOf.l1, spec_PricesOf.j2, r1, e1, e2, e3, e9, a1, a3, a5, a6, c1, c2, c3, c4, Option.bind_some, decide_true, decide_false, Bool.and_false, Bool.false_eq_true, Bool.and_self, reduceIte]
    ·simp only [spec_PricesOf.l1, spec_PricesOf.j2, r1, e1, e2, e3, e9, a1, a3, a5, a6, c1, c2, c3, c4, Option.bind_some, decide_true, decide_false, Bool.and_false, Bool.false_eq_true, Bool.and_self, reduceIte]
   ·simp only [spec_PricesOf.l1, spec_PricesOf.j2, r1, e1, e2, e3, e9, a1, a3, a5, a6, c1, c2, c3, Option.bind_some, decide_true, decide_false, Bool.false_and, Bool.and_false, Bool.false_eq_true, Bool.and_self, reduceIte]
 ·by_cases c3 : rd f (i : Int) > 0
  ·by_cases c4 : wrap64 (rd p a.f1 - a.f3) < rd p a.f0
   ·simp only [spec_PricesOf.l1, spec_PricesOf.j2, r1, e1, e2, e3, e9, a1, a3, a5, a6, c1, c3, c4, Option.bind_some, decide_true, decide_false, Bool.false_and, Bool.and_false, Bool.false_eq_true, Bool.and_self, reduceIte]
   ·simp only [spec_PricesOf.l1, spec_PricesOf.j2, r1, e1, e2, e3, e9, a1, a3, a5, a6, c1, c3, c4, Option.bind_some, decide_true, decide_false, Bool.false_and, Bool.and_false, Bool.false_eq_true, Bool.and_self, reduceIte]
  ·simp only [spec_PricesOf.l1, spec_PricesOf.j2, r1, e1, e2, e3, e9, a1, a3, a5, a6, c1, c3, Option.bind_some, decide_true, decide_false, Bool.false_and, Bool.and_false, Bool.false_eq_true, Bool.and_self, reduceIte]
include hFl
theorem impl_arc (p : List Int) (hp : (p.length : Int) = n) (r : Int) (b : Bool) (i : Nat) (hi : i < l.length) (k : Nat) : impl_PricesOf.l1 (k + 4) f p r b (l.length : Int) (i : Int) n l = impl_PricesOf.l1 k f (stB l[i] (rd f (i : Int)) (stA l[i] (rd f (i : Int)) p)) r (if cB l[i] (rd f (i : Int)) (stA l[i] (rd f (i : Int)) p) = true then true else if cA l[i] (rd f (i : Int)) p = true then true else b) (l.length : Int) ((i + 1 : Nat) : Int) n l := by
 obtain ⟨hn, h32, hA⟩ := id hN
 obtain ⟨⟨a1, a2⟩, ⟨a3, a4⟩, _, ⟨a7, a8⟩, ⟨a9, a10⟩⟩ := hA i (Nat.zero_le _) hi
 obtain ⟨f1, f2⟩ := hFl i (Nat.zero_le _) hi
 have e1 : (i : Int) < (l.length : Int) := by omega
 have e2 : (i : Int) < (f.length : Int) := by omega
 have e3 : (0 : Int) ≤ i := by omega
 have a5 : l[i].f0 < (p.length : Int) := by rw [hp]; exact a2
 have a6 : l[i].f1 < (p.length : Int) := by rw [hp]; exact a4
 have e9 : wrap64 ((i : Int) + 1) = ((i + 1 : Nat) : Int) := w64 (by omega) (by omega)
 have r1 := rdA_get l i hi
 have g1 : wrap64 (l[i].f2 - rd f (i : Int)) > 0 ↔ rd f (i : Int) < l[i].f2 := by rw [w64 (by omega) (by omega)]; omega
 have g2 : wrap64 (-l[i].f3) = -l[i].f3 := w64 (by omega) (by omega)
 clear hA hN hFl f1 f2 a7 a8 a9 a10
 have s1 : ∀ (q : List Int) (b : Bool) (k : Nat), q.length = p.length → impl_PricesOf.l2 (k + 1) f q r b (l.length : Int) (i : Int) [(⟨(i : Int), false⟩ : S57), ⟨(i : Int), true⟩] 2 0 n l = impl_PricesOf.l2 k f (stA l[i] (rd f (i : Int)) q) r (if cA l[i] (rd f (i : Int)) q = true then true else b) (l.length : Int) (i : Int) [(⟨(i : Int), false⟩ : S57), ⟨(i : Int), true⟩] 2 1 n l := fun q b k hq => by
  have q0 : rd_T57 [(⟨(i : Int), false⟩ : S57), ⟨(i : Int), true⟩] 0 = ⟨(i : Int), false⟩ := rfl
  have q5 : l[i].f0 < (q.length : Int) := by rw [hq]; exact a5
  have q6 : l[i].f1 < (q.length : Int) := by rw [hq]; exact a6
  have z1 : (0 : Int) < (([(⟨(i : Int), false⟩ : S57), ⟨(i : Int), true⟩] : List S57).length : Int) := by simp
  rw [impl_PricesOf.l2, if_pos (by decide), if_pos (by decide), if_pos z1, q0]
  unfold impl_step_ends.f impl_step_room.f impl_step_price.f stA cA
  simp only [Bool.false_eq_true, reduceIte, e3, e1, e2, r1, Option.bind_some, g1, a1, a3, q5, q6]
  rw [show wrap64 ((0 : Int) + 1) = 1 from w64 (by omega) (by omega)]
  by_cases c1 : rd f (i : Int) < l[i].f2
  ·by_cases c2 : wrap64 (rd q l[i].f0 + l[i].f3) < rd q l[i].f1
   ·simp only [c1, c2, decide_true, Bool.and_self, reduceIte]
   ·simp only [c1, c2, decide_true, decide_false, Bool.and_false, Bool.false_eq_true, reduceIte]
  ·simp only [c1, decide_false, Bool.false_and, Bool.false_eq_true, reduceIte]
 have s2 : ∀ (q : List Int) (b : Bool) (k : Nat), q.length = p.length → impl_PricesOf.l2 (k + 1) f q r b (l.length : Int) (i : Int) [(⟨(i : Int), false⟩ : S57), ⟨(i : Int), true⟩] 2 1 n l = impl_PricesOf.l2 k f (stB l[i] (rd f (i : Int)) q) r (if cB l[i] (rd f (i : Int)) q = true then true else b) (l.length : Int) (i : Int) [(⟨(i : Int), false⟩ : S57), ⟨(i : Int), true⟩] 2 2 n l := fun q b k hq => by
  have q0 : rd_T57 [(⟨(i : Int), false⟩ : S57), ⟨(i : Int), true⟩] 1 = ⟨(i : Int), true⟩ := rfl
  have q5 : l[i].f0 < (q.length : Int) := by rw [hq]; exact a5
  have q6 : l[i].f1 < (q.length : Int) := by rw [hq]; exact a6
  have z1 : (1 : Int) < (([(⟨(i : Int), false⟩ : S57), ⟨(i : Int), true⟩] : List S57).length : Int) := by simp
  rw [impl_PricesOf.l2, if_pos (by decide), if_pos (by decide), if_pos z1, q0]
  unfold impl_step_ends.f impl_step_room.f impl_step_price.f stB cB
  simp only [reduceIte, e3, e1, e2, r1, Option.bind_some, a1, a3, q5, q6, g2]
  rw [show wrap64 ((1 : Int) + 1) = 2 from w64 (by omega) (by omega), ← Int.sub_eq_add_neg]
  by_cases c1 : rd f (i : Int) > 0
  ·by_cases c2 : wrap64 (rd q l[i].f1 - l[i].f3) < rd q l[i].f0
   ·simp only [c1, c2, decide_true, Bool.and_self, reduceIte]
   ·simp only [c1, c2, decide_true, decide_false, Bool.and_false, Bool.false_eq_true, reduceIte]
  ·simp only [c1, decide_false, Bool.false_and, Bool.false_eq_true, reduceIte]
 rw [show k + 4 = (k + 3) + 1 by omega, impl_PricesOf.l1, if_pos e1, Option.bind_some]
 have hlen : ((([(⟨(i : Int), false⟩ : S57), ⟨(i : Int), true⟩] : List S57).length : Nat) : Int) = 2 := by simp
 rw [hlen, s1 p b (k + 2) rfl, s2 _ _ (k + 1) (stA_len _ _ _), impl_PricesOf.l2, if_neg (by decide), e9]
theorem pr_l1 (r : Nat) (hr : (r : Int) ≤ n) (hc : ∀ p : List Int, (p.length : Int) = n → ∃ (v : List Int × Bool) (K : Nat), v.1.length ≤ 1500 ∧ ∀ k, K ≤ k → spec_PricesOf.l0 k f p ((r + 1 : Nat) : Int) n l = some v ∧ impl_PricesOf.l0 k f p ((r + 1 : Nat) : Int) n l = some v) :
  ∀ (d i : Nat) (p : List Int) (b : Bool), i + d = l.length → (p.length : Int) = n → ∃ (v : List Int × Bool) (K : Nat), v.1.length ≤ 1500 ∧ ∀ k, K ≤ k → spec_PricesOf.l1 k f p (r : Int) b (i : Int) n l = some v ∧ impl_PricesOf.l1 k f p (r : Int) b (l.length : Int) (i : Int) n l = some v
 | 0, i, p, b, hi, hp => by
  have hn := hN.1
  have e1 : ¬ (i : Int) < (f.length : Int) := by omega
  have e2 : ¬ (i : Int) < (l.length : Int) := by omega
  cases b with
  | true =>
   obtain ⟨v, K, hv, h⟩ := hc p hp
   refine ⟨v, K + 1, hv, fun k hk => ?_⟩
   obtain ⟨k, rfl⟩ : ∃ m, k = m + 1 := ⟨k - 1, by omega⟩
   rw [spec_PricesOf.l1, impl_PricesOf.l1, if_neg e1, if_neg e2, if_pos rfl, if_pos rfl, show wrap64 ((r : Int) + 1) = ((r + 1 : Nat) : Int) from w64 (by omega) (by omega)]
   exact h k (by omega)
  | false =>
   refine ⟨(p, true), 1, by show p.length ≤ 1500; omega, fun k hk => ?_⟩
   obtain ⟨k, rfl⟩ : ∃ m, k = m + 1 := ⟨k - 1, by omega⟩
   rw [spec_PricesOf.l1, impl_PricesOf.l1, if_neg e1, if_neg e2, if_neg (by decide), if_neg (by decide)]
   exact ⟨rfl, rfl⟩
 | d + 1, i, p, b, hi, hp => by
  have hil : i < l.length := by omega
  obtain ⟨v, K, hv, h⟩ := pr_l1 r hr hc d (i + 1) (stB l[i] (rd f (i : Int)) (stA l[i] (rd f (i : Int)) p)) (if cB l[i] (rd f (i : Int)) (stA l[i] (rd f (i : Int)) p) = true then true else if cA l[i] (rd f (i : Int)) p = true then true else b) (by omega) (by rw [stB_len, stA_len]; exact hp)
  refine ⟨v, K + 4, hv, fun k hk => ?_⟩
  obtain ⟨k, rfl⟩ : ∃ m, k = m + 4 := ⟨k - 4, by omega⟩
  obtain ⟨h1, h2⟩ := h k (by omega)
  obtain ⟨h3, _⟩ := h (k + 2) (by omega)
  exact ⟨(spec_arc n l f hN hf p hp (r : Int) b i hil (k + 2)).trans h3, (impl_arc n l f hN hf hFl p hp (r : Int) b i hil k).trans h2⟩
theorem pr_l0 : ∀ (d r : Nat) (p : List Int), (r : Int) + d = n + 1 → (p.length : Int) = n → ∃ (v : List Int × Bool) (K : Nat), v.1.length ≤ 1500 ∧ ∀ k, K ≤ k → spec_PricesOf.l0 k f p (r : Int) n l = some v ∧ impl_PricesOf.l0 k f p (r : Int) n l = some v
 | 0, r, p, hr, hp => by
  refine ⟨([], false), 1, by simp, fun k hk => ?_⟩
  obtain ⟨k, rfl⟩ : ∃ m, k = m + 1 := ⟨k - 1, by omega⟩
  rw [spec_PricesOf.l0, impl_PricesOf.l0, if_neg (by omega), if_neg (by omega)]
  exact ⟨rfl, rfl⟩
 | d + 1, r, p, hr, hp => by
  obtain ⟨v, K, hv, h⟩ := pr_l1 n l f hN hf hFl r (by omega) (fun p hp => pr_l0 d (r + 1) p (by omega) hp) l.length 0 p false (by omega) hp
  refine ⟨v, K + 1, hv, fun k hk => ?_⟩
  obtain ⟨k, rfl⟩ : ∃ m, k = m + 1 := ⟨k - 1, by omega⟩
  have h0 := h k (by omega)
  rw [show ((0 : Nat) : Int) = 0 from rfl] at h0
  rw [spec_PricesOf.l0, impl_PricesOf.l0, if_pos (by omega), if_pos (by omega)]
  exact h0
end
theorem pricesOf_ev (n : Int) (l : List AI) (f : List Int) (hl : l.length ≤ 1048576) : ∃ (v : List Int × Bool) (K : Nat), v.1.length ≤ 1500 ∧ ∀ k, K ≤ k → spec_PricesOf.f k n l f = some v ∧ impl_PricesOf.f k n l f = some v := by
 obtain ⟨b, K1, h1, hb⟩ := flow_ev n l f hl
 cases b with
 | false =>
  refine ⟨([], false), K1, by simp, fun k hk => ?_⟩
  unfold spec_PricesOf.f impl_PricesOf.f
  rw [(h1 k hk).1, (h1 k hk).2, Option.bind_some, Option.bind_some, if_neg (by decide), if_neg (by decide)]
  exact ⟨rfl, rfl⟩
 | true =>
  obtain ⟨hN, hf, hFl⟩ := hb rfl
  have hn := hN.1
  obtain ⟨D, hD⟩ : ∃ D : Nat, ((0 : Nat) : Int) + D = n + 1 := ⟨(n + 1).toNat, by omega⟩
  obtain ⟨v, K, hv, h⟩ := pr_l0 n l f hN hf hFl D 0 (List.replicate n.toNat 0) hD (by simp; omega)
  refine ⟨v, K1 + K, hv, fun k hk => ?_⟩
  have h0 := h k (by omega)
  rw [show ((0 : Nat) : Int) = 0 from rfl] at h0
  unfold spec_PricesOf.f impl_PricesOf.f
  rw [(h1 k (by omega)).1, (h1 k (by omega)).2, Option.bind_some, Option.bind_some, if_pos rfl, if_pos rfl, if_pos (by omega), if_pos (by omega), if_pos (by omega), if_pos (by omega)]
  exact h0
end Go.Proofs.Ytkdemainohfgfaa.Pure
/- Plain facts about the law's helpers over whole numbers: what marking and holding answer. -/
namespace Go.Proofs.Ytkdemainohfgfaa.Pure
open Go.RowKit Go.Proofs.Ytkdemainohfgfaa.Q Go.Proofs.YtkdemainohfgfaaW.PrintWords Go.Proofs.YtkdemainohfgfaaW.PrintLast

theorem markIntS_l0 : ∀ (d i k : Nat) (l : List Int) (m : Int), i + d = l.length → l.length ≤ 9223372036854775807 → 0 ≤ m → m + d ≤ 9223372036854775807 → d < k →
  laws_markIntS.l0 k l m (i : Int) = some (m + d, l.take i ++ iota m d)
 | 0, i, k, l, m, hi, hn, h0, hm, hk => by
  obtain ⟨k, rfl⟩ : ∃ m, k = m + 1 := ⟨k - 1, by omega⟩
  simp only [laws_markIntS.l0]
  rw [if_neg (by omega), List.take_of_length_le (by omega)]
  simp [iota]
 | d + 1, i, k, l, m, hi, hn, h0, hm, hk => by
  obtain ⟨k, rfl⟩ : ∃ m, k = m + 1 := ⟨k - 1, by omega⟩
  simp only [laws_markIntS.l0]
  rw [if_pos (by omega), if_pos (by omega), w64 (by omega) (by omega), w64 (by omega) (by omega), show ((i : Int) + 1) = ((i + 1 : Nat) : Int) by omega, Int.toNat_natCast,
   markIntS_l0 d (i + 1) k _ (m + 1) (by simp; omega) (by simpa using hn) (by omega) (by omega) (by omega)]
  have ht : (l.set i m).take (i + 1) = l.take i ++ [m] := by
   rw [List.take_succ_eq_append_getElem (by simp; omega)]
   simp [List.take_set_of_le]
  rw [ht, List.append_assoc]
  congr 1
  refine Prod.ext ?_ rfl
  show m + 1 + (d : Int) = m + ((d + 1 : Nat) : Int)
  omega
theorem markIntS_ev (l : List Int) (m : Int) (hn : l.length ≤ 9223372036854775807) (h0 : 0 ≤ m) (hm : m + l.length ≤ 9223372036854775807) : ∃ K, ∀ k, K ≤ k → laws_markIntS.f k l m = some (m + l.length, iota m l.length) := by
 refine ⟨l.length + 1, fun k hk => ?_⟩
 have := markIntS_l0 l.length 0 k l m (by omega) hn h0 hm (by omega)
 simpa [laws_markIntS.f] using this
theorem heldIntS_l0 (l : List Int) (hn : l.length ≤ 9223372036854775807) : ∀ (d i k : Nat) (q : Int), i + d = l.length → l.drop i = iota q d → 0 ≤ q → q + d ≤ 9223372036854775807 → d < k →
  laws_heldIntS.l0 k l q (i : Int) = some (q + d)
 | 0, i, k, q, hi, he, h0, hm, hk => by
  obtain ⟨k, rfl⟩ : ∃ m, k = m + 1 := ⟨k - 1, by omega⟩
  simp only [laws_heldIntS.l0]
  rw [if_neg (by omega)]
  simp
 | d + 1, i, k, q, hi, he, h0, hm, hk => by
  obtain ⟨k, rfl⟩ : ∃ m, k = m + 1 := ⟨k - 1, by omega⟩
  rw [drop_cons l i (by omega), iota] at he
  injection he with he1 he2
  simp only [laws_heldIntS.l0]
  rw [if_pos (by omega), if_pos (by omega), rd_get l i (by omega), if_pos he1, w64 (by omega) (by omega), w64 (by omega) (by omega), show ((i : Int) + 1) = ((i + 1 : Nat) : Int) by omega,
   heldIntS_l0 l hn d (i + 1) k (q + 1) (by omega) he2 (by omega) (by omega) (by omega)]
  congr 1
  omega
theorem heldIntS_ev (n : Nat) (q : Int) (hn : n ≤ 9223372036854775807) (h0 : 0 ≤ q) (hm : q + n ≤ 9223372036854775807) : ∃ K, ∀ k, K ≤ k → laws_heldIntS.f k (iota q n) q = some (q + n) := by
 refine ⟨n + 1, fun k hk => ?_⟩
 have := heldIntS_l0 (iota q n) (by rw [iota_length]; exact hn) n 0 k q (by rw [iota_length]; omega) rfl h0 hm (by omega)
 simpa [laws_heldIntS.f] using this
end Go.Proofs.Ytkdemainohfgfaa.Pure
