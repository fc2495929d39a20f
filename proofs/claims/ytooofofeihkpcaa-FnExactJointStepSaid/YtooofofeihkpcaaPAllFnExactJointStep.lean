/- The plain facts of this claim, in their order. -/
import Derived.Test.YtooofofeihkpcaaQ0
import Derived.Test.YtooofofeihkpcaaQ1
import Derived.Test.YtooofofeihkpcaaQ4
import Derived.Test.YtooofofeihkpcaaQ3
import Derived.Test.YtooofofeihkpcaaQ2
import Derived.Test.YtooofofeihkpcaaQ9
import Derived.Test.YtooofofeihkpcaaQ6
import Derived.Test.YtooofofeihkpcaaQ8
import Derived.Test.YtooofofeihkpcaaQ5
import Derived.Test.YtooofofeihkpcaaQ11
set_option linter.unusedSimpArgs false
set_option linter.unusedSectionVars false
/- Plain facts that all the proofs share. -/
namespace Go.Proofs.Ytooofofeihkpcaa.Pure
open Go.RowKit Go.Proofs.Ytooofofeihkpcaa.Q Go.Proofs.YtooofofeihkpcaaW.PrintWords Go.Proofs.YtooofofeihkpcaaW.PrintLast

theorem w64 {x : Int} (h0 : -9223372036854775808 ≤ x) (h1 : x ≤ 9223372036854775807) : wrap64 x = x := by unfold wrap64; omega
theorem rd_nat (l : List Int) (i : Nat) : rd l (i : Int) = l.getD i 0 := by simp [rd]
theorem rd_get (l : List Int) (i : Nat) (h : i < l.length) : rd l (i : Int) = l[i] := by simp [rd, h]
theorem drop_cons {α : Type} (l : List α) (i : Nat) (h : i < l.length) : l.drop i = l[i] :: l.drop (i + 1) := List.drop_eq_getElem_cons h
/-- The numbers m, m + 1, .. -/
def iota (m : Int) : Nat → List Int
 | 0 => []
 | d + 1 => m :: iota (m + 1) d
theorem iota_length : ∀ (m : Int) (d : Nat), (iota m d).length = d
 | _, 0 => rfl
 | m, d + 1 => by simp [iota, iota_length (m + 1) d]

end Go.Proofs.Ytooofofeihkpcaa.Pure
/- Plain facts about the law's helpers over whole numbers: what comparing answers. -/
namespace Go.Proofs.Ytooofofeihkpcaa.Pure
open Go.RowKit Go.Proofs.Ytooofofeihkpcaa.Q Go.Proofs.YtooofofeihkpcaaW.PrintWords Go.Proofs.YtooofofeihkpcaaW.PrintLast

theorem eqIntS_l0 (a b : List Int) (hl : a.length = b.length) (hn : a.length ≤ 9223372036854775807) : ∀ (d i k : Nat), i + d = a.length → d < k →
  laws_eqIntS.l0 k a b (i : Int) = some (decide (a.drop i = b.drop i))
 | 0, i, k, hi, hk => by
  obtain ⟨k, rfl⟩ : ∃ m, k = m + 1 := ⟨k - 1, by omega⟩
  simp only [laws_eqIntS.l0]
  rw [if_neg (by omega), List.drop_of_length_le (by omega), List.drop_of_length_le (by omega)]
  rfl
 | d + 1, i, k, hi, hk => by
  obtain ⟨k, rfl⟩ : ∃ m, k = m + 1 := ⟨k - 1, by omega⟩
  simp only [laws_eqIntS.l0]
  rw [if_pos (by omega), if_pos (by omega), if_pos (by omega), rd_get a i (by omega), rd_get b i (by omega), drop_cons a i (by omega), drop_cons b i (by omega), w64 (by omega) (by omega)]
  by_cases h : a[i]'(by omega) = b[i]'(by omega)
  ·rw [if_pos h, show ((i : Int) + 1) = ((i + 1 : Nat) : Int) by omega, eqIntS_l0 a b hl hn d (i + 1) k (by omega) (by omega)]
   simp only [h, List.cons.injEq, true_and]
  ·rw [if_neg h]
   simp only [List.cons.injEq, h, false_and, decide_false]
theorem eqIntS_ev (a b : List Int) (hn : a.length ≤ 9223372036854775807) : ∃ K, ∀ k, K ≤ k → laws_eqIntS.f k a b = some (decide (a = b)) := by
 refine ⟨a.length + 1, fun k hk => ?_⟩
 show laws_eqIntS.f k a b = some (decide (a = b))
 unfold laws_eqIntS.f
 by_cases h : a.length = b.length
 ·rw [if_pos (by omega)]
  have := eqIntS_l0 a b h hn a.length 0 k (by omega) (by omega)
  simpa using this
 ·rw [if_neg (by omega), decide_eq_false (fun e => h (by rw [e]))]
end Go.Proofs.Ytooofofeihkpcaa.Pure
/- Plain facts about the law's helpers over whole numbers: what copying answers. -/
namespace Go.Proofs.Ytooofofeihkpcaa.Pure
open Go.RowKit Go.Proofs.Ytooofofeihkpcaa.Q Go.Proofs.YtooofofeihkpcaaW.PrintWords Go.Proofs.YtooofofeihkpcaaW.PrintLast

theorem toIntS_l0 (l : List Int) (hn : l.length ≤ 9223372036854775807) : ∀ (d i k : Nat) (out : List Int), out.length = l.length → i + d = l.length → (∀ j, j < i → out[j]? = l[j]?) → d < k →
  laws_toIntS.l0 k l out (i : Int) = some l
 | 0, i, k, out, ho, hi, hj, hk => by
  obtain ⟨k, rfl⟩ : ∃ m, k = m + 1 := ⟨k - 1, by omega⟩
  simp only [laws_toIntS.l0]
  rw [if_neg (by omega)]
  congr 1
  apply List.ext_getElem?
  intro j
  rcases Nat.lt_or_ge j l.length with h | h
  ·exact hj j (by omega)
  ·rw [List.getElem?_eq_none (by omega), List.getElem?_eq_none h]
 | d + 1, i, k, out, ho, hi, hj, hk => by
  obtain ⟨k, rfl⟩ : ∃ m, k = m + 1 := ⟨k - 1, by omega⟩
  simp only [laws_toIntS.l0]
  rw [if_pos (by omega), if_pos (by omega), if_pos (by omega), w64 (by omega) (by omega), show ((i : Int) + 1) = ((i + 1 : Nat) : Int) by omega]
  refine toIntS_l0 l hn d (i + 1) k _ (by simpa using ho) (by omega) (fun j hji => ?_) (by omega)
  rw [Int.toNat_natCast, rd_get l i (by omega), List.getElem?_set]
  by_cases e : i = j
  ·subst e
   rw [if_pos rfl, if_pos (by omega), List.getElem?_eq_getElem (by omega)]
  ·rw [if_neg e]
   exact hj j (by omega)
theorem toIntS_ev (l : List Int) (hn : l.length ≤ 35184372088832) : ∃ K, ∀ k, K ≤ k → laws_toIntS.f k l = some l := by
 refine ⟨l.length + 1, fun k hk => ?_⟩
 show laws_toIntS.f k l = some l
 unfold laws_toIntS.f
 rw [if_pos (by omega), if_pos (by omega)]
 exact toIntS_l0 l (by omega) l.length 0 k _ (by simp) (by omega) (fun j hj => absurd hj (Nat.not_lt_zero _)) (by omega)
end Go.Proofs.Ytooofofeihkpcaa.Pure
/- A number between two others. -/
namespace Go.Proofs.Ytooofofeihkpcaa.Pure
open Go.RowKit Go.Proofs.Ytooofofeihkpcaa.Q Go.Proofs.YtooofofeihkpcaaW.PrintWords Go.Proofs.YtooofofeihkpcaaW.PrintLast
theorem l01In_eq (a b c : Int) : spec_l01In.f a b c = some (decide (b ≤ a ∧ a ≤ c)) := by
 unfold spec_l01In.f
 by_cases h : a ≥ b
 ·rw [if_pos h]; congr 1; exact decide_eq_decide.mpr ⟨fun h2 => ⟨h, h2⟩, fun h2 => h2.2⟩
 ·rw [if_neg h, decide_eq_false (fun h2 => h h2.1)]
end Go.Proofs.Ytooofofeihkpcaa.Pure
/- Grids and their free cells: what the program and the reference answer. -/
namespace Go.Proofs.Ytooofofeihkpcaa.Pure
open Go.RowKit Go.Proofs.Ytooofofeihkpcaa.Q Go.Proofs.YtooofofeihkpcaaW.PrintWords Go.Proofs.YtooofofeihkpcaaW.PrintLast
/-- What may stand in a grid. -/
def Kind (c : Int) : Prop := c = 46 ∨ c = 35 ∨ (97 ≤ c ∧ c ≤ 102) ∨ (65 ≤ c ∧ c ≤ 70)
theorem kind_eq (c : Int) : ∃ b, spec_l02Kind.f c = some b ∧ (b = true ↔ Kind c) := by
 unfold spec_l02Kind.f Kind
 by_cases h1 : c = 46
 ·exact ⟨true, by rw [if_pos h1], by simp [h1]⟩
 ·by_cases h2 : c = 35
  ·exact ⟨true, by rw [if_neg h1, if_pos h2], by simp [h2]⟩
  ·by_cases h3 : c ≥ 97
   ·by_cases h4 : c ≤ 102
    ·exact ⟨true, by rw [if_neg h1, if_neg h2, if_pos h3, if_pos h4], ⟨fun _ => by omega, fun _ => rfl⟩⟩
    ·refine ⟨decide (c ≤ 70), by rw [if_neg h1, if_neg h2, if_pos h3, if_neg h4, if_pos (by omega)], ⟨fun h => (by have := of_decide_eq_true h; omega), fun h => decide_eq_true (by omega)⟩⟩
   ·by_cases h5 : c ≥ 65
    ·exact ⟨decide (c ≤ 70), by rw [if_neg h1, if_neg h2, if_neg h3, if_pos h5], ⟨fun h => (by have := of_decide_eq_true h; omega), fun h => decide_eq_true (by omega)⟩⟩
    ·exact ⟨false, by rw [if_neg h1, if_neg h2, if_neg h3, if_neg h5], ⟨fun h => (by cases h), fun h => (by omega)⟩⟩
/-- A grid that is one. -/
def Gok (a b : Int) (s : ByteArray) : Prop := 1 ≤ a ∧ a ≤ 8 ∧ 1 ≤ b ∧ b ≤ 8 ∧ (s.size : Int) = a * b ∧ ∀ i : Nat, i < s.size → Kind (bt s (i : Int))
theorem Gok_size {a b : Int} {s : ByteArray} (h : Gok a b s) : s.size ≤ 64 := by
 obtain ⟨h1, h2, h3, h4, h5, _⟩ := h
 have : a * b ≤ 8 * 8 := Int.mul_le_mul h2 h4 (by omega) (by omega)
 omega
theorem implKind_eq (c : Int) (b : Bool) (hb : b = true ↔ Kind c) (X : Option Bool) : (if c = 46 then X else (if c = 35 then X else (if c < 97 then (if c < 65 then (some false) else (if c > 70 then (some false) else X)) else (if c > 102 then (if c < 65 then (some false) else (if c > 70 then (some false) else X)) else X)))) = (if b = true then X else some false) := by
 unfold Kind at hb
 cases b with
 | true =>
  have h := hb.mp rfl
  rw [if_pos rfl]
  repeat' split
  all_goals first | rfl | (exfalso; omega)
 | false =>
  have h : ¬ (c = 46 ∨ c = 35 ∨ (97 ≤ c ∧ c ≤ 102) ∨ (65 ≤ c ∧ c ≤ 70)) := fun h => absurd (hb.mpr h) Bool.false_ne_true
  rw [if_neg Bool.false_ne_true]
  repeat' split
  all_goals first | rfl | (exfalso; omega)
theorem gridOk_l0 (a b : Int) (s : ByteArray) (hs : s.size ≤ 1048576) : ∀ (d i : Nat), i + d = s.size → ∃ g K, (∀ k, K ≤ k → spec_GridOk.l0 k (i : Int) a b s = some g ∧ impl_GridOk.l0 k (i : Int) a b s = some g) ∧ (g = true ↔ ∀ j : Nat, i ≤ j → j < s.size → Kind (bt s (j : Int)))
 | 0, i, hi => by
  refine ⟨true, 1, fun k hk => ?_, ⟨fun _ j h1 h2 => by omega, fun _ => rfl⟩⟩
  obtain ⟨k, rfl⟩ : ∃ m, k = m + 1 := ⟨k - 1, by omega⟩
  have e1 : ¬ (i : Int) < (s.size : Int) := by omega
  simp only [spec_GridOk.l0, impl_GridOk.l0, e1, reduceIte, and_self]
 | d + 1, i, hi => by
  obtain ⟨g, K, h, hg⟩ := gridOk_l0 a b s hs d (i + 1) (by omega)
  have e1 : (i : Int) < (s.size : Int) := by omega
  have e2 : (0 : Int) ≤ i := by omega
  have e9 : wrap64 ((i : Int) + 1) = ((i + 1 : Nat) : Int) := by rw [w64 (by omega) (by omega)]; rfl
  obtain ⟨q, hq, hqk⟩ := kind_eq (bt s (i : Int))
  have hstep : (∀ j : Nat, i ≤ j → j < s.size → Kind (bt s (j : Int))) ↔ Kind (bt s (i : Int)) ∧ ∀ j : Nat, i + 1 ≤ j → j < s.size → Kind (bt s (j : Int)) := by
   constructor
   ·exact fun h => ⟨h i (Nat.le_refl _) (by omega), fun j h1 h2 => h j (by omega) h2⟩
   ·rintro ⟨h0, h⟩ j h1 h2
    rcases Nat.eq_or_lt_of_le h1 with e | e
    ·subst e; exact h0
    ·exact h j e h2
  rw [hstep]
  cases q with
  | true =>
   refine ⟨g, K + 1, fun k hk => ?_, by rw [hg]; exact ⟨fun h => ⟨hqk.mp rfl, h⟩, fun h => h.2⟩⟩
   obtain ⟨k, rfl⟩ : ∃ m, k = m + 1 := ⟨k - 1, by omega⟩
   obtain ⟨q1, q2⟩ := h k (by omega)
   simp only [spec_GridOk.l0, impl_GridOk.l0]
   rw [if_pos e1, if_pos e2, if_pos e1, if_pos e2, hq, e9, implKind_eq _ true hqk]
   simp only [Option.bind_some, reduceIte]
   exact ⟨q1, q2⟩
  | false =>
   refine ⟨false, 1, fun k hk => ?_, ⟨fun h => (by cases h), fun h => absurd (hqk.mpr h.1) (by decide)⟩⟩
   obtain ⟨k, rfl⟩ : ∃ m, k = m + 1 := ⟨k - 1, by omega⟩
   simp only [spec_GridOk.l0, impl_GridOk.l0]
   rw [if_pos e1, if_pos e2, if_pos e1, if_pos e2, hq, e9, implKind_eq _ false hqk]
   simp only [Option.bind_some, Bool.false_eq_true, reduceIte, and_self]
theorem gridOk_ev (a b : Int) (s : ByteArray) (hs : s.size ≤ 1048576) : ∃ g K, (∀ k, K ≤ k → spec_GridOk.f k a b s = some g ∧ impl_GridOk.f k a b s = some g) ∧ (g = true ↔ Gok a b s) := by
 obtain ⟨g, K, h, hg⟩ := gridOk_l0 a b s hs s.size 0 (by omega)
 by_cases ha : 1 ≤ a ∧ a ≤ 8
 ·by_cases hb : 1 ≤ b ∧ b ≤ 8
  ·have hm : wrap64 (a * b) = a * b := by
    have h1 : a * b ≤ 8 * 8 := Int.mul_le_mul ha.2 hb.2 (by omega) (by omega)
    have h2 : 0 ≤ a * b := Int.mul_nonneg (by omega) (by omega)
    exact w64 (by omega) (by omega)
   have a1 : ¬ a < 1 := by omega
   have a2 : ¬ a > 8 := by omega
   have b1 : ¬ b < 1 := by omega
   have b2 : ¬ b > 8 := by omega
   by_cases hsz : (s.size : Int) = a * b
   ·have e : ((s.size : Int) != wrap64 (a * b)) = false := by rw [hm]; simp [hsz]
    refine ⟨g, K + 1, fun k hk => ?_, ?_⟩
    ·obtain ⟨k, rfl⟩ : ∃ m, k = m + 1 := ⟨k - 1, by omega⟩
     unfold spec_GridOk.f impl_GridOk.f
     simp only [l01In_eq, ha, hb, a1, a2, b1, b2, e, and_self, decide_true, Option.bind_some, reduceIte]
     simp only [spec_GridOk.j0, impl_GridOk.j0, Bool.false_eq_true, reduceIte]
     exact h k (by omega)
    ·rw [hg]
     exact ⟨fun h => ⟨ha.1, ha.2, hb.1, hb.2, hsz, fun i hi => h i (Nat.zero_le _) hi⟩, fun h j _ hj => h.2.2.2.2.2 j hj⟩
   ·have e : ((s.size : Int) != wrap64 (a * b)) = true := by rw [hm]; simp [hsz]
    refine ⟨false, 1, fun k hk => ?_, ⟨fun h => (by cases h), fun h => absurd h.2.2.2.2.1 hsz⟩⟩
    obtain ⟨k, rfl⟩ : ∃ m, k = m + 1 := ⟨k - 1, by omega⟩
    unfold spec_GridOk.f impl_GridOk.f
    simp only [l01In_eq, ha, hb, a1, a2, b1, b2, e, and_self, decide_true, Option.bind_some, reduceIte]
    simp only [spec_GridOk.j0, impl_GridOk.j0, reduceIte, and_self]
  ·refine ⟨false, 1, fun k hk => ?_, ⟨fun h => (by cases h), fun h => absurd ⟨h.2.2.1, h.2.2.2.1⟩ hb⟩⟩
   obtain ⟨k, rfl⟩ : ∃ m, k = m + 1 := ⟨k - 1, by omega⟩
   have a1 : ¬ a < 1 := by omega
   have a2 : ¬ a > 8 := by omega
   unfold spec_GridOk.f impl_GridOk.f
   simp only [l01In_eq, ha, hb, a1, a2, and_self, decide_true, decide_false, Option.bind_some, Bool.false_eq_true, reduceIte]
   by_cases b1 : b < 1
   ·simp only [b1, spec_GridOk.j0, impl_GridOk.j0, reduceIte, and_self]
   ·have b2 : b > 8 := by omega
    simp only [b1, b2, spec_GridOk.j0, impl_GridOk.j0, reduceIte, and_self]
 ·refine ⟨false, 1, fun k hk => ?_, ⟨fun h => (by cases h), fun h => absurd ⟨h.1, h.2.1⟩ ha⟩⟩
  obtain ⟨k, rfl⟩ : ∃ m, k = m + 1 := ⟨k - 1, by omega⟩
  unfold spec_GridOk.f impl_GridOk.f
  simp only [l01In_eq, ha, decide_false, Option.bind_some, Bool.false_eq_true, reduceIte]
  by_cases a1 : a < 1
  ·simp only [a1, spec_GridOk.j0, impl_GridOk.j0, reduceIte, and_self]
  ·have a2 : a > 8 := by omega
   simp only [a1, a2, spec_GridOk.j0, impl_GridOk.j0, reduceIte, and_self]
/-- A cell that is free. -/
def Fr (s : ByteArray) (c : Int) : Prop := 0 ≤ c ∧ c < (s.size : Int) ∧ bt s c ≠ 35
instance (s : ByteArray) (c : Int) : Decidable (Fr s c) := by unfold Fr; exact inferInstance
theorem fr_nest (s : ByteArray) (c : Int) : (if c ≥ 0 then (if c < (s.size : Int) then (if 0 ≤ c then (some ((bt s c) != 35)) else (none)) else (some false)) else (some false)) = some (decide (Fr s c)) := by
 by_cases h1 : c ≥ 0
 ·by_cases h2 : c < (s.size : Int)
  ·rw [if_pos h1, if_pos h2, if_pos h1]
   by_cases h3 : bt s c = 35
   ·rw [decide_eq_false (fun h : Fr s c => h.2.2 h3), h3]; rfl
   ·rw [decide_eq_true (show Fr s c from ⟨h1, h2, h3⟩)]
    congr 1
    simpa using h3
  ·rw [if_pos h1, if_neg h2, decide_eq_false (fun h : Fr s c => h2 h.2.1)]
 ·rw [if_neg h1, decide_eq_false (fun h : Fr s c => h1 h.1)]
theorem isFree_eq (a b : Int) (s : ByteArray) (c : Int) : impl_isFree.f a b s c = some (decide (Fr s c)) := fr_nest s c
theorem specFreeAt_ev (a b : Int) (s : ByteArray) (hs : s.size ≤ 1048576) (c : Int) : ∃ g K, (∀ k, K ≤ k → spec_FreeAt.f k a b s c = some g) ∧ (g = true ↔ Gok a b s ∧ Fr s c) := by
 obtain ⟨g, K, h, hg⟩ := gridOk_ev a b s hs
 cases g with
 | false =>
  refine ⟨false, K, fun k hk => ?_, ⟨fun h => (by cases h), fun h2 => absurd (hg.mpr h2.1) (by decide)⟩⟩
  unfold spec_FreeAt.f
  rw [(h k hk).1]
  rfl
 | true =>
  refine ⟨decide (Fr s c), K, fun k hk => ?_, ⟨fun h => ⟨hg.mp rfl, of_decide_eq_true h⟩, fun h => decide_eq_true h.2⟩⟩
  unfold spec_FreeAt.f
  rw [(h k hk).1]
  simp only [Option.bind_some, reduceIte, isFree_eq]
  exact fr_nest s c
/-- The free ones of the next d cells. -/
def fr (s : ByteArray) : Nat → Nat → List Int
 | 0, _ => []
 | d + 1, i => if Fr s (i : Int) then (i : Int) :: fr s d (i + 1) else fr s d (i + 1)
theorem fr_len (s : ByteArray) : ∀ d i, (fr s d i).length ≤ d
 | 0, _ => Nat.le_refl _
 | d + 1, i => by
  unfold fr
  have := fr_len s d (i + 1)
  split <;> simp <;> omega
theorem fr_mem (s : ByteArray) (c : Int) : ∀ d i, c ∈ fr s d i ↔ (i : Int) ≤ c ∧ c < (i : Int) + d ∧ Fr s c
 | 0, i => by simp [fr]; omega
 | d + 1, i => by
  unfold fr
  by_cases h : Fr s (i : Int)
  ·rw [if_pos h, List.mem_cons, fr_mem s c d (i + 1)]
   constructor
   ·rintro (e | ⟨h1, h2, h3⟩)
    ·subst e; exact ⟨Int.le_refl _, by omega, h⟩
    ·exact ⟨by omega, by omega, h3⟩
   ·rintro ⟨h1, h2, h3⟩
    by_cases e : c = (i : Int)
    ·exact .inl e
    ·exact .inr ⟨by omega, by omega, h3⟩
  ·rw [if_neg h, fr_mem s c d (i + 1)]
   constructor
   ·rintro ⟨h1, h2, h3⟩; exact ⟨by omega, by omega, h3⟩
   ·rintro ⟨h1, h2, h3⟩
    by_cases e : c = (i : Int)
    ·subst e; exact absurd h3 h
    ·exact ⟨by omega, by omega, h3⟩
open Classical in
/-- The free cells of a grid. -/
noncomputable def frees (a b : Int) (s : ByteArray) : List Int := if Gok a b s then fr s s.size 0 else []
theorem frees_len (a b : Int) (s : ByteArray) : (frees a b s).length ≤ 64 := by
 unfold frees
 split
 ·rename_i h
  have := fr_len s s.size 0
  have := Gok_size h
  omega
 ·simp
theorem frees_mem (a b : Int) (s : ByteArray) (c : Int) : c ∈ frees a b s ↔ Gok a b s ∧ Fr s c := by
 unfold frees
 split
 ·rename_i h
  rw [fr_mem]
  exact ⟨fun h2 => ⟨h, h2.2.2⟩, fun h2 => ⟨by have := h2.2.1; omega, by have := h2.2.2.1; omega, h2.2⟩⟩
 ·rename_i h
  simp [h]
theorem implFree_go (a b : Int) (s : ByteArray) (hg : Gok a b s) : ∀ (d i : Nat) (acc : List Int), i + d = s.size → acc.length ≤ i → impl_FreeCells.go a b s d i acc = some (acc ++ fr s d i)
 | 0, i, acc, hi, ha => by simp [impl_FreeCells.go, fr]
 | d + 1, i, acc, hi, ha => by
  have hsz := Gok_size hg
  have hk := hg.2.2.2.2.2 i (by omega)
  have hb : bt s (i : Int) = ((s[i]'(by omega)).toNat : Int) := by
   unfold bt
   rw [dif_pos (by rw [Int.toNat_natCast]; omega)]
   simp
  have hlt : (s[i]'(by omega)).toNat < 128 := by
   unfold Kind at hk
   rw [hb] at hk
   omega
  unfold impl_FreeCells.go fr
  rw [dif_pos (by omega), if_pos hlt, isFree_eq, Option.bind_some]
  by_cases c : Fr s (i : Int)
  ·rw [decide_eq_true c, if_pos rfl, if_pos (by omega), if_pos c, implFree_go a b s hg d (i + 1) _ (by omega) (by simp; omega)]
   simp
  ·rw [decide_eq_false c, if_neg (by decide), if_neg c, implFree_go a b s hg d (i + 1) _ (by omega) (by omega)]
theorem implFree_ev (a b : Int) (s : ByteArray) (hs : s.size ≤ 1048576) : ∃ K, ∀ k, K ≤ k → impl_FreeCells.f k a b s = some (frees a b s) := by
 obtain ⟨g, K, h, hg⟩ := gridOk_ev a b s hs
 refine ⟨K, fun k hk => ?_⟩
 unfold impl_FreeCells.f frees
 rw [(h k hk).2, Option.bind_some]
 cases g with
 | true =>
  have hG := hg.mp rfl
  rw [if_pos rfl, if_pos hG, implFree_go a b s hG s.size 0 [] (by omega) (by simp)]
  simp
 | false =>
  rw [if_neg (by decide), if_neg (fun h => absurd (hg.mpr h) (by decide))]
theorem specFree_l0 (a b : Int) (s : ByteArray) (hs : s.size ≤ 1048576) : ∀ (d i : Nat) (acc : List Int), i + d = min s.size 64 → acc.length ≤ i → ∃ v K, (∀ k, K ≤ k → spec_FreeCells.l0 k acc (i : Int) a b s = some v) ∧ (Gok a b s → v = acc ++ fr s d i) ∧ (¬ Gok a b s → v = acc)
 | 0, i, acc, hi, ha => by
  refine ⟨acc, 2, fun k hk => ?_, by simp [fr], fun _ => rfl⟩
  obtain ⟨k, rfl⟩ : ∃ m, k = m + 2 := ⟨k - 2, by omega⟩
  simp only [spec_FreeCells.l0]
  by_cases c : (i : Int) < (s.size : Int)
  ·rw [if_pos c, decide_eq_false (by omega)]
   simp only [spec_FreeCells.j1, Bool.false_eq_true, reduceIte]
  ·rw [if_neg c]
   simp only [spec_FreeCells.j1, Bool.false_eq_true, reduceIte]
 | d + 1, i, acc, hi, ha => by
  obtain ⟨g, K1, h1, hg⟩ := specFreeAt_ev a b s hs (i : Int)
  have e1 : (i : Int) < (s.size : Int) := by omega
  have e2 : decide ((i : Int) < 64) = true := decide_eq_true (by omega)
  have e9 : wrap64 ((i : Int) + 1) = ((i + 1 : Nat) : Int) := by rw [w64 (by omega) (by omega)]; rfl
  cases g with
  | true =>
   obtain ⟨v, K, h, hv, hw⟩ := specFree_l0 a b s hs d (i + 1) (acc ++ [(i : Int)]) (by omega) (by simp; omega)
   refine ⟨v, K + K1 + 2, fun k hk => ?_, fun hG => ?_, fun hG => absurd (hg.mp rfl).1 hG⟩
   ·obtain ⟨k, rfl⟩ : ∃ m, k = m + 2 := ⟨k - 2, by omega⟩
    simp only [spec_FreeCells.l0]
    rw [if_pos e1, e2]
    simp only [spec_FreeCells.j1, reduceIte]
    rw [h1 k (by omega), Option.bind_some, if_pos rfl, if_pos (by omega), e9]
    exact h k (by omega)
   ·rw [hv hG, fr, if_pos (hg.mp rfl).2]; simp
  | false =>
   obtain ⟨v, K, h, hv, hw⟩ := specFree_l0 a b s hs d (i + 1) acc (by omega) (by omega)
   refine ⟨v, K + K1 + 2, fun k hk => ?_, fun hG => ?_, hw⟩
   ·obtain ⟨k, rfl⟩ : ∃ m, k = m + 2 := ⟨k - 2, by omega⟩
    simp only [spec_FreeCells.l0]
    rw [if_pos e1, e2]
    simp only [spec_FreeCells.j1, reduceIte]
    rw [h1 k (by omega), Option.bind_some, if_neg (by decide), e9]
    exact h k (by omega)
   ·rw [hv hG, fr, if_neg (fun h => absurd (hg.mpr ⟨hG, h⟩) (by decide))]
theorem specFree_ev (a b : Int) (s : ByteArray) (hs : s.size ≤ 1048576) : ∃ K, ∀ k, K ≤ k → spec_FreeCells.f k a b s = some (frees a b s) := by
 obtain ⟨v, K, h, hv, hw⟩ := specFree_l0 a b s hs (min s.size 64) 0 [] (by omega) (by simp)
 refine ⟨K, fun k hk => ?_⟩
 unfold spec_FreeCells.f frees
 have := h k hk
 by_cases hG : Gok a b s
 ·rw [if_pos hG]
  have hsz := Gok_size hG
  rw [hv hG, show min s.size 64 = s.size by omega] at this
  simpa using this
 ·rw [if_neg hG]
  rw [hw hG] at this
  exact this
end Go.Proofs.Ytooofofeihkpcaa.Pure
/- Starts and goals: what the program and the reference ask of them. -/
namespace Go.Proofs.Ytooofofeihkpcaa.Pure
open Go.RowKit Go.Proofs.Ytooofofeihkpcaa.Q Go.Proofs.YtooofofeihkpcaaW.PrintWords Go.Proofs.YtooofofeihkpcaaW.PrintLast
/-- From place i on the list goes up. -/
def AscFrom (l : List Int) (i : Nat) : Prop := ∀ j : Nat, i ≤ j → j < l.length → 0 < j → rd l ((j : Int) - 1) < rd l (j : Int)
def FrFrom (s : ByteArray) (l : List Int) (i : Nat) : Prop := ∀ j : Nat, i ≤ j → j < l.length → Fr s (rd l (j : Int))
theorem AscFrom_step (l : List Int) (i : Nat) (hi : i < l.length) : AscFrom l i ↔ (0 < i → rd l ((i : Int) - 1) < rd l (i : Int)) ∧ AscFrom l (i + 1) := by
 constructor
 ·exact fun h => ⟨h i (Nat.le_refl _) hi, fun j h1 => h j (by omega)⟩
 ·rintro ⟨h0, h⟩ j h1 h2 h3
  rcases Nat.eq_or_lt_of_le h1 with e | e
  ·subst e; exact h0 h3
  ·exact h j e h2 h3
theorem FrFrom_step (s : ByteArray) (l : List Int) (i : Nat) (hi : i < l.length) : FrFrom s l i ↔ Fr s (rd l (i : Int)) ∧ FrFrom s l (i + 1) := by
 constructor
 ·exact fun h => ⟨h i (Nat.le_refl _) hi, fun j h1 => h j (by omega)⟩
 ·rintro ⟨h0, h⟩ j h1 h2
  rcases Nat.eq_or_lt_of_le h1 with e | e
  ·subst e; exact h0
  ·exact h j e h2
theorem specCells_l0 (a b : Int) (s : ByteArray) (hs : s.size ≤ 1048576) (hG : Gok a b s) (l : List Int) (hl : l.length ≤ 1048576) : ∀ (d i : Nat), i + d = l.length → ∃ g K, (∀ k, K ≤ k → spec_l10Cells.l0 k l (i : Int) a b s = some g) ∧ (g = true ↔ FrFrom s l i ∧ AscFrom l i)
 | 0, i, hi => by
  refine ⟨true, 1, fun k hk => ?_, ⟨fun _ => ⟨fun j h1 h2 => by omega, fun j h1 h2 => by omega⟩, fun _ => rfl⟩⟩
  obtain ⟨k, rfl⟩ : ∃ m, k = m + 1 := ⟨k - 1, by omega⟩
  simp only [spec_l10Cells.l0]
  rw [if_neg (by omega)]
 | d + 1, i, hi => by
  obtain ⟨g, K, h, hg⟩ := specCells_l0 a b s hs hG l hl d (i + 1) (by omega)
  obtain ⟨q, K1, h1, hq⟩ := specFreeAt_ev a b s hs (rd l (i : Int))
  rw [FrFrom_step s l i (by omega), AscFrom_step l i (by omega)]
  have e9 : wrap64 ((i : Int) + 1) = ((i + 1 : Nat) : Int) := by rw [w64 (by omega) (by omega)]; rfl
  have e8 : wrap64 ((i : Int) - 1) = (i : Int) - 1 := w64 (by omega) (by omega)
  cases q with
  | false =>
   refine ⟨false, K1 + 1, fun k hk => ?_, ⟨fun h => (by cases h), fun h => absurd (hq.mpr ⟨hG, h.1.1⟩) (by decide)⟩⟩
   obtain ⟨k, rfl⟩ : ∃ m, k = m + 1 := ⟨k - 1, by omega⟩
   simp only [spec_l10Cells.l0]
   rw [if_pos (by omega), if_pos (by omega), h1 k (by omega), Option.bind_some, if_neg (by decide)]
  | true =>
   have hfr := (hq.mp rfl).2
   by_cases c : 0 < i
   ·by_cases c2 : rd l ((i : Int) - 1) ≥ rd l (i : Int)
    ·refine ⟨false, K1 + 1, fun k hk => ?_, ⟨fun h => (by cases h), fun h => absurd (h.2.1 c) (by omega)⟩⟩
     obtain ⟨k, rfl⟩ : ∃ m, k = m + 1 := ⟨k - 1, by omega⟩
     simp only [spec_l10Cells.l0]
     rw [if_pos (by omega), if_pos (by omega), h1 k (by omega), Option.bind_some, if_pos rfl, if_pos (by omega), e8, if_pos (by omega), if_pos (by omega), if_pos c2]
    ·refine ⟨g, K1 + K + 1, fun k hk => ?_, by rw [hg]; exact ⟨fun h => ⟨⟨hfr, h.1⟩, ⟨fun _ => by omega, h.2⟩⟩, fun h => ⟨h.1.2, h.2.2⟩⟩⟩
     obtain ⟨k, rfl⟩ : ∃ m, k = m + 1 := ⟨k - 1, by omega⟩
     simp only [spec_l10Cells.l0]
     rw [if_pos (by omega), if_pos (by omega), h1 k (by omega), Option.bind_some, if_pos rfl, if_pos (by omega), e8, if_pos (by omega), if_pos (by omega), if_neg c2, e9]
     exact h k (by omega)
   ·refine ⟨g, K1 + K + 1, fun k hk => ?_, by rw [hg]; exact ⟨fun h => ⟨⟨hfr, h.1⟩, ⟨fun h2 => absurd h2 c, h.2⟩⟩, fun h => ⟨h.1.2, h.2.2⟩⟩⟩
    obtain ⟨k, rfl⟩ : ∃ m, k = m + 1 := ⟨k - 1, by omega⟩
    simp only [spec_l10Cells.l0]
    rw [if_pos (by omega), if_pos (by omega), h1 k (by omega), Option.bind_some, if_pos rfl, if_neg (by omega), e9]
    exact h k (by omega)
theorem implAsc_l0 (l : List Int) (hl : l.length ≤ 1048576) : ∀ (d i : Nat), 1 ≤ i → (i + d = l.length ∨ (d = 0 ∧ l.length ≤ i)) → ∃ g K, (∀ k, K ≤ k → impl_isAscending.l0 k l (i : Int) = some g) ∧ (g = true ↔ AscFrom l i)
 | 0, i, h1, hi => by
  refine ⟨true, 1, fun k hk => ?_, ⟨fun _ j h1 h2 => by omega, fun _ => rfl⟩⟩
  obtain ⟨k, rfl⟩ : ∃ m, k = m + 1 := ⟨k - 1, by omega⟩
  simp only [impl_isAscending.l0]
  rw [if_neg (by omega)]
 | d + 1, i, h1, hi => by
  obtain ⟨g, K, h, hg⟩ := implAsc_l0 l hl d (i + 1) (by omega) (by omega)
  rw [AscFrom_step l i (by omega)]
  have e9 : wrap64 ((i : Int) + 1) = ((i + 1 : Nat) : Int) := by rw [w64 (by omega) (by omega)]; rfl
  have e8 : wrap64 ((i : Int) - 1) = (i : Int) - 1 := w64 (by omega) (by omega)
  by_cases c2 : rd l ((i : Int) - 1) ≥ rd l (i : Int)
  ·refine ⟨false, 1, fun k hk => ?_, ⟨fun h => (by cases h), fun h => absurd (h.1 (by omega)) (by omega)⟩⟩
   obtain ⟨k, rfl⟩ : ∃ m, k = m + 1 := ⟨k - 1, by omega⟩
   simp only [impl_isAscending.l0]
   rw [if_pos (by omega), e8, if_pos (by omega), if_pos (by omega), if_pos (by omega), if_pos c2]
  ·refine ⟨g, K + 1, fun k hk => ?_, by rw [hg]; exact ⟨fun h => ⟨fun _ => by omega, h⟩, fun h => h.2⟩⟩
   obtain ⟨k, rfl⟩ : ∃ m, k = m + 1 := ⟨k - 1, by omega⟩
   simp only [impl_isAscending.l0]
   rw [if_pos (by omega), e8, if_pos (by omega), if_pos (by omega), if_pos (by omega), if_neg c2, e9]
   exact h k (by omega)
theorem AscFrom_one (l : List Int) : AscFrom l 1 ↔ AscFrom l 0 := ⟨fun h j _ h2 h3 => h j (by omega) h2 h3, fun h j _ h2 h3 => h j (by omega) h2 h3⟩
theorem implAsc_ev (l : List Int) (hl : l.length ≤ 1048576) : ∃ g K, (∀ k, K ≤ k → impl_isAscending.f k l = some g) ∧ (g = true ↔ AscFrom l 0) := by
 obtain ⟨D, hD⟩ : ∃ D, 1 + D = l.length ∨ (D = 0 ∧ l.length ≤ 1) := ⟨l.length - 1, by omega⟩
 obtain ⟨g, K, h, hg⟩ := implAsc_l0 l hl D 1 (by omega) hD
 exact ⟨g, K, fun k hk => h k hk, by rw [hg, AscFrom_one]⟩
theorem FrFrom_all (s : ByteArray) (l : List Int) : FrFrom s l 0 ↔ ∀ x ∈ l, Fr s x := by
 constructor
 ·intro h x hx
  obtain ⟨i, hi, e⟩ := List.getElem_of_mem hx
  have := h i (Nat.zero_le _) hi
  rwa [rd_get l i hi, e] at this
 ·intro h j _ hj
  rw [rd_get l j hj]
  exact h _ (List.getElem_mem _)
theorem areFree_ev (a b : Int) (s : ByteArray) (hs : s.size ≤ 1048576) (l : List Int) : ∃ g K, (∀ k, K ≤ k → impl_areFree.f k a b s l = some g) ∧ (g = true ↔ Gok a b s ∧ FrFrom s l 0) := by
 obtain ⟨q, K, h, hq⟩ := gridOk_ev a b s hs
 cases q with
 | false =>
  refine ⟨false, K, fun k hk => ?_, ⟨fun h => (by cases h), fun h => absurd (hq.mpr h.1) (by decide)⟩⟩
  unfold impl_areFree.f
  rw [(h k hk).2, Option.bind_some, if_neg (by decide)]
 | true =>
  refine ⟨!(l.any (hof_areFree.p s)), K, fun k hk => ?_, ?_⟩
  ·unfold impl_areFree.f hof_areFree.f
   rw [(h k hk).2, Option.bind_some, if_pos rfl, Option.bind_some]
  ·rw [FrFrom_all, Bool.not_eq_true', List.any_eq_false]
   have hp : ∀ x, ¬ (hof_areFree.p s x = true) ↔ Fr s x := fun x => by
    unfold hof_areFree.p Fr
    simp
   exact ⟨fun h => ⟨hq.mp rfl, fun x hx => (hp x).mp (h x hx)⟩, fun h x hx => (hp x).mpr (h.2 x hx)⟩
end Go.Proofs.Ytooofofeihkpcaa.Pure
/- The cells around a cell: what the program's and the reference's lists hold. -/
namespace Go.Proofs.Ytooofofeihkpcaa.Pure
open Go.RowKit Go.Proofs.Ytooofofeihkpcaa.Q Go.Proofs.YtooofofeihkpcaaW.PrintWords Go.Proofs.YtooofofeihkpcaaW.PrintLast
/-- The neighbours of a free cell. -/
def Adj (a : Int) (s : ByteArray) (c x : Int) : Prop := Fr s c ∧ Fr s x ∧ (x = c - a ∨ (x = c - 1 ∧ 0 < c % a) ∨ (x = c + 1 ∧ c % a < a - 1) ∨ x = c + a)
theorem Fr_lt {s : ByteArray} {c : Int} (h : Fr s c) : 0 ≤ c ∧ c < (s.size : Int) := ⟨h.1, h.2.1⟩
theorem around_j3 (a b : Int) (s : ByteArray) (c : Int) (l : List Int) (t : Bool) (hc : 0 ≤ c) (hc1 : c ≤ 64) (ha : 1 ≤ a) (ha1 : a ≤ 8) (hl : l.length ≤ 10) (k : Nat) :
  impl_around.j3 (k + 1) c l t a b s = some (l ++ (if t = true then [c + 1] else []) ++ (if Fr s (c + a) then [c + a] else [])) := by
 have e1 : wrap64 (c + 1) = c + 1 := w64 (by omega) (by omega)
 have e2 : wrap64 (c + a) = c + a := w64 (by omega) (by omega)
 cases t with
 | true =>
  simp only [impl_around.j3, if_pos, e1, e2, isFree_eq, Option.bind_some, if_pos (show l.length < 17592186044416 by omega)]
  by_cases h : Fr s (c + a)
  ·rw [decide_eq_true h, if_pos rfl, if_pos h, if_pos (by simp; omega)]
  ·rw [decide_eq_false h, if_neg h]; simp
 | false =>
  simp only [impl_around.j3, Bool.false_eq_true, if_false, e1, e2, isFree_eq, Option.bind_some]
  by_cases h : Fr s (c + a)
  ·rw [decide_eq_true h, if_pos rfl, if_pos h, if_pos (by omega)]; simp
  ·rw [decide_eq_false h, if_neg h]; simp
theorem around_j2 (a b : Int) (s : ByteArray) (c : Int) (l : List Int) (hc : 0 ≤ c) (hc1 : c ≤ 64) (ha : 1 ≤ a) (ha1 : a ≤ 8) (hl : l.length ≤ 10) (k : Nat) :
  impl_around.j2 (k + 2) c l a b s = some (l ++ (if c % a < a - 1 ∧ Fr s (c + 1) then [c + 1] else []) ++ (if Fr s (c + a) then [c + a] else [])) := by
 have e1 : wrap64 (c + 1) = c + 1 := w64 (by omega) (by omega)
 have e2 : wrap64 (a - 1) = a - 1 := w64 (by omega) (by omega)
 have e3 : Int.tmod c a = c % a := Int.tmod_eq_emod_of_nonneg hc
 rw [impl_around.j2, if_neg (by omega), e1, e2, e3]
 by_cases h : c % a < a - 1
 ·rw [if_pos h, isFree_eq, Option.bind_some, around_j3 a b s c l _ hc hc1 ha ha1 hl]
  simp [h]
 ·rw [if_neg h, around_j3 a b s c l _ hc hc1 ha ha1 hl]
  simp [h]
theorem around_j1 (a b : Int) (s : ByteArray) (c : Int) (l : List Int) (t : Bool) (hc : 0 ≤ c) (hc1 : c ≤ 64) (ha : 1 ≤ a) (ha1 : a ≤ 8) (hl : l.length ≤ 4) (k : Nat) :
  impl_around.j1 (k + 3) c l t a b s = some (l ++ (if t = true then [c - 1] else []) ++ (if c % a < a - 1 ∧ Fr s (c + 1) then [c + 1] else []) ++ (if Fr s (c + a) then [c + a] else [])) := by
 have e1 : wrap64 (c - 1) = c - 1 := w64 (by omega) (by omega)
 rw [impl_around.j1, e1]
 cases t with
 | true =>
  rw [if_pos rfl, if_pos (by omega), around_j2 a b s c _ hc hc1 ha ha1 (by simp; omega)]
  simp
 | false =>
  rw [if_neg (by decide), around_j2 a b s c _ hc hc1 ha ha1 (by omega)]
  simp
theorem around_j0 (a b : Int) (s : ByteArray) (c : Int) (l : List Int) (hc : 0 ≤ c) (hc1 : c ≤ 64) (ha : 1 ≤ a) (ha1 : a ≤ 8) (hl : l.length ≤ 4) (k : Nat) :
  impl_around.j0 (k + 4) c l a b s = some (l ++ (if 0 < c % a ∧ Fr s (c - 1) then [c - 1] else []) ++ (if c % a < a - 1 ∧ Fr s (c + 1) then [c + 1] else []) ++ (if Fr s (c + a) then [c + a] else [])) := by
 have e1 : wrap64 (c - 1) = c - 1 := w64 (by omega) (by omega)
 have e3 : Int.tmod c a = c % a := Int.tmod_eq_emod_of_nonneg hc
 rw [impl_around.j0, if_neg (by omega), e1, e3]
 by_cases h : c % a > 0
 ·rw [if_pos h, isFree_eq, Option.bind_some, around_j1 a b s c l _ hc hc1 ha ha1 hl]
  simp [h]
 ·rw [if_neg h, around_j1 a b s c l _ hc hc1 ha ha1 hl]
  simp [show ¬ 0 < c % a from h]
theorem mem_opt {x y : Int} (p : Prop) [Decidable p] : x ∈ (if p then [y] else []) ↔ p ∧ x = y := by
 by_cases h : p <;> simp [h]
theorem implAround_ev (a b : Int) (s : ByteArray) (hG : Gok a b s) (c : Int) (hc : Fr s c) : ∃ ns K, (∀ k, K ≤ k → impl_around.f k a b s c = some ns) ∧ (∀ x, x ∈ ns ↔ Adj a s c x) ∧ ns.length ≤ 4 := by
 have hs := Gok_size hG
 obtain ⟨a0, a1, b0, b1, hab, _⟩ := hG
 obtain ⟨c0, c1⟩ := Fr_lt hc
 have e1 : wrap64 (c - a) = c - a := w64 (by omega) (by omega)
 refine ⟨(if Fr s (c - a) then [c - a] else []) ++ (if 0 < c % a ∧ Fr s (c - 1) then [c - 1] else []) ++ (if c % a < a - 1 ∧ Fr s (c + 1) then [c + 1] else []) ++ (if Fr s (c + a) then [c + a] else []), 4, fun k hk => ?_, fun x => ?_, ?_⟩
 ·obtain ⟨k, rfl⟩ : ∃ m, k = m + 4 := ⟨k - 4, by omega⟩
  unfold impl_around.f
  rw [isFree_eq, Option.bind_some, decide_eq_true hc, if_pos rfl, e1, isFree_eq, Option.bind_some]
  by_cases h : Fr s (c - a)
  ·rw [decide_eq_true h, if_pos rfl, if_pos (by simp), around_j0 a b s c _ c0 (by omega) a0 a1 (by simp), if_pos h]; simp
  ·rw [decide_eq_false h, if_neg (by decide), around_j0 a b s c _ c0 (by omega) a0 a1 (by simp), if_neg h]
 ·simp only [List.mem_append, mem_opt]
  unfold Adj
  constructor
  ·rintro (((⟨h, rfl⟩ | ⟨⟨h1, h⟩, rfl⟩) | ⟨⟨h1, h⟩, rfl⟩) | ⟨h, rfl⟩)
   ·exact ⟨hc, h, .inl rfl⟩
   ·exact ⟨hc, h, .inr (.inl ⟨rfl, h1⟩)⟩
   ·exact ⟨hc, h, .inr (.inr (.inl ⟨rfl, h1⟩))⟩
   ·exact ⟨hc, h, .inr (.inr (.inr rfl))⟩
  ·rintro ⟨_, h, (rfl | ⟨rfl, h1⟩ | ⟨rfl, h1⟩ | rfl)⟩
   ·exact .inl (.inl (.inl ⟨h, rfl⟩))
   ·exact .inl (.inl (.inr ⟨⟨h1, h⟩, rfl⟩))
   ·exact .inl (.inr ⟨⟨h1, h⟩, rfl⟩)
   ·exact .inr ⟨h, rfl⟩
 ·by_cases h1 : Fr s (c - a) <;> by_cases h2 : 0 < c % a ∧ Fr s (c - 1) <;> by_cases h3 : c % a < a - 1 ∧ Fr s (c + 1) <;> by_cases h4 : Fr s (c + a) <;> simp [h1, h2, h3, h4]
theorem cellAt_ev (a b : Int) (s : ByteArray) (hG : Gok a b s) (x y : Int) (hx : -10 ≤ x ∧ x ≤ 100) (hy : -10 ≤ y ∧ y ≤ 100) : ∃ K, ∀ k, K ≤ k → spec_CellAt.f k a b s x y = some (if (0 ≤ x ∧ x ≤ a - 1) ∧ (0 ≤ y ∧ y ≤ b - 1) then y * a + x else -1) := by
 have hs := Gok_size hG
 obtain ⟨g0, K0, h0, q0⟩ := gridOk_ev a b s (by omega)
 obtain rfl := q0.mpr hG
 obtain ⟨a0, a1, b0, b1, hab, _⟩ := hG
 refine ⟨K0, fun k hk => ?_⟩
 unfold spec_CellAt.f
 rw [(h0 k hk).1, Option.bind_some, if_pos rfl, w64 (by omega) (by omega), w64 (by omega) (by omega), l01In_eq, Option.bind_some]
 by_cases h1 : 0 ≤ x ∧ x ≤ a - 1
 ·rw [decide_eq_true h1, if_pos rfl, l01In_eq, Option.bind_some]
  by_cases h2 : 0 ≤ y ∧ y ≤ b - 1
  ·have hp0 : 0 ≤ y * a := Int.mul_nonneg h2.1 (by omega)
   have hp1 : y * a ≤ 7 * 8 := Int.mul_le_mul (by omega) a1 (by omega) (by omega)
   rw [decide_eq_true h2, if_pos rfl, if_pos ⟨h1, h2⟩, w64 (x := y * a) (by omega) (by omega), w64 (by omega) (by omega)]
  ·rw [decide_eq_false h2, if_neg (by decide), if_neg (fun h => h2 h.2)]
 ·rw [decide_eq_false h1, if_neg (by decide), if_neg (fun h => h1 h.1)]
theorem around_l0 (a b : Int) (s : ByteArray) (hG : Gok a b s) (v : List Int) (hv : v.length = 4) : ∀ (d i : Nat) (acc : List Int), i + d = 4 → acc.length ≤ 10 - d → ∃ K, ∀ k, K ≤ k → spec_Around.l0 k acc v (i : Int) a b s = some (acc ++ (v.drop i).filter (fun x => decide (Fr s x)))
 | 0, i, acc, hi, _ => by
  refine ⟨1, fun k hk => ?_⟩
  obtain ⟨k, rfl⟩ : ∃ m, k = m + 1 := ⟨k - 1, by omega⟩
  rw [spec_Around.l0, if_neg (by omega), List.drop_of_length_le (by omega)]; simp
 | d + 1, i, acc, hi, hl => by
  have hs := Gok_size hG
  obtain ⟨g, K1, h1, q1⟩ := specFreeAt_ev a b s (by omega) (rd v (i : Int))
  have e : wrap64 ((i : Int) + 1) = ((i + 1 : Nat) : Int) := by rw [w64 (by omega) (by omega)]; rfl
  by_cases hf : Fr s (rd v (i : Int))
  ·obtain rfl := q1.mpr ⟨hG, hf⟩
   obtain ⟨K2, h2⟩ := around_l0 a b s hG v hv d (i + 1) (acc ++ [rd v (i : Int)]) (by omega) (by simp; omega)
   refine ⟨K1 + K2 + 1, fun k hk => ?_⟩
   obtain ⟨k, rfl⟩ : ∃ m, k = m + 1 := ⟨k - 1, by omega⟩
   rw [spec_Around.l0, if_pos (by omega), if_pos (by omega), if_pos (by omega), h1 k (by omega), Option.bind_some, if_pos rfl, if_pos (by omega), e, h2 k (by omega), drop_cons v i (by omega), List.filter_cons_of_pos (by rw [← rd_get v i (by omega)]; exact decide_eq_true hf), rd_get v i (by omega)]
   simp
  ·have hg : g = false := by
    cases g with
    | false => rfl
    | true => exact absurd (q1.mp rfl).2 hf
   subst hg
   obtain ⟨K2, h2⟩ := around_l0 a b s hG v hv d (i + 1) acc (by omega) (by omega)
   refine ⟨K1 + K2 + 1, fun k hk => ?_⟩
   obtain ⟨k, rfl⟩ : ∃ m, k = m + 1 := ⟨k - 1, by omega⟩
   rw [spec_Around.l0, if_pos (by omega), if_pos (by omega), if_pos (by omega), h1 k (by omega), Option.bind_some, if_neg (by decide), e, h2 k (by omega), drop_cons v i (by omega), List.filter_cons_of_neg (by rw [← rd_get v i (by omega)]; simpa using hf)]
theorem specAround_ev (a b : Int) (s : ByteArray) (hG : Gok a b s) (c : Int) (hc : Fr s c) : ∃ ns K, (∀ k, K ≤ k → spec_Around.f k a b s c = some ns) ∧ (∀ x, x ∈ ns ↔ Adj a s c x) ∧ ns.length ≤ 4 := by
 have hs := Gok_size hG
 obtain ⟨g0, K0, h0, q0⟩ := gridOk_ev a b s (by omega)
 obtain rfl := q0.mpr hG
 obtain ⟨g1, K1, h1, q1⟩ := specFreeAt_ev a b s (by omega) c
 obtain rfl := q1.mpr ⟨hG, hc⟩
 obtain ⟨a0, a1, b0, b1, hab, _⟩ := id hG
 obtain ⟨c0, c1⟩ := Fr_lt hc
 have m0 := Int.emod_nonneg c (show a ≠ 0 by omega)
 have m1 := Int.emod_lt_of_pos c (show 0 < a by omega)
 have y0 := Int.ediv_nonneg c0 (show 0 ≤ a by omega)
 have y1 : c / a < b := Int.ediv_lt_of_lt_mul (by omega) (by rw [Int.mul_comm]; omega)
 have hd : c / a * a + c % a = c := by rw [Int.mul_comm]; exact Int.mul_ediv_add_emod c a
 have e1 : Int.tmod c a = c % a := Int.tmod_eq_emod_of_nonneg c0
 have e2 : Int.tdiv c a = c / a := Int.tdiv_eq_ediv_of_nonneg c0
 have hsp : ∀ k, K0 ≤ k → spec_SpotOf.f k a b s c = some (c % a, c / a) := fun k hk => by
  unfold spec_SpotOf.f
  rw [(h0 k hk).1, Option.bind_some, if_pos rfl, if_neg (by omega), if_neg (by omega), if_neg (by omega), e1, e2, w64 (by omega) (by omega)]
 generalize hX : c % a = X at *
 generalize hY : c / a = Y at *
 have w1 : wrap64 (Y - 1) = Y - 1 := w64 (by omega) (by omega)
 have w2 : wrap64 (X - 1) = X - 1 := w64 (by omega) (by omega)
 have w3 : wrap64 (X + 1) = X + 1 := w64 (by omega) (by omega)
 have w4 : wrap64 (Y + 1) = Y + 1 := w64 (by omega) (by omega)
 obtain ⟨K2, h2⟩ := cellAt_ev a b s hG X (Y - 1) (by omega) (by omega)
 obtain ⟨K3, h3⟩ := cellAt_ev a b s hG (X - 1) Y (by omega) (by omega)
 obtain ⟨K4, h4⟩ := cellAt_ev a b s hG (X + 1) Y (by omega) (by omega)
 obtain ⟨K5, h5⟩ := cellAt_ev a b s hG X (Y + 1) (by omega) (by omega)
 generalize hv1 : (if (0 ≤ X ∧ X ≤ a - 1) ∧ (0 ≤ Y - 1 ∧ Y - 1 ≤ b - 1) then (Y - 1) * a + X else -1) = v1 at h2
 generalize hv2 : (if (0 ≤ X - 1 ∧ X - 1 ≤ a - 1) ∧ (0 ≤ Y ∧ Y ≤ b - 1) then Y * a + (X - 1) else -1) = v2 at h3
 generalize hv3 : (if (0 ≤ X + 1 ∧ X + 1 ≤ a - 1) ∧ (0 ≤ Y ∧ Y ≤ b - 1) then Y * a + (X + 1) else -1) = v3 at h4
 generalize hv4 : (if (0 ≤ X ∧ X ≤ a - 1) ∧ (0 ≤ Y + 1 ∧ Y + 1 ≤ b - 1) then (Y + 1) * a + X else -1) = v4 at h5
 obtain ⟨K6, h6⟩ := around_l0 a b s hG [v1, v2, v3, v4] rfl 4 0 [] rfl (by simp)
 refine ⟨[v1, v2, v3, v4].filter (fun x => decide (Fr s x)), K0 + K1 + K2 + K3 + K4 + K5 + K6, fun k hk => ?_, fun x => ?_, List.length_filter_le _ _⟩
 ·unfold spec_Around.f
  rw [Option.bind_some, h1 k (by omega), Option.bind_some, if_pos rfl, hsp k (by omega), Option.bind_some]
  simp only [w1, w2, w3, w4]
  rw [h2 k (by omega), Option.bind_some, h3 k (by omega), Option.bind_some, h4 k (by omega), Option.bind_some, h5 k (by omega), Option.bind_some]
  have := h6 k (by omega)
  rw [List.drop_zero, List.nil_append] at this
  exact this
 ·have hn1 : Fr s (-1) → False := fun h => by have := h.1; omega
  have u1 : Fr s x → (x = v1 ↔ x = c - a) := fun hx => by
   obtain ⟨x0, x1⟩ := Fr_lt hx
   rw [← hv1]
   by_cases hy : Y = 0
   ·have : Y * a = 0 := by rw [hy, Int.zero_mul]
    rw [if_neg (by omega)]
    constructor <;> intro h <;> omega
   ·rw [if_pos (by omega), Int.sub_mul, Int.one_mul]
    constructor <;> intro h <;> omega
  have u2 : Fr s x → (x = v2 ↔ (x = c - 1 ∧ 0 < X)) := fun hx => by
   obtain ⟨x0, x1⟩ := Fr_lt hx
   rw [← hv2]
   by_cases hy : X = 0
   ·rw [if_neg (by omega)]
    constructor <;> intro h <;> omega
   ·rw [if_pos (by omega)]
    constructor <;> intro h <;> omega
  have u3 : Fr s x → (x = v3 ↔ (x = c + 1 ∧ X < a - 1)) := fun hx => by
   obtain ⟨x0, x1⟩ := Fr_lt hx
   rw [← hv3]
   by_cases hy : X = a - 1
   ·rw [if_neg (by omega)]
    constructor <;> intro h <;> omega
   ·rw [if_pos (by omega)]
    constructor <;> intro h <;> omega
  have u4 : Fr s x → (x = v4 ↔ x = c + a) := fun hx => by
   obtain ⟨x0, x1⟩ := Fr_lt hx
   rw [← hv4]
   by_cases hy : Y = b - 1
   ·have : Y * a = a * b - a := by rw [hy, Int.sub_mul, Int.one_mul, Int.mul_comm]
    rw [if_neg (by omega)]
    constructor <;> intro h <;> omega
   ·rw [if_pos (by omega), Int.add_mul, Int.one_mul]
    constructor <;> intro h <;> omega
  rw [List.mem_filter]
  unfold Adj
  rw [hX]
  simp only [List.mem_cons, List.not_mem_nil, or_false, decide_eq_true_eq]
  constructor
  ·rintro ⟨h, hx⟩
   rw [u1 hx, u2 hx, u3 hx, u4 hx] at h
   exact ⟨hc, hx, h⟩
  ·rintro ⟨_, hx, h⟩
   rw [u1 hx, u2 hx, u3 hx, u4 hx]
   exact ⟨h, hx⟩
end Go.Proofs.Ytooofofeihkpcaa.Pure
/- Plain facts about slices.Index over whole numbers. -/
namespace Go.Proofs.Ytooofofeihkpcaa.Pure
open Go.RowKit Go.Proofs.Ytooofofeihkpcaa.Q Go.Proofs.YtooofofeihkpcaaW.PrintWords Go.Proofs.YtooofofeihkpcaaW.PrintLast
/-- The first place of c in a list, told from place i on; -1. -/
def placeFrom (c : Int) : Int → List Int → Int
 | _, [] => -1
 | i, x :: xs => if c = x then i else placeFrom c (i + 1) xs
theorem placeFrom_bound (c : Int) : ∀ (i : Int) (l : List Int), 0 ≤ i → placeFrom c i l = -1 ∨ (i ≤ placeFrom c i l ∧ placeFrom c i l < i + l.length)
 | _, [], _ => .inl rfl
 | i, x :: xs, h => by
  unfold placeFrom
  by_cases e : c = x
  ·rw [if_pos e]; right; simp only [List.length_cons]; omega
  ·rw [if_neg e]
   rcases placeFrom_bound c (i + 1) xs (by omega) with h1 | h1
   ·exact .inl h1
   ·right; simp only [List.length_cons]; omega
theorem placeFrom_mem (c : Int) : ∀ (i : Int) (l : List Int), 0 ≤ i → (placeFrom c i l ≥ 0 ↔ c ∈ l)
 | _, [], _ => by simp [placeFrom]
 | i, x :: xs, h => by
  unfold placeFrom
  by_cases e : c = x
  ·rw [if_pos e]; simp [e]; omega
  ·rw [if_neg e, placeFrom_mem c (i + 1) xs (by omega)]; simp [e]
theorem index_l0 (l : List Int) (c : Int) (hn : l.length ≤ 9223372036854775807) : ∀ (d i k : Nat), i + d = l.length → d < k → slices_Index_int_int.l0 k l c (l.length : Int) (i : Int) = some (placeFrom c i (l.drop i))
 | 0, i, k, hi, hk => by
  obtain ⟨k, rfl⟩ : ∃ m, k = m + 1 := ⟨k - 1, by omega⟩
  simp only [slices_Index_int_int.l0]
  rw [if_neg (by omega), List.drop_of_length_le (by omega)]
  rfl
 | d + 1, i, k, hi, hk => by
  obtain ⟨k, rfl⟩ : ∃ m, k = m + 1 := ⟨k - 1, by omega⟩
  simp only [slices_Index_int_int.l0]
  rw [if_pos (by omega), if_pos (by omega), if_pos (by omega), rd_get l i (by omega), drop_cons l i (by omega), placeFrom]
  by_cases e : c = l[i]'(by omega)
  ·rw [if_pos e, if_pos e]
  ·rw [if_neg e, if_neg e, w64 (by omega) (by omega), show ((i : Int) + 1) = ((i + 1 : Nat) : Int) by omega, index_l0 l c hn d (i + 1) k (by omega) (by omega)]
theorem index_eq (l : List Int) (c : Int) (hn : l.length ≤ 9223372036854775807) (k : Nat) (hk : l.length < k) : slices_Index_int_int.f k l c = some (placeFrom c 0 l) := by
 have := index_l0 l c hn l.length 0 k (by omega) hk
 simpa [slices_Index_int_int.f] using this
end Go.Proofs.Ytooofofeihkpcaa.Pure
/- Plain facts about slices.Contains over whole numbers. -/
namespace Go.Proofs.Ytooofofeihkpcaa.Pure
open Go.RowKit Go.Proofs.Ytooofofeihkpcaa.Q Go.Proofs.YtooofofeihkpcaaW.PrintWords Go.Proofs.YtooofofeihkpcaaW.PrintLast
theorem contains_eq (l : List Int) (c : Int) (hn : l.length ≤ 9223372036854775807) (k : Nat) (hk : l.length < k) : slices_Contains_int_int.f k l c = some (decide (c ∈ l)) := by
 unfold slices_Contains_int_int.f
 rw [index_eq l c hn k hk, Option.bind_some]
 congr 1
 exact decide_eq_decide.mpr (placeFrom_mem c 0 l (by omega))
end Go.Proofs.Ytooofofeihkpcaa.Pure
/- Whether a list holds a number: what the reference answers. -/
namespace Go.Proofs.Ytooofofeihkpcaa.Pure
open Go.RowKit Go.Proofs.Ytooofofeihkpcaa.Q Go.Proofs.YtooofofeihkpcaaW.PrintWords Go.Proofs.YtooofofeihkpcaaW.PrintLast
theorem has_l0 (l : List Int) (c : Int) (hn : l.length ≤ 9223372036854775807) : ∀ (d i k : Nat), i + d = l.length → d < k → spec_l03Has.l0 k l c (i : Int) = some (decide (c ∈ l.drop i))
 | 0, i, k, hi, hk => by
  obtain ⟨k, rfl⟩ : ∃ m, k = m + 1 := ⟨k - 1, by omega⟩
  simp only [spec_l03Has.l0]
  rw [if_neg (by omega), List.drop_of_length_le (by omega)]
  simp
 | d + 1, i, k, hi, hk => by
  obtain ⟨k, rfl⟩ : ∃ m, k = m + 1 := ⟨k - 1, by omega⟩
  simp only [spec_l03Has.l0]
  rw [if_pos (by omega), if_pos (by omega), rd_get l i (by omega), drop_cons l i (by omega)]
  by_cases e : l[i]'(by omega) = c
  ·rw [if_pos e, decide_eq_true (by simp [e])]
  ·rw [if_neg e, w64 (by omega) (by omega), show ((i : Int) + 1) = ((i + 1 : Nat) : Int) by omega, has_l0 l c hn d (i + 1) k (by omega) (by omega)]
   congr 1
   exact decide_eq_decide.mpr (by simp only [List.mem_cons, Ne.symm e, false_or])
theorem has_eq (l : List Int) (c : Int) (hn : l.length ≤ 9223372036854775807) (k : Nat) (hk : l.length < k) : spec_l03Has.f k l c = some (decide (c ∈ l)) := by
 have := has_l0 l c hn l.length 0 k (by omega) hk
 simpa [spec_l03Has.f] using this
end Go.Proofs.Ytooofofeihkpcaa.Pure
/- Joint steps: the program's search and the reference's are alike, place by place. -/
namespace Go.Proofs.Ytooofofeihkpcaa.Pure
open Go.RowKit Go.Proofs.Ytooofofeihkpcaa.Q Go.Proofs.YtooofofeihkpcaaW.PrintWords Go.Proofs.YtooofofeihkpcaaW.PrintLast Go.Proofs.YtooofofeihkpcaaW.PrintMore
theorem placeFrom_at (c : Int) : ∀ (l : List Int) (i : Int), 0 ≤ i → (placeFrom c i l = -1 ∧ c ∉ l) ∨ ∃ j : Nat, ∃ h : j < l.length, placeFrom c i l = i + j ∧ l[j] = c
 | [], i, _ => .inl ⟨rfl, by simp⟩
 | x :: xs, i, h => by
  unfold placeFrom
  by_cases e : c = x
  ·rw [if_pos e]
   exact .inr ⟨0, by simp, by simp, by simp [e]⟩
  ·rw [if_neg e]
   rcases placeFrom_at c xs (i + 1) (by omega) with ⟨h1, h2⟩ | ⟨j, hj, h1, h2⟩
   ·exact .inl ⟨h1, by simp [e, h2]⟩
   ·exact .inr ⟨j + 1, by simpa using hj, by rw [h1]; omega, by simpa using h2⟩
theorem best_ok (best r D : Int) (_h1 : -1 ≤ best) (h2 : best ≤ D) (h3 : 0 ≤ r) (h4 : r ≤ D) : -1 ≤ (if best < 0 then r else if r < best then r else best) ∧ (if best < 0 then r else if r < best then r else best) ≤ D := by
 split
 ·omega
 ·split <;> omega
/-- Ascending: unlike places, unlike numbers. -/
theorem asc_lt (l : List Int) (h : AscFrom l 0) : ∀ (d i : Nat), i + d + 1 < l.length → rd l (i : Int) < rd l ((i + d + 1 : Nat) : Int)
 | 0, i, hi => by
  have := h (i + 1) (by omega) (by omega) (by omega)
  rwa [show ((i + 1 : Nat) : Int) - 1 = (i : Int) by omega] at this
 | d + 1, i, hi => by
  have h1 := asc_lt l h d i (by omega)
  have := h (i + (d + 1) + 1) (by omega) (by omega) (by omega)
  rw [show ((i + (d + 1) + 1 : Nat) : Int) - 1 = ((i + d + 1 : Nat) : Int) by omega] at this
  omega
theorem asc_inj (l : List Int) (h : AscFrom l 0) (i j : Nat) (hi : i < l.length) (hj : j < l.length) (e : rd l (i : Int) = rd l (j : Int)) : i = j := by
 rcases Nat.lt_trichotomy i j with c | c | c
 ·have := asc_lt l h (j - i - 1) i (by omega)
  rw [show i + (j - i - 1) + 1 = j by omega] at this
  omega
 ·exact c
 ·have := asc_lt l h (i - j - 1) j (by omega)
  rw [show j + (i - j - 1) + 1 = i by omega] at this
  omega
/-- Does c swap with one of the d robots from place j on: t tells where they went, p where they stood, x where this one stands. -/
def swF (p t : List Int) (x c : Int) : Nat → Nat → Bool
 | 0, _ => false
 | d + 1, j => (decide (rd t (j : Int) = x) && decide (rd p (j : Int) = c)) || swF p t x c d (j + 1)
theorem swF_iff (p t : List Int) (x c : Int) : ∀ d j, swF p t x c d j = true ↔ ∃ m : Nat, j ≤ m ∧ m < j + d ∧ rd t (m : Int) = x ∧ rd p (m : Int) = c
 | 0, j => by simp [swF]; omega
 | d + 1, j => by
  unfold swF
  rw [Bool.or_eq_true, swF_iff p t x c d (j + 1), Bool.and_eq_true, decide_eq_true_eq, decide_eq_true_eq]
  constructor
  ·rintro (⟨h1, h2⟩ | ⟨m, h1, h2, h3⟩)
   ·exact ⟨j, Nat.le_refl _, by omega, h1, h2⟩
   ·exact ⟨m, by omega, by omega, h3⟩
  ·rintro ⟨m, h1, h2, h3⟩
   by_cases e : m = j
   ·subst e; exact .inl h3
   ·exact .inr ⟨m, by omega, by omega, h3⟩
section
variable (a b : Int) (s : ByteArray) (hG : Gok a b s) (p q : List Int) (hp3 : p.length ≤ 3) (hq3 : q.length ≤ 3) (hpf : FrFrom s p 0) (hpa : AscFrom p 0)
include hp3 hq3
theorem spec_sw (t : List Int) (i : Nat) (hi : i < p.length) (ht : t.length = i) (best : Int) (jj : Nat) (hjj : jj < q.length) : ∀ (d j : Nat) (fl : Bool) (k : Nat), j + d = i → spec_l16Step.l1 (k + d + 1) p q t (i : Int) best (jj : Int) fl (j : Int) a b s = spec_l16Step.l1 (k + 1) p q t (i : Int) best (jj : Int) (fl || swF p t (rd p (i : Int)) (rd q (jj : Int)) d j) (i : Int) a b s
 | 0, j, fl, k, hj => by
  obtain rfl : j = i := by omega
  simp [swF]
 | d + 1, j, fl, k, hj => by
  have e9 : wrap64 ((j : Int) + 1) = ((j + 1 : Nat) : Int) := w64 (by omega) (by omega)
  have hstep : spec_l16Step.l1 (k + (d + 1) + 1) p q t (i : Int) best (jj : Int) fl (j : Int) a b s = spec_l16Step.l1 (k + d + 1) p q t (i : Int) best (jj : Int) (if rd t (j : Int) = rd p (i : Int) ∧ rd p (j : Int) = rd q (jj : Int) then true else fl) ((j + 1 : Nat) : Int) a b s := by
   rw [show k + (d + 1) + 1 = (k + d + 1) + 1 by omega, spec_l16Step.l1, if_pos (show (j : Int) < (i : Int) by omega), if_pos (show (0 : Int) ≤ (j : Int) by omega), if_pos (show (j : Int) < (t.length : Int) by omega), if_pos (show (0 : Int) ≤ (i : Int) by omega), if_pos (show (i : Int) < (p.length : Int) by omega), e9]
   by_cases c1 : rd t (j : Int) = rd p (i : Int)
   ·rw [if_pos c1, if_pos (show (j : Int) < (p.length : Int) by omega), if_pos (show (0 : Int) ≤ (jj : Int) by omega), if_pos (show (jj : Int) < (q.length : Int) by omega)]
    by_cases c2 : rd p (j : Int) = rd q (jj : Int)
    ·rw [if_pos c2, if_pos ⟨c1, c2⟩]
    ·rw [if_neg c2, if_neg (fun h => c2 h.2)]
   ·rw [if_neg c1, if_neg (fun h => c1 h.1)]
  rw [hstep, spec_sw t i hi ht best jj hjj d (j + 1) _ k (by omega), swF]
  congr 1
  by_cases c1 : rd t (j : Int) = rd p (i : Int)
  ·by_cases c2 : rd p (j : Int) = rd q (jj : Int)
   ·rw [if_pos ⟨c1, c2⟩, decide_eq_true c1, decide_eq_true c2]; simp
   ·rw [if_neg (fun h => c2 h.2), decide_eq_false c2]; simp
  ·rw [if_neg (fun h => c1 h.1), decide_eq_false c1]; simp
include hpa
theorem impl_sw (t : List Int) (i : Nat) (hi : i < p.length) (ht : t.length = i) (c : Int) : ∃ z : Int, (∀ k, p.length < k → slices_Index_int_int.f k (p.take i) c = some z) ∧ ((z < 0 ∧ swF p t (rd p (i : Int)) c i 0 = false) ∨ (0 ≤ z ∧ z < (i : Int) ∧ (rd t z == rd p (i : Int)) = swF p t (rd p (i : Int)) c i 0)) := by
 have hl : (p.take i).length = i := by rw [List.length_take]; omega
 refine ⟨placeFrom c 0 (p.take i), fun k hk => index_eq _ _ (by omega) k (by omega), ?_⟩
 have hrd : ∀ j : Nat, ∀ h : j < (p.take i).length, (p.take i)[j] = rd p (j : Int) := fun j h => by
  rw [List.getElem_take, rd_get p j (by omega)]
 rcases placeFrom_at c (p.take i) 0 (Int.le_refl _) with ⟨h1, h2⟩ | ⟨j, hj, h1, h2⟩
 ·refine .inl ⟨by omega, ?_⟩
  rw [Bool.eq_false_iff]
  intro h
  obtain ⟨m, _, h3, _, h5⟩ := (swF_iff p t _ c i 0).mp h
  refine h2 ?_
  have := hrd m (by omega)
  rw [← h5, ← this]
  exact List.getElem_mem _
 ·refine .inr ⟨by omega, by omega, ?_⟩
  rw [h1, Int.zero_add]
  have hpj : rd p (j : Int) = c := by rw [← hrd j hj]; exact h2
  rw [Bool.eq_iff_iff, beq_iff_eq, swF_iff]
  constructor
  ·intro h
   exact ⟨j, Nat.zero_le _, by omega, h, hpj⟩
  ·rintro ⟨m, _, h3, h4, h5⟩
   have : m = j := asc_inj p hpa m j (by omega) (by omega) (by rw [h5, hpj])
   subst this
   exact h4
include hG hpf
/-- Next to each other: both tell it alike. -/
theorem beside_both (i : Nat) (hi : i < p.length) (c : Int) : ∃ (g : Bool) (ns : List Int) (K : Nat), (∀ k, K ≤ k → spec_Beside.f k a b s (rd p (i : Int)) c = some g ∧ impl_around.f k a b s (rd p (i : Int)) = some ns ∧ slices_Contains_int_int.f k ns c = some g) := by
 have hfr : Fr s (rd p (i : Int)) := hpf i (Nat.zero_le _) hi
 obtain ⟨ns, K1, h1, m1, l1⟩ := implAround_ev a b s hG _ hfr
 obtain ⟨ms, K2, h2, m2, l2⟩ := specAround_ev a b s hG _ hfr
 refine ⟨decide (c ∈ ns), ns, K1 + K2 + 10, fun k hk => ⟨?_, h1 k (by omega), contains_eq ns c (by omega) k (by omega)⟩⟩
 unfold spec_Beside.f
 rw [h2 k (by omega), Option.bind_some, has_eq ms c (by omega) k (by omega), Option.bind_some]
 congr 1
 exact decide_eq_decide.mpr ((m2 c).trans (m1 c).symm)
/-- From a place on that is taken: the rest of the loop over the cells. -/
theorem js_f : ∀ (d : Nat) (t : List Int), t.length + d = p.length → ∃ (v : Int) (K : Nat), -1 ≤ v ∧ v ≤ d ∧ ∀ k, K ≤ k → spec_l16Step.f k a b s p q t = some v ∧ impl_matched.f k a b s p q t = some v
 | 0, t, ht => by
  refine ⟨0, 1, by omega, by omega, fun k hk => ?_⟩
  obtain ⟨k, rfl⟩ : ∃ m, k = m + 1 := ⟨k - 1, by omega⟩
  rw [spec_l16Step.f, impl_matched.f, if_pos (by omega), if_pos (by omega)]
  exact ⟨rfl, rfl⟩
 | d + 1, t, ht => by
  have hi : t.length < p.length := by omega
  have hrec := fun x => js_f d (t ++ [x]) (by rw [List.length_append, List.length_singleton]; omega)
  have e3 : (0 : Int) ≤ (t.length : Int) := by omega
  have e4 : (t.length : Int) < (p.length : Int) := by omega
  have e5 : (t.length : Int) ≤ (p.length : Int) := by omega
  have htl : t.length < 17592186044416 := by omega
  have htl2 : t.length + 1 < 17592186044416 := by omega
  have loop : ∀ (e j : Nat) (best : Int), j + e = q.length → -1 ≤ best → best ≤ ((d + 1 : Nat) : Int) → ∃ (v : Int) (K : Nat), -1 ≤ v ∧ v ≤ ((d + 1 : Nat) : Int) ∧ ∀ k, K ≤ k → spec_l16Step.l0 k p q t (t.length : Int) best (j : Int) a b s = some v ∧ impl_matched.l0 k p q t (t.length : Int) best q (q.length : Int) (j : Int) a b s = some v := by
   intro e
   induction e with
   | zero =>
    intro j best hj hb1 hb2
    refine ⟨best, 1, hb1, hb2, fun k hk => ?_⟩
    obtain ⟨k, rfl⟩ : ∃ m, k = m + 1 := ⟨k - 1, by omega⟩
    rw [spec_l16Step.l0, impl_matched.l0, if_neg (by omega), if_neg (by omega)]
    exact ⟨rfl, rfl⟩
   | succ e ih =>
    intro j best hj hb1 hb2
    have hjq : (j : Int) < (q.length : Int) := by omega
    have hj0 : (0 : Int) ≤ (j : Int) := by omega
    have e9 : wrap64 ((j : Int) + 1) = ((j + 1 : Nat) : Int) := w64 (by omega) (by omega)
    -- a cell that is passed over
    obtain ⟨v0, K0, hv1, hv2, h0⟩ := ih (j + 1) best (by omega) hb1 hb2
    have hskipS : ∀ k, K0 + 1 ≤ k → spec_l16Step.j1 k p q t (t.length : Int) best (j : Int) true a b s = some v0 := fun k hk => by
     obtain ⟨k, rfl⟩ : ∃ m, k = m + 1 := ⟨k - 1, by omega⟩
     rw [spec_l16Step.j1, if_pos rfl, e9]
     exact (h0 k (by omega)).1
    have hskipI : ∀ k, K0 + 1 ≤ k → impl_matched.j1 k p q t (t.length : Int) best (rd q (j : Int)) q (q.length : Int) (j : Int) true a b s = some v0 := fun k hk => by
     obtain ⟨k, rfl⟩ : ∃ m, k = m + 1 := ⟨k - 1, by omega⟩
     rw [impl_matched.j1, if_pos rfl, e9]
     exact (h0 k (by omega)).2
    -- a cell that is tried
    have htry : ∃ (v : Int) (K : Nat), -1 ≤ v ∧ v ≤ ((d + 1 : Nat) : Int) ∧ ∀ k, K ≤ k → spec_l16Step.j1 k p q t (t.length : Int) best (j : Int) false a b s = some v ∧ impl_matched.j1 k p q t (t.length : Int) best (rd q (j : Int)) q (q.length : Int) (j : Int) false a b s = some v := by
     obtain ⟨z, hz, hzz⟩ := impl_sw p q hp3 hq3 hpa t t.length hi rfl (rd q (j : Int))
     have hS := fun k => spec_sw a b s p q hp3 hq3 t t.length hi rfl best j (by omega) t.length 0 false k (by omega)
     -- impl: the test of the swap
     have hI2 : ∀ k, p.length < k → impl_matched.j1 (k + 1) p q t (t.length : Int) best (rd q (j : Int)) q (q.length : Int) (j : Int) false a b s = impl_matched.j2 k p q t (t.length : Int) best (rd q (j : Int)) q (q.length : Int) (j : Int) (swF p t (rd p (t.length : Int)) (rd q (j : Int)) t.length 0) a b s := fun k hk => by
      rw [impl_matched.j1, if_neg (by decide), if_pos e3, if_pos e5, Int.toNat_natCast, hz k hk, Option.bind_some]
      rcases hzz with ⟨z1, z2⟩ | ⟨z1, z2, z3⟩
      ·rw [if_neg (by omega), z2]
      ·rw [if_pos z1, if_pos z1, if_pos z2, if_pos e4, z3]
     have hS2 : ∀ k, spec_l16Step.j1 (k + t.length + 2) p q t (t.length : Int) best (j : Int) false a b s = spec_l16Step.l1 (k + 1) p q t (t.length : Int) best (j : Int) (swF p t (rd p (t.length : Int)) (rd q (j : Int)) t.length 0) (t.length : Int) a b s := fun k => by
      rw [show k + t.length + 2 = (k + t.length + 1) + 1 by omega, spec_l16Step.j1, if_neg (by decide)]
      have := hS k
      rw [show ((0 : Nat) : Int) = 0 from rfl, Bool.false_or] at this
      exact this
     cases hsw : swF p t (rd p (t.length : Int)) (rd q (j : Int)) t.length 0 with
     | true =>
      refine ⟨v0, K0 + p.length + t.length + 4, hv1, hv2, fun k hk => ?_⟩
      obtain ⟨k, rfl⟩ : ∃ m, k = m + t.length + 2 := ⟨k - t.length - 2, by omega⟩
      rw [hS2, hsw, spec_l16Step.l1, if_neg (by omega), if_pos rfl, e9]
      obtain ⟨m, hm⟩ : ∃ m, k + t.length + 2 = m + 2 := ⟨k + t.length, rfl⟩
      rw [hm, hI2 (m + 1) (by omega), hsw, impl_matched.j2, if_pos rfl, e9]
      exact ⟨(h0 k (by omega)).1, (h0 m (by omega)).2⟩
     | false =>
      obtain ⟨r, K1, hr1, hr2, hr⟩ := hrec (rd q (j : Int))
      -- the best so far and what is found
      by_cases hr0 : r < 0
      ·refine ⟨v0, K0 + K1 + p.length + t.length + 6, hv1, hv2, fun k hk => ?_⟩
       obtain ⟨k, rfl⟩ : ∃ m, k = m + t.length + 3 := ⟨k - t.length - 3, by omega⟩
       have w1 : ¬ r ≥ 0 := by omega
       constructor
       ·rw [show k + t.length + 3 = (k + 1) + t.length + 2 by omega, hS2, hsw, spec_l16Step.l1, if_neg (by omega), if_neg (by decide), Option.bind_some]
        simp only [List.length_nil, Nat.zero_add, List.nil_append, htl, hj0, hjq, reduceIte, Option.bind_some, List.length_singleton, htl2]
        rw [(hr (k + 1) (by omega)).1, Option.bind_some, if_neg w1, spec_l16Step.j3, if_neg (by decide), if_neg w1, e9]
        exact (h0 k (by omega)).1
       ·obtain ⟨m, hm⟩ : ∃ m, k + t.length + 3 = m + 2 := ⟨k + t.length + 1, rfl⟩
        rw [hm, hI2 (m + 1) (by omega), hsw, impl_matched.j2, if_neg (by decide)]
        unfold slices_Clone_int_int.f
        rw [if_pos htl, Option.bind_some, Option.bind_some, if_pos (by simpa using htl2), (hr m (by omega)).2, Option.bind_some, if_pos hr0, e9]
        exact (h0 m (by omega)).2
      ·have w0 : r ≥ 0 := by omega
       by_cases hmv : rd q (j : Int) = rd p (t.length : Int)
       ·-- it stays
        obtain ⟨v1, K2, q1, q2, h1⟩ := ih (j + 1) (if best < 0 then r else if r < best then r else best) (by omega) (best_ok best r _ hb1 hb2 (by omega) (by omega)).1 (best_ok best r _ hb1 hb2 (by omega) (by omega)).2
        refine ⟨v1, K1 + K2 + p.length + t.length + 6, q1, q2, fun k hk => ?_⟩
        obtain ⟨k, rfl⟩ : ∃ m, k = m + t.length + 3 := ⟨k - t.length - 3, by omega⟩
        constructor
        ·have hk1 := (h1 k (by omega)).1
         have hne : (rd q (j : Int) != rd p (t.length : Int)) = false := by simpa using hmv
         rw [show k + t.length + 3 = (k + 1) + t.length + 2 by omega, hS2, hsw, spec_l16Step.l1, if_neg (by omega), if_neg (by decide), Option.bind_some]
         simp only [List.length_nil, Nat.zero_add, List.nil_append, htl, hj0, hjq, reduceIte, Option.bind_some, List.length_singleton, htl2]
         rw [(hr (k + 1) (by omega)).1, Option.bind_some, if_pos w0, if_pos e3, if_pos e4, hne, spec_l16Step.j3, if_neg (by decide), if_pos w0, e9]
         by_cases c1 : best < 0
         ·rw [if_pos c1] at hk1 ⊢; exact hk1
         ·rw [if_neg c1] at hk1 ⊢
          by_cases c2 : r < best
          ·rw [if_pos c2] at hk1 ⊢; exact hk1
          ·rw [if_neg c2] at hk1 ⊢; exact hk1
        ·obtain ⟨m, hm⟩ : ∃ m, k + t.length + 3 = m + 2 := ⟨k + t.length + 1, rfl⟩
         have hk1 := (h1 m (by omega)).2
         rw [hm, hI2 (m + 1) (by omega), hsw, impl_matched.j2, if_neg (by decide)]
         unfold slices_Clone_int_int.f
         rw [if_pos htl, Option.bind_some, Option.bind_some, if_pos (by simpa using htl2), (hr m (by omega)).2, Option.bind_some, if_neg hr0, if_pos e3, if_pos e4, if_pos hmv, e9]
         by_cases c1 : best < 0
         ·rw [if_pos c1] at hk1 ⊢; exact hk1
         ·rw [if_neg c1] at hk1 ⊢
          by_cases c2 : r < best
          ·rw [if_pos c2] at hk1 ⊢; exact hk1
          ·rw [if_neg c2] at hk1 ⊢; exact hk1
       ·-- it moves
        have er : wrap64 (r + 1) = r + 1 := w64 (by omega) (by omega)
        obtain ⟨v1, K2, q1, q2, h1⟩ := ih (j + 1) (if best < 0 then r + 1 else if r + 1 < best then r + 1 else best) (by omega) (best_ok best (r + 1) _ hb1 hb2 (by omega) (by omega)).1 (best_ok best (r + 1) _ hb1 hb2 (by omega) (by omega)).2
        refine ⟨v1, K1 + K2 + p.length + t.length + 6, q1, q2, fun k hk => ?_⟩
        obtain ⟨k, rfl⟩ : ∃ m, k = m + t.length + 3 := ⟨k - t.length - 3, by omega⟩
        constructor
        ·have hk1 := (h1 k (by omega)).1
         have hne : (rd q (j : Int) != rd p (t.length : Int)) = true := by simpa using hmv
         rw [show k + t.length + 3 = (k + 1) + t.length + 2 by omega, hS2, hsw, spec_l16Step.l1, if_neg (by omega), if_neg (by decide), Option.bind_some]
         simp only [List.length_nil, Nat.zero_add, List.nil_append, htl, hj0, hjq, reduceIte, Option.bind_some, List.length_singleton, htl2]
         rw [(hr (k + 1) (by omega)).1, Option.bind_some, if_pos w0, if_pos e3, if_pos e4, hne, spec_l16Step.j3, if_pos rfl, er, if_pos (by omega), e9]
         by_cases c1 : best < 0
         ·rw [if_pos c1] at hk1 ⊢; exact hk1
         ·rw [if_neg c1] at hk1 ⊢
          by_cases c2 : r + 1 < best
          ·rw [if_pos c2] at hk1 ⊢; exact hk1
          ·rw [if_neg c2] at hk1 ⊢; exact hk1
        ·obtain ⟨m, hm⟩ : ∃ m, k + t.length + 3 = m + 2 := ⟨k + t.length + 1, rfl⟩
         have hk1 := (h1 m (by omega)).2
         rw [hm, hI2 (m + 1) (by omega), hsw, impl_matched.j2, if_neg (by decide)]
         unfold slices_Clone_int_int.f
         rw [if_pos htl, Option.bind_some, Option.bind_some, if_pos (by simpa using htl2), (hr m (by omega)).2, Option.bind_some, if_neg hr0, if_pos e3, if_pos e4, if_neg hmv, er, e9]
         by_cases c1 : best < 0
         ·rw [if_pos c1] at hk1 ⊢; exact hk1
         ·rw [if_neg c1] at hk1 ⊢
          by_cases c2 : r + 1 < best
          ·rw [if_pos c2] at hk1 ⊢; exact hk1
          ·rw [if_neg c2] at hk1 ⊢; exact hk1
    obtain ⟨v1, K1, q1, q2, ht1⟩ := htry
    have hhas := fun k hk => has_eq t (rd q (j : Int)) (by omega) k hk
    have hcon := fun k hk => contains_eq t (rd q (j : Int)) (by omega) k hk
    have outS : ∀ k, t.length < k → spec_l16Step.l0 (k + 1) p q t (t.length : Int) best (j : Int) a b s = (if (decide (rd q (j : Int) ∈ t)) = true then (spec_l16Step.j1 k p q t (t.length : Int) best (j : Int) true a b s) else (if (rd q (j : Int)) = (rd p (t.length : Int)) then (spec_l16Step.j1 k p q t (t.length : Int) best (j : Int) false a b s) else ((spec_Beside.f k a b s (rd p (t.length : Int)) (rd q (j : Int))).bind fun t455 => (spec_l16Step.j1 k p q t (t.length : Int) best (j : Int) (!t455) a b s)))) := fun k hk => by
     rw [spec_l16Step.l0, if_pos hjq, if_pos hj0, hhas k hk, Option.bind_some, if_pos e3, if_pos e4]
    have outI : ∀ k, t.length < k → impl_matched.l0 (k + 1) p q t (t.length : Int) best q (q.length : Int) (j : Int) a b s = (if (decide (rd q (j : Int) ∈ t)) = true then (impl_matched.j1 k p q t (t.length : Int) best (rd q (j : Int)) q (q.length : Int) (j : Int) true a b s) else (if (rd q (j : Int)) = (rd p (t.length : Int)) then (impl_matched.j1 k p q t (t.length : Int) best (rd q (j : Int)) q (q.length : Int) (j : Int) false a b s) else ((impl_around.f k a b s (rd p (t.length : Int))).bind fun t514 => ((slices_Contains_int_int.f k t514 (rd q (j : Int))).bind fun t517 => (impl_matched.j1 k p q t (t.length : Int) best (rd q (j : Int)) q (q.length : Int) (j : Int) (!t517) a b s))))) := fun k hk => by
     rw [impl_matched.l0, if_pos hjq, if_pos hj0, if_pos hjq, hcon k hk, Option.bind_some, if_pos e3, if_pos e4]
    by_cases c1 : rd q (j : Int) ∈ t
    ·refine ⟨v0, K0 + t.length + 3, hv1, hv2, fun k hk => ?_⟩
     obtain ⟨k, rfl⟩ : ∃ m, k = m + 1 := ⟨k - 1, by omega⟩
     rw [outS k (by omega), outI k (by omega), decide_eq_true c1, if_pos rfl, if_pos rfl]
     exact ⟨hskipS k (by omega), hskipI k (by omega)⟩
    ·by_cases c2 : rd q (j : Int) = rd p (t.length : Int)
     ·refine ⟨v1, K1 + t.length + 3, q1, q2, fun k hk => ?_⟩
      obtain ⟨k, rfl⟩ : ∃ m, k = m + 1 := ⟨k - 1, by omega⟩
      rw [outS k (by omega), outI k (by omega), decide_eq_false c1, if_neg (show ¬ (false = true) by decide), if_neg (show ¬ (false = true) by decide), if_pos c2, if_pos c2]
      exact ht1 k (by omega)
     ·obtain ⟨g, ns, K2, h2⟩ := beside_both a b s hG p q hp3 hq3 hpf hpa t.length hi (rd q (j : Int))
      cases g with
      | true =>
       refine ⟨v1, K1 + K2 + t.length + 3, q1, q2, fun k hk => ?_⟩
       obtain ⟨k, rfl⟩ : ∃ m, k = m + 1 := ⟨k - 1, by omega⟩
       obtain ⟨x1, x2, x3⟩ := h2 k (by omega)
       rw [outS k (by omega), outI k (by omega), decide_eq_false c1, if_neg (show ¬ (false = true) by decide), if_neg (show ¬ (false = true) by decide), if_neg c2, if_neg c2, x1, x2, Option.bind_some, Option.bind_some, x3, Option.bind_some]
       exact ht1 k (by omega)
      | false =>
       refine ⟨v0, K0 + K2 + t.length + 3, hv1, hv2, fun k hk => ?_⟩
       obtain ⟨k, rfl⟩ : ∃ m, k = m + 1 := ⟨k - 1, by omega⟩
       obtain ⟨x1, x2, x3⟩ := h2 k (by omega)
       rw [outS k (by omega), outI k (by omega), decide_eq_false c1, if_neg (show ¬ (false = true) by decide), if_neg (show ¬ (false = true) by decide), if_neg c2, if_neg c2, x1, x2, Option.bind_some, Option.bind_some, x3, Option.bind_some]
       exact ⟨hskipS k (by omega), hskipI k (by omega)⟩
  obtain ⟨v, K, hv1, hv2, h⟩ := loop q.length 0 (-1) (by omega) (by omega) (by omega)
  refine ⟨v, K + 1, hv1, hv2, fun k hk => ?_⟩
  obtain ⟨k, rfl⟩ : ∃ m, k = m + 1 := ⟨k - 1, by omega⟩
  rw [spec_l16Step.f, impl_matched.f, if_neg (by omega), if_neg (by omega)]
  have := h k (by omega)
  rw [show ((0 : Nat) : Int) = 0 from rfl] at this
  exact this
end
/-- A stand: one to three free cells, ascending. -/
def Stand (a b : Int) (s : ByteArray) (l : List Int) : Prop := 1 ≤ l.length ∧ l.length ≤ 3 ∧ Gok a b s ∧ FrFrom s l 0 ∧ AscFrom l 0
theorem isStand_ev (a b : Int) (s : ByteArray) (hs : s.size ≤ 1048576) (l : List Int) (hl : l.length ≤ 1048576) : ∃ g K, (∀ k, K ≤ k → impl_isStand.f k a b s l = some g) ∧ (g = true ↔ Stand a b s l) := by
 obtain ⟨f, K1, h1, hf⟩ := areFree_ev a b s hs l
 obtain ⟨g, K2, h2, hg⟩ := implAsc_ev l hl
 by_cases c1 : 1 ≤ l.length
 ·by_cases c2 : l.length ≤ 3
  ·cases f with
   | true =>
    refine ⟨g, K1 + K2, fun k hk => ?_, ?_⟩
    ·unfold impl_isStand.f
     rw [if_pos (by omega), if_pos (by omega), h1 k (by omega), Option.bind_some, if_pos rfl, h2 k (by omega)]; rfl
    ·rw [hg]
     have := hf.mp rfl
     exact ⟨fun h => ⟨c1, c2, this.1, this.2, h⟩, fun h => h.2.2.2.2⟩
   | false =>
    refine ⟨false, K1, fun k hk => ?_, ⟨fun h => (by cases h), fun h => (by have := hf.mpr ⟨h.2.2.1, h.2.2.2.1⟩; cases this)⟩⟩
    unfold impl_isStand.f
    rw [if_pos (by omega), if_pos (by omega), h1 k (by omega), Option.bind_some, if_neg (by decide)]
  ·refine ⟨false, 0, fun k hk => ?_, ⟨fun h => (by cases h), fun h => absurd h.2.1 c2⟩⟩
   unfold impl_isStand.f
   rw [if_pos (by omega), if_neg (by omega)]
 ·refine ⟨false, 0, fun k hk => ?_, ⟨fun h => (by cases h), fun h => absurd h.1 c1⟩⟩
  unfold impl_isStand.f
  rw [if_neg (by omega)]
theorem cellsOk_ev (a b : Int) (s : ByteArray) (hs : s.size ≤ 1048576) (l : List Int) (hl : l.length ≤ 1048576) (h1 : 1 ≤ l.length) : ∃ g K, (∀ k, K ≤ k → spec_l10Cells.f k a b s l = some g) ∧ (g = true ↔ Gok a b s ∧ FrFrom s l 0 ∧ AscFrom l 0) := by
 by_cases hG : Gok a b s
 ·obtain ⟨g, K, h, hg⟩ := specCells_l0 a b s hs hG l hl l.length 0 (by omega)
  exact ⟨g, K, fun k hk => h k hk, hg.trans ⟨fun h => ⟨hG, h⟩, fun h => h.2⟩⟩
 ·obtain ⟨g, K, h, hg⟩ := specFreeAt_ev a b s hs (rd l 0)
  have : g = false := by
   cases g with
   | false => rfl
   | true => exact absurd (hg.mp rfl).1 hG
  subst this
  refine ⟨false, K + 1, fun k hk => ?_, ⟨fun h => (by cases h), fun h => absurd h.1 hG⟩⟩
  obtain ⟨k, rfl⟩ : ∃ m, k = m + 1 := ⟨k - 1, by omega⟩
  unfold spec_l10Cells.f
  rw [spec_l10Cells.l0, if_pos (by omega), if_pos (by omega), h k (by omega), Option.bind_some, if_neg (by decide)]
theorem jointStep_ev (a b : Int) (s : ByteArray) (hs : s.size ≤ 1048576) (p q : List Int) (hp : p.length ≤ 1048576) (hq : q.length ≤ 1048576) : ∃ (v : Int) (K : Nat), ∀ k, K ≤ k → spec_JointStep.f k a b s p q = some v ∧ impl_JointStep.f k a b s p q = some v := by
 obtain ⟨g1, K1, h1, e1⟩ := isStand_ev a b s hs p hp
 obtain ⟨g2, K2, h2, e2⟩ := isStand_ev a b s hs q hq
 by_cases c0 : 1 ≤ p.length ∧ p.length ≤ 3
 ·obtain ⟨f1, K3, h3, e3⟩ := cellsOk_ev a b s hs p hp c0.1
  have hin : (1 : Int) ≤ (p.length : Int) ∧ (p.length : Int) ≤ 3 := by omega
  have hfg : f1 = g1 := by
   rw [Bool.eq_iff_iff, e3, e1]
   exact ⟨fun h => ⟨c0.1, c0.2, h⟩, fun h => h.2.2⟩
  subst hfg
  by_cases cl : p.length = q.length
  ·obtain ⟨f2, K4, h4, e4⟩ := cellsOk_ev a b s hs q hq (by omega)
   have hfg2 : f2 = g2 := by
    rw [Bool.eq_iff_iff, e4, e2]
    exact ⟨fun h => ⟨by omega, by omega, h⟩, fun h => h.2.2⟩
   subst hfg2
   cases f1 with
   | false =>
    refine ⟨-1, K1 + K3, fun k hk => ?_⟩
    unfold spec_JointStep.f impl_JointStep.f
    rw [l01In_eq, Option.bind_some, decide_eq_true hin, if_pos rfl, if_pos (by omega), h3 k (by omega), h1 k (by omega), Option.bind_some, Option.bind_some, if_neg (by decide), if_neg (by decide)]
    exact ⟨rfl, rfl⟩
   | true =>
    cases f2 with
    | false =>
     refine ⟨-1, K1 + K2 + K3 + K4, fun k hk => ?_⟩
     unfold spec_JointStep.f impl_JointStep.f
     rw [l01In_eq, Option.bind_some, decide_eq_true hin, if_pos rfl, if_pos (by omega), h3 k (by omega), h1 k (by omega), Option.bind_some, Option.bind_some, if_pos rfl, if_pos rfl, h4 k (by omega), h2 k (by omega), Option.bind_some, Option.bind_some, if_neg (by decide), if_neg (by decide)]
     exact ⟨rfl, rfl⟩
    | true =>
     obtain ⟨_, _, hG, hpf, hpa⟩ := e1.mp rfl
     obtain ⟨v, K5, _, _, h5⟩ := js_f a b s hG p q c0.2 (by omega) hpf hpa p.length [] (by simp)
     refine ⟨v, K1 + K2 + K3 + K4 + K5, fun k hk => ?_⟩
     unfold spec_JointStep.f impl_JointStep.f
     rw [l01In_eq, Option.bind_some, decide_eq_true hin, if_pos rfl, if_pos (by omega), h3 k (by omega), h1 k (by omega), Option.bind_some, Option.bind_some, if_pos rfl, if_pos rfl, h4 k (by omega), h2 k (by omega), Option.bind_some, Option.bind_some, if_pos rfl, if_pos rfl, if_pos (by omega), (h5 k (by omega)).1, (h5 k (by omega)).2]
     exact ⟨rfl, rfl⟩
  ·refine ⟨-1, K1 + K2, fun k hk => ?_⟩
   unfold spec_JointStep.f impl_JointStep.f
   rw [l01In_eq, Option.bind_some, decide_eq_true hin, if_pos rfl, if_neg (by omega), h1 k (by omega), Option.bind_some]
   refine ⟨rfl, ?_⟩
   cases f1 with
   | false => rfl
   | true =>
    rw [if_pos rfl, h2 k (by omega), Option.bind_some]
    cases g2 with
    | false => rfl
    | true => rw [if_pos rfl, if_neg (by omega)]
 ·have hin : ¬ ((1 : Int) ≤ (p.length : Int) ∧ (p.length : Int) ≤ 3) := by omega
  have hg : g1 = false := by
   cases g1 with
   | false => rfl
   | true => exact absurd ⟨(e1.mp rfl).1, (e1.mp rfl).2.1⟩ c0
  subst hg
  refine ⟨-1, K1, fun k hk => ?_⟩
  unfold spec_JointStep.f impl_JointStep.f
  rw [l01In_eq, Option.bind_some, decide_eq_false hin, if_neg (by decide), h1 k (by omega), Option.bind_some, if_neg (by decide)]
  exact ⟨rfl, rfl⟩
end Go.Proofs.Ytooofofeihkpcaa.Pure
/- What a grid weighs. -/
namespace Go.Proofs.Ytooofofeihkpcaa.Pure
open Go.RowKit Go.Proofs.Ytooofofeihkpcaa.Q Go.Proofs.YtooofofeihkpcaaW.PrintWords Go.Proofs.YtooofofeihkpcaaW.PrintLast
theorem szGrid_eq (a b : Int) (s : ByteArray) (hs : s.size ≤ maxLen) (m : Int) (hm0 : 0 ≤ m) (hm : m ≤ 1048576) : laws_szGrid.f a b s m = some (if (s.size : Int) ≤ m then m - (s.size : Int) else -1) := by
 unfold laws_szGrid.f
 unfold maxLen at hs
 rw [w64 (by omega) (by omega)]
 by_cases h : (s.size : Int) ≤ m
 ·rw [if_neg (by omega), if_pos h]
 ·rw [if_pos (by omega), if_neg h]
end Go.Proofs.Ytooofofeihkpcaa.Pure
