/- The plain facts of this claim, in their order. -/
import Derived.Test.YtooofofeihkpcaaQ0
import Derived.Test.YtooofofeihkpcaaQ1
import Derived.Test.YtooofofeihkpcaaQ9
import Derived.Test.YtooofofeihkpcaaQ2
import Derived.Test.YtooofofeihkpcaaQ10
import Derived.Test.YtooofofeihkpcaaQ12
import Derived.Test.YtooofofeihkpcaaQ5
import Derived.Test.YtooofofeihkpcaaQ11
import Derived.Test.YtooofofeihkpcaaQ4
import Derived.Test.YtooofofeihkpcaaQ7
import Derived.Test.YtooofofeihkpcaaQ13
import Derived.Test.YtooofofeihkpcaaQ3
import Derived.Test.YtooofofeihkpcaaQ15
import Derived.Test.YtooofofeihkpcaaQ8
set_option linter.unusedSimpArgs false
set_option linter.unusedSectionVars false
/- Plain facts that all the proofs share. -/
namespace Go.Proofs.Ytooofofeihkpcaa.Pure
open Go.RowKit Go.Proofs.Ytooofofeihkpcaa.Q Go.Proofs.YtooofofeihkpcaaW.PrintWords Go.Proofs.YtooofofeihkpcaaW.PrintLast

theorem w64 {x : Int} (h0 : -9223372036854775808 ≤ x) (h1 : x ≤ 9223372036854775807) : wrap64 x = x := by unfold wrap64; omega
theorem rd_get (l : List Int) (i : Nat) (h : i < l.length) : rd l (i : Int) = l[i] := by simp [rd, h]
theorem drop_cons {α : Type} (l : List α) (i : Nat) (h : i < l.length) : l.drop i = l[i] :: l.drop (i + 1) := List.drop_eq_getElem_cons h
def iota (m : Int) : Nat → List Int
 | 0 => []
 | d + 1 => m :: iota (m + 1) d
end Go.Proofs.Ytooofofeihkpcaa.Pure
/- A number between two others. -/
namespace Go.Proofs.Ytooofofeihkpcaa.Pure
open Go.RowKit Go.Proofs.Ytooofofeihkpcaa.Q Go.Proofs.YtooofofeihkpcaaW.PrintWords Go.Proofs.YtooofofeihkpcaaW.PrintLast
theorem l01In_eq (a b c : Int) : spec_l01In.f a b c = some (decide (b ≤ a ∧ a ≤ c)) := by
 unfold spec_l01In.f
 by_cases h : a ≥ b
 ·rw [if_pos h]; congr 1; exact decide_eq_decide.mpr ⟨fun h2 => ⟨h, h2⟩, fun h2 => h2.2⟩
 ·rw [if_neg h, decide_eq_false (fun h2 => h h2.1)]
end Go.Proofs.Ytooofofeihkpcaa.Pure
/- Grids: what the program and the reference call right, and a free cell. -/
namespace Go.Proofs.Ytooofofeihkpcaa.Pure
open Go.RowKit Go.Proofs.Ytooofofeihkpcaa.Q Go.Proofs.YtooofofeihkpcaaW.PrintWords Go.Proofs.YtooofofeihkpcaaW.PrintLast
def Kind (c : Int) : Prop := c = 46 ∨ c = 35 ∨ (97 ≤ c ∧ c ≤ 102) ∨ (65 ≤ c ∧ c ≤ 70)
theorem kind_eq (c : Int) : ∃ b, spec_l02Kind.f c = some b ∧ (b = true ↔ Kind c) := by
 unfold spec_l02Kind.f Kind
 by_cases h1 : c = 46
 ·exact ⟨true, by rw [if_pos h1], by simp [h1]⟩
 ·by_cases h2 : c = 35
  ·exact ⟨true, by rw [if_neg h1, if_pos h2], by simp [h2]⟩
  ·by_cases h3 : c ≥ 97
   ·by_cases h4 : c ≤ 102
    ·exact ⟨true, by rw [if_neg h1, if_neg h2, if_pos h3, if_pos h4], ⟨fun _ => by omega, fun _ => rfl⟩⟩
    ·refine ⟨decide (c ≤ 70), by rw [if_neg h1, if_neg h2, if_pos h3, if_neg h4, if_pos (by omega)], ⟨fun h => (by have := of_decide_eq_true h; omega), fun h => decide_eq_true (by omega)⟩⟩
   ·by_cases h5 : c ≥ 65
    ·exact ⟨decide (c ≤ 70), by rw [if_neg h1, if_neg h2, if_neg h3, if_pos h5], ⟨fun h => (by have := of_decide_eq_true h; omega), fun h => decide_eq_true (by omega)⟩⟩
    ·exact ⟨false, by rw [if_neg h1, if_neg h2, if_neg h3, if_neg h5], ⟨fun h => (by cases h), fun h => (by omega)⟩⟩
def Gok (a b : Int) (s : ByteArray) : Prop := 1 ≤ a ∧ a ≤ 8 ∧ 1 ≤ b ∧ b ≤ 8 ∧ (s.size : Int) = a * b ∧ ∀ i : Nat, i < s.size → Kind (bt s (i : Int))
theorem Gok_size {a b : Int} {s : ByteArray} (h : Gok a b s) : s.size ≤ 64 := by
 obtain ⟨h1, h2, h3, h4, h5, _⟩ := h
 have : a * b ≤ 8 * 8 := Int.mul_le_mul h2 h4 (by omega) (by omega)
 omega
theorem implKind_eq (c : Int) (b : Bool) (hb : b = true ↔ Kind c) (X : Option Bool) : (if c = 46 then X else (if c = 35 then X else (if c < 97 then (if c < 65 then (some false) else (if c > 70 then (some false) else X)) else (if c > 102 then (if c < 65 then (some false) else (if c > 70 then (some false) else X)) else X)))) = (if b = true then X else some false) := by
 unfold Kind at hb
 cases b with
 | true =>
  have h := hb.mp rfl
  rw [if_pos rfl]
  repeat' split
  all_goals first | rfl | (exfalso; omega)
 | false =>
  have h : ¬ (c = 46 ∨ c = 35 ∨ (97 ≤ c ∧ c ≤ 102) ∨ (65 ≤ c ∧ c ≤ 70)) := fun h => absurd (hb.mpr h) Bool.false_ne_true
  rw [if_neg Bool.false_ne_true]
  repeat' split
  all_goals first | rfl | (exfalso; omega)
theorem gridOk_l0 (a b : Int) (s : ByteArray) (hs : s.size ≤ 1048576) : ∀ (d i : Nat), i + d = s.size → ∃ g K, (∀ k, K ≤ k → spec_GridOk.l0 k (i : Int) a b s = some g ∧ impl_GridOk.l0 k (i : Int) a b s = some g) ∧ (g = true ↔ ∀ j : Nat, i ≤ j → j < s.size → Kind (bt s (j : Int)))
 | 0, i, hi => by
  refine ⟨true, 1, fun k hk => ?_, ⟨fun _ j h1 h2 => by omega, fun _ => rfl⟩⟩
  obtain ⟨k, rfl⟩ : ∃ m, k = m + 1 := ⟨k - 1, by omega⟩
  have e1 : ¬ (i : Int) < (s.size : Int) := by omega
  simp only [spec_GridOk.l0, impl_GridOk.l0, e1, reduceIte, and_self]
 | d + 1, i, hi => by
  obtain ⟨g, K, h, hg⟩ := gridOk_l0 a b s hs d (i + 1) (by omega)
  have e1 : (i : Int) < (s.size : Int) := by omega
  have e2 : (0 : Int) ≤ i := by omega
  have e9 : wrap64 ((i : Int) + 1) = ((i + 1 : Nat) : Int) := by rw [w64 (by omega) (by omega)]; rfl
  obtain ⟨q, hq, hqk⟩ := kind_eq (bt s (i : Int))
  have hstep : (∀ j : Nat, i ≤ j → j < s.size → Kind (bt s (j : Int))) ↔ Kind (bt s (i : Int)) ∧ ∀ j : Nat, i + 1 ≤ j → j < s.size → Kind (bt s (j : Int)) := by
   constructor
   ·exact fun h => ⟨h i (Nat.le_refl _) (by omega), fun j h1 h2 => h j (by omega) h2⟩
   ·rintro ⟨h0, h⟩ j h1 h2
    rcases Nat.eq_or_lt_of_le h1 with e | e
    ·subst e; exact h0
    ·exact h j e h2
  rw [hstep]
  cases q with
  | true =>
   refine ⟨g, K + 1, fun k hk => ?_, by rw [hg]; exact ⟨fun h => ⟨hqk.mp rfl, h⟩, fun h => h.2⟩⟩
   obtain ⟨k, rfl⟩ : ∃ m, k = m + 1 := ⟨k - 1, by omega⟩
   obtain ⟨q1, q2⟩ := h k (by omega)
   simp only [spec_GridOk.l0, impl_GridOk.l0]
   rw [if_pos e1, if_pos e2, if_pos e1, if_pos e2, hq, e9, implKind_eq _ true hqk]
   simp only [Option.bind_some, reduceIte]
   exact ⟨q1, q2⟩
  | false =>
   refine ⟨false, 1, fun k hk => ?_, ⟨fun h => (by cases h), fun h => absurd (hqk.mpr h.1) (by decide)⟩⟩
   obtain ⟨k, rfl⟩ : ∃ m, k = m + 1 := ⟨k - 1, by omega⟩
   simp only [spec_GridOk.l0, impl_GridOk.l0]
   rw [if_pos e1, if_pos e2, if_pos e1, if_pos e2, hq, e9, implKind_eq _ false hqk]
   simp only [Option.bind_some, Bool.false_eq_true, reduceIte, and_self]
theorem gridOk_ev (a b : Int) (s : ByteArray) (hs : s.size ≤ 1048576) : ∃ g K, (∀ k, K ≤ k → spec_GridOk.f k a b s = some g ∧ impl_GridOk.f k a b s = some g) ∧ (g = true ↔ Gok a b s) := by
 obtain ⟨g, K, h, hg⟩ := gridOk_l0 a b s hs s.size 0 (by omega)
 by_cases ha : 1 ≤ a ∧ a ≤ 8
 ·by_cases hb : 1 ≤ b ∧ b ≤ 8
  ·have hm : wrap64 (a * b) = a * b := by
    have h1 : a * b ≤ 8 * 8 := Int.mul_le_mul ha.2 hb.2 (by omega) (by omega)
    have h2 : 0 ≤ a * b := Int.mul_nonneg (by omega) (by omega)
    exact w64 (by omega) (by omega)
   have a1 : ¬ a < 1 := by omega
   have a2 : ¬ a > 8 := by omega
   have b1 : ¬ b < 1 := by omega
   have b2 : ¬ b > 8 := by omega
   by_cases hsz : (s.size : Int) = a * b
   ·have e : ((s.size : Int) != wrap64 (a * b)) = false := by rw [hm]; simp [hsz]
    refine ⟨g, K + 1, fun k hk => ?_, ?_⟩
    ·obtain ⟨k, rfl⟩ : ∃ m, k = m + 1 := ⟨k - 1, by omega⟩
     unfold spec_GridOk.f impl_GridOk.f
     simp only [l01In_eq, ha, hb, a1, a2, b1, b2, e, and_self, decide_true, Option.bind_some, reduceIte]
     simp only [spec_GridOk.j0, impl_GridOk.j0, Bool.false_eq_true, reduceIte]
     exact h k (by omega)
    ·rw [hg]
     exact ⟨fun h => ⟨ha.1, ha.2, hb.1, hb.2, hsz, fun i hi => h i (Nat.zero_le _) hi⟩, fun h j _ hj => h.2.2.2.2.2 j hj⟩
   ·have e : ((s.size : Int) != wrap64 (a * b)) = true := by rw [hm]; simp [hsz]
    refine ⟨false, 1, fun k hk => ?_, ⟨fun h => (by cases h), fun h => absurd h.2.2.2.2.1 hsz⟩⟩
    obtain ⟨k, rfl⟩ : ∃ m, k = m + 1 := ⟨k - 1, by omega⟩
    unfold spec_GridOk.f impl_GridOk.f
    simp only [l01In_eq, ha, hb, a1, a2, b1, b2, e, and_self, decide_true, Option.bind_some, reduceIte]
    simp only [spec_GridOk.j0, impl_GridOk.j0, reduceIte, and_self]
  ·refine ⟨false, 1, fun k hk => ?_, ⟨fun h => (by cases h), fun h => absurd ⟨h.2.2.1, h.2.2.2.1⟩ hb⟩⟩
   obtain ⟨k, rfl⟩ : ∃ m, k = m + 1 := ⟨k - 1, by omega⟩
   have a1 : ¬ a < 1 := by omega
   have a2 : ¬ a > 8 := by omega
   unfold spec_GridOk.f impl_GridOk.f
   simp only [l01In_eq, ha, hb, a1, a2, and_self, decide_true, decide_false, Option.bind_some, Bool.false_eq_true, reduceIte]
   by_cases b1 : b < 1
   ·simp only [b1, spec_GridOk.j0, impl_GridOk.j0, reduceIte, and_self]
   ·have b2 : b > 8 := by omega
    simp only [b1, b2, spec_GridOk.j0, impl_GridOk.j0, reduceIte, and_self]
 ·refine ⟨false, 1, fun k hk => ?_, ⟨fun h => (by cases h), fun h => absurd ⟨h.1, h.2.1⟩ ha⟩⟩
  obtain ⟨k, rfl⟩ : ∃ m, k = m + 1 := ⟨k - 1, by omega⟩
  unfold spec_GridOk.f impl_GridOk.f
  simp only [l01In_eq, ha, decide_false, Option.bind_some, Bool.false_eq_true, reduceIte]
  by_cases a1 : a < 1
  ·simp only [a1, spec_GridOk.j0, impl_GridOk.j0, reduceIte, and_self]
  ·have a2 : a > 8 := by omega
   simp only [a1, a2, spec_GridOk.j0, impl_GridOk.j0, reduceIte, and_self]
def Fr (s : ByteArray) (c : Int) : Prop := 0 ≤ c ∧ c < (s.size : Int) ∧ bt s c ≠ 35
instance (s : ByteArray) (c : Int) : Decidable (Fr s c) := by unfold Fr; exact inferInstance
theorem fr_nest (s : ByteArray) (c : Int) : (if c ≥ 0 then (if c < (s.size : Int) then (if 0 ≤ c then (some ((bt s c) != 35)) else (none)) else (some false)) else (some false)) = some (decide (Fr s c)) := by
 by_cases h1 : c ≥ 0
 ·by_cases h2 : c < (s.size : Int)
  ·rw [if_pos h1, if_pos h2, if_pos h1]
   by_cases h3 : bt s c = 35
   ·rw [decide_eq_false (fun h : Fr s c => h.2.2 h3), h3]; rfl
   ·rw [decide_eq_true (show Fr s c from ⟨h1, h2, h3⟩)]
    congr 1
    simpa using h3
  ·rw [if_pos h1, if_neg h2, decide_eq_false (fun h : Fr s c => h2 h.2.1)]
 ·rw [if_neg h1, decide_eq_false (fun h : Fr s c => h1 h.1)]
theorem isFree_eq (a b : Int) (s : ByteArray) (c : Int) : impl_isFree.f a b s c = some (decide (Fr s c)) := fr_nest s c
theorem specFreeAt_ev (a b : Int) (s : ByteArray) (hs : s.size ≤ 1048576) (c : Int) : ∃ g K, (∀ k, K ≤ k → spec_FreeAt.f k a b s c = some g) ∧ (g = true ↔ Gok a b s ∧ Fr s c) := by
 obtain ⟨g, K, h, hg⟩ := gridOk_ev a b s hs
 cases g with
 | false =>
  refine ⟨false, K, fun k hk => ?_, ⟨fun h => (by cases h), fun h2 => absurd (hg.mpr h2.1) (by decide)⟩⟩
  unfold spec_FreeAt.f
  rw [(h k hk).1]
  rfl
 | true =>
  refine ⟨decide (Fr s c), K, fun k hk => ?_, ⟨fun h => ⟨hg.mp rfl, of_decide_eq_true h⟩, fun h => decide_eq_true h.2⟩⟩
  unfold spec_FreeAt.f
  rw [(h k hk).1]
  simp only [Option.bind_some, reduceIte, isFree_eq]
  exact fr_nest s c
end Go.Proofs.Ytooofofeihkpcaa.Pure
/- Grids and their free cells: what the program and the reference answer. -/
namespace Go.Proofs.Ytooofofeihkpcaa.Pure
open Go.RowKit Go.Proofs.Ytooofofeihkpcaa.Q Go.Proofs.YtooofofeihkpcaaW.PrintWords Go.Proofs.YtooofofeihkpcaaW.PrintLast
def fr (s : ByteArray) : Nat → Nat → List Int
 | 0, _ => []
 | d + 1, i => if Fr s (i : Int) then (i : Int) :: fr s d (i + 1) else fr s d (i + 1)
theorem fr_mem (s : ByteArray) (c : Int) : ∀ d i, c ∈ fr s d i ↔ (i : Int) ≤ c ∧ c < (i : Int) + d ∧ Fr s c
 | 0, i => by simp [fr]; omega
 | d + 1, i => by
  unfold fr
  by_cases h : Fr s (i : Int)
  ·rw [if_pos h, List.mem_cons, fr_mem s c d (i + 1)]
   constructor
   ·rintro (e | ⟨h1, h2, h3⟩)
    ·subst e; exact ⟨Int.le_refl _, by omega, h⟩
    ·exact ⟨by omega, by omega, h3⟩
   ·rintro ⟨h1, h2, h3⟩
    by_cases e : c = (i : Int)
    ·exact .inl e
    ·exact .inr ⟨by omega, by omega, h3⟩
  ·rw [if_neg h, fr_mem s c d (i + 1)]
   constructor
   ·rintro ⟨h1, h2, h3⟩; exact ⟨by omega, by omega, h3⟩
   ·rintro ⟨h1, h2, h3⟩
    by_cases e : c = (i : Int)
    ·subst e; exact absurd h3 h
    ·exact ⟨by omega, by omega, h3⟩
open Classical in
noncomputable def frees (a b : Int) (s : ByteArray) : List Int := if Gok a b s then fr s s.size 0 else []
theorem frees_mem (a b : Int) (s : ByteArray) (c : Int) : c ∈ frees a b s ↔ Gok a b s ∧ Fr s c := by
 unfold frees
 split
 ·rename_i h
  rw [fr_mem]
  exact ⟨fun h2 => ⟨h, h2.2.2⟩, fun h2 => ⟨by have := h2.2.1; omega, by have := h2.2.2.1; omega, h2.2⟩⟩
 ·rename_i h
  simp [h]
theorem implFree_go (a b : Int) (s : ByteArray) (hg : Gok a b s) : ∀ (d i : Nat) (acc : List Int), i + d = s.size → acc.length ≤ i → impl_FreeCells.go a b s d i acc = some (acc ++ fr s d i)
 | 0, i, acc, hi, ha => by simp [impl_FreeCells.go, fr]
 | d + 1, i, acc, hi, ha => by
  have hsz := Gok_size hg
  have hk := hg.2.2.2.2.2 i (by omega)
  have hb : bt s (i : Int) = ((s[i]'(by omega)).toNat : Int) := by
   unfold bt
   rw [dif_pos (by rw [Int.toNat_natCast]; omega)]
   simp
  have hlt : (s[i]'(by omega)).toNat < 128 := by
   unfold Kind at hk
   rw [hb] at hk
   omega
  unfold impl_FreeCells.go fr
  rw [dif_pos (by omega), if_pos hlt, isFree_eq, Option.bind_some]
  by_cases c : Fr s (i : Int)
  ·rw [decide_eq_true c, if_pos rfl, if_pos (by omega), if_pos c, implFree_go a b s hg d (i + 1) _ (by omega) (by simp; omega)]
   simp
  ·rw [decide_eq_false c, if_neg (by decide), if_neg c, implFree_go a b s hg d (i + 1) _ (by omega) (by omega)]
theorem implFree_ev (a b : Int) (s : ByteArray) (hs : s.size ≤ 1048576) : ∃ K, ∀ k, K ≤ k → impl_FreeCells.f k a b s = some (frees a b s) := by
 obtain ⟨g, K, h, hg⟩ := gridOk_ev a b s hs
 refine ⟨K, fun k hk => ?_⟩
 unfold impl_FreeCells.f frees
 rw [(h k hk).2, Option.bind_some]
 cases g with
 | true =>
  have hG := hg.mp rfl
  rw [if_pos rfl, if_pos hG, implFree_go a b s hG s.size 0 [] (by omega) (by simp)]
  simp
 | false =>
  rw [if_neg (by decide), if_neg (fun h => absurd (hg.mpr h) (by decide))]
end Go.Proofs.Ytooofofeihkpcaa.Pure
/- Starts and goals: what the program and the reference ask of them. -/
namespace Go.Proofs.Ytooofofeihkpcaa.Pure
open Go.RowKit Go.Proofs.Ytooofofeihkpcaa.Q Go.Proofs.YtooofofeihkpcaaW.PrintWords Go.Proofs.YtooofofeihkpcaaW.PrintLast
def AscFrom (l : List Int) (i : Nat) : Prop := ∀ j : Nat, i ≤ j → j < l.length → 0 < j → rd l ((j : Int) - 1) < rd l (j : Int)
def FrFrom (s : ByteArray) (l : List Int) (i : Nat) : Prop := ∀ j : Nat, i ≤ j → j < l.length → Fr s (rd l (j : Int))
theorem AscFrom_step (l : List Int) (i : Nat) (hi : i < l.length) : AscFrom l i ↔ (0 < i → rd l ((i : Int) - 1) < rd l (i : Int)) ∧ AscFrom l (i + 1) := by
 constructor
 ·exact fun h => ⟨h i (Nat.le_refl _) hi, fun j h1 => h j (by omega)⟩
 ·rintro ⟨h0, h⟩ j h1 h2 h3
  rcases Nat.eq_or_lt_of_le h1 with e | e
  ·subst e; exact h0 h3
  ·exact h j e h2 h3
theorem FrFrom_step (s : ByteArray) (l : List Int) (i : Nat) (hi : i < l.length) : FrFrom s l i ↔ Fr s (rd l (i : Int)) ∧ FrFrom s l (i + 1) := by
 constructor
 ·exact fun h => ⟨h i (Nat.le_refl _) hi, fun j h1 => h j (by omega)⟩
 ·rintro ⟨h0, h⟩ j h1 h2
  rcases Nat.eq_or_lt_of_le h1 with e | e
  ·subst e; exact h0
  ·exact h j e h2
theorem specCells_l0 (a b : Int) (s : ByteArray) (hs : s.size ≤ 1048576) (hG : Gok a b s) (l : List Int) (hl : l.length ≤ 1048576) : ∀ (d i : Nat), i + d = l.length → ∃ g K, (∀ k, K ≤ k → spec_l10Cells.l0 k l (i : Int) a b s = some g) ∧ (g = true ↔ FrFrom s l i ∧ AscFrom l i)
 | 0, i, hi => by
  refine ⟨true, 1, fun k hk => ?_, ⟨fun _ => ⟨fun j h1 h2 => by omega, fun j h1 h2 => by omega⟩, fun _ => rfl⟩⟩
  obtain ⟨k, rfl⟩ : ∃ m, k = m + 1 := ⟨k - 1, by omega⟩
  simp only [spec_l10Cells.l0]
  rw [if_neg (by omega)]
 | d + 1, i, hi => by
  obtain ⟨g, K, h, hg⟩ := specCells_l0 a b s hs hG l hl d (i + 1) (by omega)
  obtain ⟨q, K1, h1, hq⟩ := specFreeAt_ev a b s hs (rd l (i : Int))
  rw [FrFrom_step s l i (by omega), AscFrom_step l i (by omega)]
  have e9 : wrap64 ((i : Int) + 1) = ((i + 1 : Nat) : Int) := by rw [w64 (by omega) (by omega)]; rfl
  have e8 : wrap64 ((i : Int) - 1) = (i : Int) - 1 := w64 (by omega) (by omega)
  cases q with
  | false =>
   refine ⟨false, K1 + 1, fun k hk => ?_, ⟨fun h => (by cases h), fun h => absurd (hq.mpr ⟨hG, h.1.1⟩) (by decide)⟩⟩
   obtain ⟨k, rfl⟩ : ∃ m, k = m + 1 := ⟨k - 1, by omega⟩
   simp only [spec_l10Cells.l0]
   rw [if_pos (by omega), if_pos (by omega), h1 k (by omega), Option.bind_some, if_neg (by decide)]
  | true =>
   have hfr := (hq.mp rfl).2
   by_cases c : 0 < i
   ·by_cases c2 : rd l ((i : Int) - 1) ≥ rd l (i : Int)
    ·refine ⟨false, K1 + 1, fun k hk => ?_, ⟨fun h => (by cases h), fun h => absurd (h.2.1 c) (by omega)⟩⟩
     obtain ⟨k, rfl⟩ : ∃ m, k = m + 1 := ⟨k - 1, by omega⟩
     simp only [spec_l10Cells.l0]
     rw [if_pos (by omega), if_pos (by omega), h1 k (by omega), Option.bind_some, if_pos rfl, if_pos (by omega), e8, if_pos (by omega), if_pos (by omega), if_pos c2]
    ·refine ⟨g, K1 + K + 1, fun k hk => ?_, by rw [hg]; exact ⟨fun h => ⟨⟨hfr, h.1⟩, ⟨fun _ => by omega, h.2⟩⟩, fun h => ⟨h.1.2, h.2.2⟩⟩⟩
     obtain ⟨k, rfl⟩ : ∃ m, k = m + 1 := ⟨k - 1, by omega⟩
     simp only [spec_l10Cells.l0]
     rw [if_pos (by omega), if_pos (by omega), h1 k (by omega), Option.bind_some, if_pos rfl, if_pos (by omega), e8, if_pos (by omega), if_pos (by omega), if_neg c2, e9]
     exact h k (by omega)
   ·refine ⟨g, K1 + K + 1, fun k hk => ?_, by rw [hg]; exact ⟨fun h => ⟨⟨hfr, h.1⟩, ⟨fun h2 => absurd h2 c, h.2⟩⟩, fun h => ⟨h.1.2, h.2.2⟩⟩⟩
    obtain ⟨k, rfl⟩ : ∃ m, k = m + 1 := ⟨k - 1, by omega⟩
    simp only [spec_l10Cells.l0]
    rw [if_pos (by omega), if_pos (by omega), h1 k (by omega), Option.bind_some, if_pos rfl, if_neg (by omega), e9]
    exact h k (by omega)
theorem implAsc_l0 (l : List Int) (hl : l.length ≤ 1048576) : ∀ (d i : Nat), 1 ≤ i → (i + d = l.length ∨ (d = 0 ∧ l.length ≤ i)) → ∃ g K, (∀ k, K ≤ k → impl_isAscending.l0 k l (i : Int) = some g) ∧ (g = true ↔ AscFrom l i)
 | 0, i, h1, hi => by
  refine ⟨true, 1, fun k hk => ?_, ⟨fun _ j h1 h2 => by omega, fun _ => rfl⟩⟩
  obtain ⟨k, rfl⟩ : ∃ m, k = m + 1 := ⟨k - 1, by omega⟩
  simp only [impl_isAscending.l0]
  rw [if_neg (by omega)]
 | d + 1, i, h1, hi => by
  obtain ⟨g, K, h, hg⟩ := implAsc_l0 l hl d (i + 1) (by omega) (by omega)
  rw [AscFrom_step l i (by omega)]
  have e9 : wrap64 ((i : Int) + 1) = ((i + 1 : Nat) : Int) := by rw [w64 (by omega) (by omega)]; rfl
  have e8 : wrap64 ((i : Int) - 1) = (i : Int) - 1 := w64 (by omega) (by omega)
  by_cases c2 : rd l ((i : Int) - 1) ≥ rd l (i : Int)
  ·refine ⟨false, 1, fun k hk => ?_, ⟨fun h => (by cases h), fun h => absurd (h.1 (by omega)) (by omega)⟩⟩
   obtain ⟨k, rfl⟩ : ∃ m, k = m + 1 := ⟨k - 1, by omega⟩
   simp only [impl_isAscending.l0]
   rw [if_pos (by omega), e8, if_pos (by omega), if_pos (by omega), if_pos (by omega), if_pos c2]
  ·refine ⟨g, K + 1, fun k hk => ?_, by rw [hg]; exact ⟨fun h => ⟨fun _ => by omega, h⟩, fun h => h.2⟩⟩
   obtain ⟨k, rfl⟩ : ∃ m, k = m + 1 := ⟨k - 1, by omega⟩
   simp only [impl_isAscending.l0]
   rw [if_pos (by omega), e8, if_pos (by omega), if_pos (by omega), if_pos (by omega), if_neg c2, e9]
   exact h k (by omega)
theorem AscFrom_one (l : List Int) : AscFrom l 1 ↔ AscFrom l 0 := ⟨fun h j _ h2 h3 => h j (by omega) h2 h3, fun h j _ h2 h3 => h j (by omega) h2 h3⟩
theorem implAsc_ev (l : List Int) (hl : l.length ≤ 1048576) : ∃ g K, (∀ k, K ≤ k → impl_isAscending.f k l = some g) ∧ (g = true ↔ AscFrom l 0) := by
 obtain ⟨D, hD⟩ : ∃ D, 1 + D = l.length ∨ (D = 0 ∧ l.length ≤ 1) := ⟨l.length - 1, by omega⟩
 obtain ⟨g, K, h, hg⟩ := implAsc_l0 l hl D 1 (by omega) hD
 exact ⟨g, K, fun k hk => h k hk, by rw [hg, AscFrom_one]⟩
theorem FrFrom_all (s : ByteArray) (l : List Int) : FrFrom s l 0 ↔ ∀ x ∈ l, Fr s x := by
 constructor
 ·intro h x hx
  obtain ⟨i, hi, e⟩ := List.getElem_of_mem hx
  have := h i (Nat.zero_le _) hi
  rwa [rd_get l i hi, e] at this
 ·intro h j _ hj
  rw [rd_get l j hj]
  exact h _ (List.getElem_mem _)
theorem areFree_ev (a b : Int) (s : ByteArray) (hs : s.size ≤ 1048576) (l : List Int) : ∃ g K, (∀ k, K ≤ k → impl_areFree.f k a b s l = some g) ∧ (g = true ↔ Gok a b s ∧ FrFrom s l 0) := by
 obtain ⟨q, K, h, hq⟩ := gridOk_ev a b s hs
 cases q with
 | false =>
  refine ⟨false, K, fun k hk => ?_, ⟨fun h => (by cases h), fun h => absurd (hq.mpr h.1) (by decide)⟩⟩
  unfold impl_areFree.f
  rw [(h k hk).2, Option.bind_some, if_neg (by decide)]
 | true =>
  refine ⟨!(l.any (hof_areFree.p s)), K, fun k hk => ?_, ?_⟩
  ·unfold impl_areFree.f hof_areFree.f
   rw [(h k hk).2, Option.bind_some, if_pos rfl, Option.bind_some]
  ·rw [FrFrom_all, Bool.not_eq_true', List.any_eq_false]
   have hp : ∀ x, ¬ (hof_areFree.p s x = true) ↔ Fr s x := fun x => by
    unfold hof_areFree.p Fr
    simp
   exact ⟨fun h => ⟨hq.mp rfl, fun x hx => (hp x).mp (h x hx)⟩, fun h x hx => (hp x).mpr (h.2 x hx)⟩
end Go.Proofs.Ytooofofeihkpcaa.Pure
/- The cells around a cell: what the program's and the reference's lists hold. -/
namespace Go.Proofs.Ytooofofeihkpcaa.Pure
open Go.RowKit Go.Proofs.Ytooofofeihkpcaa.Q Go.Proofs.YtooofofeihkpcaaW.PrintWords Go.Proofs.YtooofofeihkpcaaW.PrintLast
def Adj (a : Int) (s : ByteArray) (c x : Int) : Prop := Fr s c ∧ Fr s x ∧ (x = c - a ∨ (x = c - 1 ∧ 0 < c % a) ∨ (x = c + 1 ∧ c % a < a - 1) ∨ x = c + a)
theorem Fr_lt {s : ByteArray} {c : Int} (h : Fr s c) : 0 ≤ c ∧ c < (s.size : Int) := ⟨h.1, h.2.1⟩
theorem around_j3 (a b : Int) (s : ByteArray) (c : Int) (l : List Int) (t : Bool) (hc : 0 ≤ c) (hc1 : c ≤ 64) (ha : 1 ≤ a) (ha1 : a ≤ 8) (hl : l.length ≤ 10) (k : Nat) :
  impl_around.j3 (k + 1) c l t a b s = some (l ++ (if t = true then [c + 1] else []) ++ (if Fr s (c + a) then [c + a] else [])) := by
 have e1 : wrap64 (c + 1) = c + 1 := w64 (by omega) (by omega)
 have e2 : wrap64 (c + a) = c + a := w64 (by omega) (by omega)
 cases t with
 | true =>
  simp only [impl_around.j3, if_pos, e1, e2, isFree_eq, Option.bind_some, if_pos (show l.length < 17592186044416 by omega)]
  by_cases h : Fr s (c + a)
  ·rw [decide_eq_true h, if_pos rfl, if_pos h, if_pos (by simp; omega)]
  ·rw [decide_eq_false h, if_neg h]; simp
 | false =>
  simp only [impl_around.j3, Bool.false_eq_true, if_false, e1, e2, isFree_eq, Option.bind_some]
  by_cases h : Fr s (c + a)
  ·rw [decide_eq_true h, if_pos rfl, if_pos h, if_pos (by omega)]; simp
  ·rw [decide_eq_false h, if_neg h]; simp
theorem around_j2 (a b : Int) (s : ByteArray) (c : Int) (l : List Int) (hc : 0 ≤ c) (hc1 : c ≤ 64) (ha : 1 ≤ a) (ha1 : a ≤ 8) (hl : l.length ≤ 10) (k : Nat) :
  impl_around.j2 (k + 2) c l a b s = some (l ++ (if c % a < a - 1 ∧ Fr s (c + 1) then [c + 1] else []) ++ (if Fr s (c + a) then [c + a] else [])) := by
 have e1 : wrap64 (c + 1) = c + 1 := w64 (by omega) (by omega)
 have e2 : wrap64 (a - 1) = a - 1 := w64 (by omega) (by omega)
 have e3 : Int.tmod c a = c % a := Int.tmod_eq_emod_of_nonneg hc
 rw [impl_around.j2, if_neg (by omega), e1, e2, e3]
 by_cases h : c % a < a - 1
 ·rw [if_pos h, isFree_eq, Option.bind_some, around_j3 a b s c l _ hc hc1 ha ha1 hl]
  simp [h]
 ·rw [if_neg h, around_j3 a b s c l _ hc hc1 ha ha1 hl]
  simp [h]
theorem around_j1 (a b : Int) (s : ByteArray) (c : Int) (l : List Int) (t : Bool) (hc : 0 ≤ c) (hc1 : c ≤ 64) (ha : 1 ≤ a) (ha1 : a ≤ 8) (hl : l.length ≤ 4) (k : Nat) :
  impl_around.j1 (k + 3) c l t a b s = some (l ++ (if t = true then [c - 1] else []) ++ (if c % a < a - 1 ∧ Fr s (c + 1) then [c + 1] else []) ++ (if Fr s (c + a) then [c + a] else [])) := by
 have e1 : wrap64 (c - 1) = c - 1 := w64 (by omega) (by omega)
 rw [impl_around.j1, e1]
 cases t with
 | true =>
  rw [if_pos rfl, if_pos (by omega), around_j2 a b s c _ hc hc1 ha ha1 (by simp; omega)]
  simp
 | false =>
  rw [if_neg (by decide), around_j2 a b s c _ hc hc1 ha ha1 (by omega)]
  simp
theorem around_j0 (a b : Int) (s : ByteArray) (c : Int) (l : List Int) (hc : 0 ≤ c) (hc1 : c ≤ 64) (ha : 1 ≤ a) (ha1 : a ≤ 8) (hl : l.length ≤ 4) (k : Nat) :
  impl_around.j0 (k + 4) c l a b s = some (l ++ (if 0 < c % a ∧ Fr s (c - 1) then [c - 1] else []) ++ (if c % a < a - 1 ∧ Fr s (c + 1) then [c + 1] else []) ++ (if Fr s (c + a) then [c + a] else [])) := by
 have e1 : wrap64 (c - 1) = c - 1 := w64 (by omega) (by omega)
 have e3 : Int.tmod c a = c % a := Int.tmod_eq_emod_of_nonneg hc
 rw [impl_around.j0, if_neg (by omega), e1, e3]
 by_cases h : c % a > 0
 ·rw [if_pos h, isFree_eq, Option.bind_some, around_j1 a b s c l _ hc hc1 ha ha1 hl]
  simp [h]
 ·rw [if_neg h, around_j1 a b s c l _ hc hc1 ha ha1 hl]
  simp [show ¬ 0 < c % a from h]
theorem mem_opt {x y : Int} (p : Prop) [Decidable p] : x ∈ (if p then [y] else []) ↔ p ∧ x = y := by
 by_cases h : p <;> simp [h]
theorem implAround_ev (a b : Int) (s : ByteArray) (hG : Gok a b s) (c : Int) (hc : Fr s c) : ∃ ns K, (∀ k, K ≤ k → impl_around.f k a b s c = some ns) ∧ (∀ x, x ∈ ns ↔ Adj a s c x) ∧ ns.length ≤ 4 := by
 have hs := Gok_size hG
 obtain ⟨a0, a1, b0, b1, hab, _⟩ := hG
 obtain ⟨c0, c1⟩ := Fr_lt hc
 have e1 : wrap64 (c - a) = c - a := w64 (by omega) (by omega)
 refine ⟨(if Fr s (c - a) then [c - a] else []) ++ (if 0 < c % a ∧ Fr s (c - 1) then [c - 1] else []) ++ (if c % a < a - 1 ∧ Fr s (c + 1) then [c + 1] else []) ++ (if Fr s (c + a) then [c + a] else []), 4, fun k hk => ?_, fun x => ?_, ?_⟩
 ·obtain ⟨k, rfl⟩ : ∃ m, k = m + 4 := ⟨k - 4, by omega⟩
  unfold impl_around.f
  rw [isFree_eq, Option.bind_some, decide_eq_true hc, if_pos rfl, e1, isFree_eq, Option.bind_some]
  by_cases h : Fr s (c - a)
  ·rw [decide_eq_true h, if_pos rfl, if_pos (by simp), around_j0 a b s c _ c0 (by omega) a0 a1 (by simp), if_pos h]; simp
  ·rw [decide_eq_false h, if_neg (by decide), around_j0 a b s c _ c0 (by omega) a0 a1 (by simp), if_neg h]
 ·simp only [List.mem_append, mem_opt]
  unfold Adj
  constructor
  ·rintro (((⟨h, rfl⟩ | ⟨⟨h1, h⟩, rfl⟩) | ⟨⟨h1, h⟩, rfl⟩) | ⟨h, rfl⟩)
   ·exact ⟨hc, h, .inl rfl⟩
   ·exact ⟨hc, h, .inr (.inl ⟨rfl, h1⟩)⟩
   ·exact ⟨hc, h, .inr (.inr (.inl ⟨rfl, h1⟩))⟩
   ·exact ⟨hc, h, .inr (.inr (.inr rfl))⟩
  ·rintro ⟨_, h, (rfl | ⟨rfl, h1⟩ | ⟨rfl, h1⟩ | rfl)⟩
   ·exact .inl (.inl (.inl ⟨h, rfl⟩))
   ·exact .inl (.inl (.inr ⟨⟨h1, h⟩, rfl⟩))
   ·exact .inl (.inr ⟨⟨h1, h⟩, rfl⟩)
   ·exact .inr ⟨h, rfl⟩
 ·by_cases h1 : Fr s (c - a) <;> by_cases h2 : 0 < c % a ∧ Fr s (c - 1) <;> by_cases h3 : c % a < a - 1 ∧ Fr s (c + 1) <;> by_cases h4 : Fr s (c + a) <;> simp [h1, h2, h3, h4]
theorem cellAt_ev (a b : Int) (s : ByteArray) (hG : Gok a b s) (x y : Int) (hx : -10 ≤ x ∧ x ≤ 100) (hy : -10 ≤ y ∧ y ≤ 100) : ∃ K, ∀ k, K ≤ k → spec_CellAt.f k a b s x y = some (if (0 ≤ x ∧ x ≤ a - 1) ∧ (0 ≤ y ∧ y ≤ b - 1) then y * a + x else -1) := by
 have hs := Gok_size hG
 obtain ⟨g0, K0, h0, q0⟩ := gridOk_ev a b s (by omega)
 obtain rfl := q0.mpr hG
 obtain ⟨a0, a1, b0, b1, hab, _⟩ := hG
 refine ⟨K0, fun k hk => ?_⟩
 unfold spec_CellAt.f
 rw [(h0 k hk).1, Option.bind_some, if_pos rfl, w64 (by omega) (by omega), w64 (by omega) (by omega), l01In_eq, Option.bind_some]
 by_cases h1 : 0 ≤ x ∧ x ≤ a - 1
 ·rw [decide_eq_true h1, if_pos rfl, l01In_eq, Option.bind_some]
  by_cases h2 : 0 ≤ y ∧ y ≤ b - 1
  ·have hp0 : 0 ≤ y * a := Int.mul_nonneg h2.1 (by omega)
   have hp1 : y * a ≤ 7 * 8 := Int.mul_le_mul (by omega) a1 (by omega) (by omega)
   rw [decide_eq_true h2, if_pos rfl, if_pos ⟨h1, h2⟩, w64 (x := y * a) (by omega) (by omega), w64 (by omega) (by omega)]
  ·rw [decide_eq_false h2, if_neg (by decide), if_neg (fun h => h2 h.2)]
 ·rw [decide_eq_false h1, if_neg (by decide), if_neg (fun h => h1 h.1)]
theorem around_l0 (a b : Int) (s : ByteArray) (hG : Gok a b s) (v : List Int) (hv : v.length = 4) : ∀ (d i : Nat) (acc : List Int), i + d = 4 → acc.length ≤ 10 - d → ∃ K, ∀ k, K ≤ k → spec_Around.l0 k acc v (i : Int) a b s = some (acc ++ (v.drop i).filter (fun x => decide (Fr s x)))
 | 0, i, acc, hi, _ => by
  refine ⟨1, fun k hk => ?_⟩
  obtain ⟨k, rfl⟩ : ∃ m, k = m + 1 := ⟨k - 1, by omega⟩
  rw [spec_Around.l0, if_neg (by omega), List.drop_of_length_le (by omega)]; simp
 | d + 1, i, acc, hi, hl => by
  have hs := Gok_size hG
  obtain ⟨g, K1, h1, q1⟩ := specFreeAt_ev a b s (by omega) (rd v (i : Int))
  have e : wrap64 ((i : Int) + 1) = ((i + 1 : Nat) : Int) := by rw [w64 (by omega) (by omega)]; rfl
  by_cases hf : Fr s (rd v (i : Int))
  ·obtain rfl := q1.mpr ⟨hG, hf⟩
   obtain ⟨K2, h2⟩ := around_l0 a b s hG v hv d (i + 1) (acc ++ [rd v (i : Int)]) (by omega) (by simp; omega)
   refine ⟨K1 + K2 + 1, fun k hk => ?_⟩
   obtain ⟨k, rfl⟩ : ∃ m, k = m + 1 := ⟨k - 1, by omega⟩
   rw [spec_Around.l0, if_pos (by omega), if_pos (by omega), if_pos (by omega), h1 k (by omega), Option.bind_some, if_pos rfl, if_pos (by omega), e, h2 k (by omega), drop_cons v i (by omega), List.filter_cons_of_pos (by rw [← rd_get v i (by omega)]; exact decide_eq_true hf), rd_get v i (by omega)]
   simp
  ·have hg : g = false := by
    cases g with
    | false => rfl
    | true => exact absurd (q1.mp rfl).2 hf
   subst hg
   obtain ⟨K2, h2⟩ := around_l0 a b s hG v hv d (i + 1) acc (by omega) (by omega)
   refine ⟨K1 + K2 + 1, fun k hk => ?_⟩
   obtain ⟨k, rfl⟩ : ∃ m, k = m + 1 := ⟨k - 1, by omega⟩
   rw [spec_Around.l0, if_pos (by omega), if_pos (by omega), if_pos (by omega), h1 k (by omega), Option.bind_some, if_neg (by decide), e, h2 k (by omega), drop_cons v i (by omega), List.filter_cons_of_neg (by rw [← rd_get v i (by omega)]; simpa using hf)]
theorem specAround_ev (a b : Int) (s : ByteArray) (hG : Gok a b s) (c : Int) (hc : Fr s c) : ∃ ns K, (∀ k, K ≤ k → spec_Around.f k a b s c = some ns) ∧ (∀ x, x ∈ ns ↔ Adj a s c x) ∧ ns.length ≤ 4 := by
 have hs := Gok_size hG
 obtain ⟨g0, K0, h0, q0⟩ := gridOk_ev a b s (by omega)
 obtain rfl := q0.mpr hG
 obtain ⟨g1, K1, h1, q1⟩ := specFreeAt_ev a b s (by omega) c
 obtain rfl := q1.mpr ⟨hG, hc⟩
 obtain ⟨a0, a1, b0, b1, hab, _⟩ := id hG
 obtain ⟨c0, c1⟩ := Fr_lt hc
 have m0 := Int.emod_nonneg c (show a ≠ 0 by omega)
 have m1 := Int.emod_lt_of_pos c (show 0 < a by omega)
 have y0 := Int.ediv_nonneg c0 (show 0 ≤ a by omega)
 have y1 : c / a < b := Int.ediv_lt_of_lt_mul (by omega) (by rw [Int.mul_comm]; omega)
 have hd : c / a * a + c % a = c := by rw [Int.mul_comm]; exact Int.mul_ediv_add_emod c a
 have e1 : Int.tmod c a = c % a := Int.tmod_eq_emod_of_nonneg c0
 have e2 : Int.tdiv c a = c / a := Int.tdiv_eq_ediv_of_nonneg c0
 have hsp : ∀ k, K0 ≤ k → spec_SpotOf.f k a b s c = some (c % a, c / a) := fun k hk => by
  unfold spec_SpotOf.f
  rw [(h0 k hk).1, Option.bind_some, if_pos rfl, if_neg (by omega), if_neg (by omega), if_neg (by omega), e1, e2, w64 (by omega) (by omega)]
 generalize hX : c % a = X at *
 generalize hY : c / a = Y at *
 have w1 : wrap64 (Y - 1) = Y - 1 := w64 (by omega) (by omega)
 have w2 : wrap64 (X - 1) = X - 1 := w64 (by omega) (by omega)
 have w3 : wrap64 (X + 1) = X + 1 := w64 (by omega) (by omega)
 have w4 : wrap64 (Y + 1) = Y + 1 := w64 (by omega) (by omega)
 obtain ⟨K2, h2⟩ := cellAt_ev a b s hG X (Y - 1) (by omega) (by omega)
 obtain ⟨K3, h3⟩ := cellAt_ev a b s hG (X - 1) Y (by omega) (by omega)
 obtain ⟨K4, h4⟩ := cellAt_ev a b s hG (X + 1) Y (by omega) (by omega)
 obtain ⟨K5, h5⟩ := cellAt_ev a b s hG X (Y + 1) (by omega) (by omega)
 generalize hv1 : (if (0 ≤ X ∧ X ≤ a - 1) ∧ (0 ≤ Y - 1 ∧ Y - 1 ≤ b - 1) then (Y - 1) * a + X else -1) = v1 at h2
 generalize hv2 : (if (0 ≤ X - 1 ∧ X - 1 ≤ a - 1) ∧ (0 ≤ Y ∧ Y ≤ b - 1) then Y * a + (X - 1) else -1) = v2 at h3
 generalize hv3 : (if (0 ≤ X + 1 ∧ X + 1 ≤ a - 1) ∧ (0 ≤ Y ∧ Y ≤ b - 1) then Y * a + (X + 1) else -1) = v3 at h4
 generalize hv4 : (if (0 ≤ X ∧ X ≤ a - 1) ∧ (0 ≤ Y + 1 ∧ Y + 1 ≤ b - 1) then (Y + 1) * a + X else -1) = v4 at h5
 obtain ⟨K6, h6⟩ := around_l0 a b s hG [v1, v2, v3, v4] rfl 4 0 [] rfl (by simp)
 refine ⟨[v1, v2, v3, v4].filter (fun x => decide (Fr s x)), K0 + K1 + K2 + K3 + K4 + K5 + K6, fun k hk => ?_, fun x => ?_, List.length_filter_le _ _⟩
 ·unfold spec_Around.f
  rw [Option.bind_some, h1 k (by omega), Option.bind_some, if_pos rfl, hsp k (by omega), Option.bind_some]
  simp only [w1, w2, w3, w4]
  rw [h2 k (by omega), Option.bind_some, h3 k (by omega), Option.bind_some, h4 k (by omega), Option.bind_some, h5 k (by omega), Option.bind_some]
  have := h6 k (by omega)
  rw [List.drop_zero, List.nil_append] at this
  exact this
 ·have hn1 : Fr s (-1) → False := fun h => by have := h.1; omega
  have u1 : Fr s x → (x = v1 ↔ x = c - a) := fun hx => by
   obtain ⟨x0, x1⟩ := Fr_lt hx
   rw [← hv1]
   by_cases hy : Y = 0
   ·have : Y * a = 0 := by rw [hy, Int.zero_mul]
    rw [if_neg (by omega)]
    constructor <;> intro h <;> omega
   ·rw [if_pos (by omega), Int.sub_mul, Int.one_mul]
    constructor <;> intro h <;> omega
  have u2 : Fr s x → (x = v2 ↔ (x = c - 1 ∧ 0 < X)) := fun hx => by
   obtain ⟨x0, x1⟩ := Fr_lt hx
   rw [← hv2]
   by_cases hy : X = 0
   ·rw [if_neg (by omega)]
    constructor <;> intro h <;> omega
   ·rw [if_pos (by omega)]
    constructor <;> intro h <;> omega
  have u3 : Fr s x → (x = v3 ↔ (x = c + 1 ∧ X < a - 1)) := fun hx => by
   obtain ⟨x0, x1⟩ := Fr_lt hx
   rw [← hv3]
   by_cases hy : X = a - 1
   ·rw [if_neg (by omega)]
    constructor <;> intro h <;> omega
   ·rw [if_pos (by omega)]
    constructor <;> intro h <;> omega
  have u4 : Fr s x → (x = v4 ↔ x = c + a) := fun hx => by
   obtain ⟨x0, x1⟩ := Fr_lt hx
   rw [← hv4]
   by_cases hy : Y = b - 1
   ·have : Y * a = a * b - a := by rw [hy, Int.sub_mul, Int.one_mul, Int.mul_comm]
    rw [if_neg (by omega)]
    constructor <;> intro h <;> omega
   ·rw [if_pos (by omega), Int.add_mul, Int.one_mul]
    constructor <;> intro h <;> omega
  rw [List.mem_filter]
  unfold Adj
  rw [hX]
  simp only [List.mem_cons, List.not_mem_nil, or_false, decide_eq_true_eq]
  constructor
  ·rintro ⟨h, hx⟩
   rw [u1 hx, u2 hx, u3 hx, u4 hx] at h
   exact ⟨hc, hx, h⟩
  ·rintro ⟨_, hx, h⟩
   rw [u1 hx, u2 hx, u3 hx, u4 hx]
   exact ⟨h, hx⟩
end Go.Proofs.Ytooofofeihkpcaa.Pure
/- Plain facts about slices.Index over whole numbers. -/
namespace Go.Proofs.Ytooofofeihkpcaa.Pure
open Go.RowKit Go.Proofs.Ytooofofeihkpcaa.Q Go.Proofs.YtooofofeihkpcaaW.PrintWords Go.Proofs.YtooofofeihkpcaaW.PrintLast
def placeFrom (c : Int) : Int → List Int → Int
 | _, [] => -1
 | i, x :: xs => if c = x then i else placeFrom c (i + 1) xs
theorem placeFrom_mem (c : Int) : ∀ (i : Int) (l : List Int), 0 ≤ i → (placeFrom c i l ≥ 0 ↔ c ∈ l)
 | _, [], _ => by simp [placeFrom]
 | i, x :: xs, h => by
  unfold placeFrom
  by_cases e : c = x
  ·rw [if_pos e]; simp [e]; omega
  ·rw [if_neg e, placeFrom_mem c (i + 1) xs (by omega)]; simp [e]
theorem index_l0 (l : List Int) (c : Int) (hn : l.length ≤ 9223372036854775807) : ∀ (d i k : Nat), i + d = l.length → d < k → slices_Index_int_int.l0 k l c (l.length : Int) (i : Int) = some (placeFrom c i (l.drop i))
 | 0, i, k, hi, hk => by
  obtain ⟨k, rfl⟩ : ∃ m, k = m + 1 := ⟨k - 1, by omega⟩
  simp only [slices_Index_int_int.l0]
  rw [if_neg (by omega), List.drop_of_length_le (by omega)]
  rfl
 | d + 1, i, k, hi, hk => by
  obtain ⟨k, rfl⟩ : ∃ m, k = m + 1 := ⟨k - 1, by omega⟩
  simp only [slices_Index_int_int.l0]
  rw [if_pos (by omega), if_pos (by omega), if_pos (by omega), rd_get l i (by omega), drop_cons l i (by omega), placeFrom]
  by_cases e : c = l[i]'(by omega)
  ·rw [if_pos e, if_pos e]
  ·rw [if_neg e, if_neg e, w64 (by omega) (by omega), show ((i : Int) + 1) = ((i + 1 : Nat) : Int) by omega, index_l0 l c hn d (i + 1) k (by omega) (by omega)]
theorem index_eq (l : List Int) (c : Int) (hn : l.length ≤ 9223372036854775807) (k : Nat) (hk : l.length < k) : slices_Index_int_int.f k l c = some (placeFrom c 0 l) := by
 have := index_l0 l c hn l.length 0 k (by omega) hk
 simpa [slices_Index_int_int.f] using this
end Go.Proofs.Ytooofofeihkpcaa.Pure
/- Plain facts about slices.Contains over whole numbers. -/
namespace Go.Proofs.Ytooofofeihkpcaa.Pure
open Go.RowKit Go.Proofs.Ytooofofeihkpcaa.Q Go.Proofs.YtooofofeihkpcaaW.PrintWords Go.Proofs.YtooofofeihkpcaaW.PrintLast
theorem contains_eq (l : List Int) (c : Int) (hn : l.length ≤ 9223372036854775807) (k : Nat) (hk : l.length < k) : slices_Contains_int_int.f k l c = some (decide (c ∈ l)) := by
 unfold slices_Contains_int_int.f
 rw [index_eq l c hn k hk, Option.bind_some]
 congr 1
 exact decide_eq_decide.mpr (placeFrom_mem c 0 l (by omega))
end Go.Proofs.Ytooofofeihkpcaa.Pure
/- Whether a list holds a number: what the reference answers. -/
namespace Go.Proofs.Ytooofofeihkpcaa.Pure
open Go.RowKit Go.Proofs.Ytooofofeihkpcaa.Q Go.Proofs.YtooofofeihkpcaaW.PrintWords Go.Proofs.YtooofofeihkpcaaW.PrintLast
theorem has_l0 (l : List Int) (c : Int) (hn : l.length ≤ 9223372036854775807) : ∀ (d i k : Nat), i + d = l.length → d < k → spec_l03Has.l0 k l c (i : Int) = some (decide (c ∈ l.drop i))
 | 0, i, k, hi, hk => by
  obtain ⟨k, rfl⟩ : ∃ m, k = m + 1 := ⟨k - 1, by omega⟩
  simp only [spec_l03Has.l0]
  rw [if_neg (by omega), List.drop_of_length_le (by omega)]
  simp
 | d + 1, i, k, hi, hk => by
  obtain ⟨k, rfl⟩ : ∃ m, k = m + 1 := ⟨k - 1, by omega⟩
  simp only [spec_l03Has.l0]
  rw [if_pos (by omega), if_pos (by omega), rd_get l i (by omega), drop_cons l i (by omega)]
  by_cases e : l[i]'(by omega) = c
  ·rw [if_pos e, decide_eq_true (by simp [e])]
  ·rw [if_neg e, w64 (by omega) (by omega), show ((i : Int) + 1) = ((i + 1 : Nat) : Int) by omega, has_l0 l c hn d (i + 1) k (by omega) (by omega)]
   congr 1
   exact decide_eq_decide.mpr (by simp only [List.mem_cons, Ne.symm e, false_or])
theorem has_eq (l : List Int) (c : Int) (hn : l.length ≤ 9223372036854775807) (k : Nat) (hk : l.length < k) : spec_l03Has.f k l c = some (decide (c ∈ l)) := by
 have := has_l0 l c hn l.length 0 k (by omega) hk
 simpa [spec_l03Has.f] using this
end Go.Proofs.Ytooofofeihkpcaa.Pure
/- Joint steps: the program's search and the reference's are alike, place by place. -/
namespace Go.Proofs.Ytooofofeihkpcaa.Pure
open Go.RowKit Go.Proofs.Ytooofofeihkpcaa.Q Go.Proofs.YtooofofeihkpcaaW.PrintWords Go.Proofs.YtooofofeihkpcaaW.PrintLast Go.Proofs.YtooofofeihkpcaaW.PrintMore
theorem placeFrom_at (c : Int) : ∀ (l : List Int) (i : Int), 0 ≤ i → (placeFrom c i l = -1 ∧ c ∉ l) ∨ ∃ j : Nat, ∃ h : j < l.length, placeFrom c i l = i + j ∧ l[j] = c
 | [], i, _ => .inl ⟨rfl, by simp⟩
 | x :: xs, i, h => by
  unfold placeFrom
  by_cases e : c = x
  ·rw [if_pos e]
   exact .inr ⟨0, by simp, by simp, by simp [e]⟩
  ·rw [if_neg e]
   rcases placeFrom_at c xs (i + 1) (by omega) with ⟨h1, h2⟩ | ⟨j, hj, h1, h2⟩
   ·exact .inl ⟨h1, by simp [e, h2]⟩
   ·exact .inr ⟨j + 1, by simpa using hj, by rw [h1]; omega, by simpa using h2⟩
theorem best_ok (best r D : Int) (_h1 : -1 ≤ best) (h2 : best ≤ D) (h3 : 0 ≤ r) (h4 : r ≤ D) : -1 ≤ (if best < 0 then r else if r < best then r else best) ∧ (if best < 0 then r else if r < best then r else best) ≤ D := by
 split
 ·omega
 ·split <;> omega
theorem asc_lt (l : List Int) (h : AscFrom l 0) : ∀ (d i : Nat), i + d + 1 < l.length → rd l (i : Int) < rd l ((i + d + 1 : Nat) : Int)
 | 0, i, hi => by
  have := h (i + 1) (by omega) (by omega) (by omega)
  rwa [show ((i + 1 : Nat) : Int) - 1 = (i : Int) by omega] at this
 | d + 1, i, hi => by
  have h1 := asc_lt l h d i (by omega)
  have := h (i + (d + 1) + 1) (by omega) (by omega) (by omega)
  rw [show ((i + (d + 1) + 1 : Nat) : Int) - 1 = ((i + d + 1 : Nat) : Int) by omega] at this
  omega
theorem asc_inj (l : List Int) (h : AscFrom l 0) (i j : Nat) (hi : i < l.length) (hj : j < l.length) (e : rd l (i : Int) = rd l (j : Int)) : i = j := by
 rcases Nat.lt_trichotomy i j with c | c | c
 ·have := asc_lt l h (j - i - 1) i (by omega)
  rw [show i + (j - i - 1) + 1 = j by omega] at this
  omega
 ·exact c
 ·have := asc_lt l h (i - j - 1) j (by omega)
  rw [show j + (i - j - 1) + 1 = i by omega] at this
  omega
def swF (p t : List Int) (x c : Int) : Nat → Nat → Bool
 | 0, _ => false
 | d + 1, j => (decide (rd t (j : Int) = x) && decide (rd p (j : Int) = c)) || swF p t x c d (j + 1)
theorem swF_iff (p t : List Int) (x c : Int) : ∀ d j, swF p t x c d j = true ↔ ∃ m : Nat, j ≤ m ∧ m < j + d ∧ rd t (m : Int) = x ∧ rd p (m : Int) = c
 | 0, j => by simp [swF]; omega
 | d + 1, j => by
  unfold swF
  rw [Bool.or_eq_true, swF_iff p t x c d (j + 1), Bool.and_eq_true, decide_eq_true_eq, decide_eq_true_eq]
  constructor
  ·rintro (⟨h1, h2⟩ | ⟨m, h1, h2, h3⟩)
   ·exact ⟨j, Nat.le_refl _, by omega, h1, h2⟩
   ·exact ⟨m, by omega, by omega, h3⟩
  ·rintro ⟨m, h1, h2, h3⟩
   by_cases e : m = j
   ·subst e; exact .inl h3
   ·exact .inr ⟨m, by omega, by omega, h3⟩
section
variable (a b : Int) (s : ByteArray) (hG : Gok a b s) (p q : List Int) (hp3 : p.length ≤ 3) (hq3 : q.length ≤ 3) (hpf : FrFrom s p 0) (hpa : AscFrom p 0)
include hp3 hq3
theorem spec_sw (t : List Int) (i : Nat) (hi : i < p.length) (ht : t.length = i) (best : Int) (jj : Nat) (hjj : jj < q.length) : ∀ (d j : Nat) (fl : Bool) (k : Nat), j + d = i → spec_l16Step.l1 (k + d + 1) p q t (i : Int) best (jj : Int) fl (j : Int) a b s = spec_l16Step.l1 (k + 1) p q t (i : Int) best (jj : Int) (fl || swF p t (rd p (i : Int)) (rd q (jj : Int)) d j) (i : Int) a b s
 | 0, j, fl, k, hj => by
  obtain rfl : j = i := by omega
  simp [swF]
 | d + 1, j, fl, k, hj => by
  have e9 : wrap64 ((j : Int) + 1) = ((j + 1 : Nat) : Int) := w64 (by omega) (by omega)
  have hstep : spec_l16Step.l1 (k + (d + 1) + 1) p q t (i : Int) best (jj : Int) fl (j : Int) a b s = spec_l16Step.l1 (k + d + 1) p q t (i : Int) best (jj : Int) (if rd t (j : Int) = rd p (i : Int) ∧ rd p (j : Int) = rd q (jj : Int) then true else fl) ((j + 1 : Nat) : Int) a b s := by
   rw [show k + (d + 1) + 1 = (k + d + 1) + 1 by omega, spec_l16Step.l1, if_pos (show (j : Int) < (i : Int) by omega), if_pos (show (0 : Int) ≤ (j : Int) by omega), if_pos (show (j : Int) < (t.length : Int) by omega), if_pos (show (0 : Int) ≤ (i : Int) by omega), if_pos (show (i : Int) < (p.length : Int) by omega), e9]
   by_cases c1 : rd t (j : Int) = rd p (i : Int)
   ·rw [if_pos c1, if_pos (show (j : Int) < (p.length : Int) by omega), if_pos (show (0 : Int) ≤ (jj : Int) by omega), if_pos (show (jj : Int) < (q.length : Int) by omega)]
    by_cases c2 : rd p (j : Int) = rd q (jj : Int)
    ·rw [if_pos c2, if_pos ⟨c1, c2⟩]
    ·rw [if_neg c2, if_neg (fun h => c2 h.2)]
   ·rw [if_neg c1, if_neg (fun h => c1 h.1)]
  rw [hstep, spec_sw t i hi ht best jj hjj d (j + 1) _ k (by omega), swF]
  congr 1
  by_cases c1 : rd t (j : Int) = rd p (i : Int)
  ·by_cases c2 : rd p (j : Int) = rd q (jj : Int)
   ·rw [if_pos ⟨c1, c2⟩, decide_eq_true c1, decide_eq_true c2]; simp
   ·rw [if_neg (fun h => c2 h.2), decide_eq_false c2]; simp
  ·rw [if_neg (fun h => c1 h.1), decide_eq_false c1]; simp
include hpa
theorem impl_sw (t : List Int) (i : Nat) (hi : i < p.length) (ht : t.length = i) (c : Int) : ∃ z : Int, (∀ k, p.length < k → slices_Index_int_int.f k (p.take i) c = some z) ∧ ((z < 0 ∧ swF p t (rd p (i : Int)) c i 0 = false) ∨ (0 ≤ z ∧ z < (i : Int) ∧ (rd t z == rd p (i : Int)) = swF p t (rd p (i : Int)) c i 0)) := by
 have hl : (p.take i).length = i := by rw [List.length_take]; omega
 refine ⟨placeFrom c 0 (p.take i), fun k hk => index_eq _ _ (by omega) k (by omega), ?_⟩
 have hrd : ∀ j : Nat, ∀ h : j < (p.take i).length, (p.take i)[j] = rd p (j : Int) := fun j h => by
  rw [List.getElem_take, rd_get p j (by omega)]
 rcases placeFrom_at c (p.take i) 0 (Int.le_refl _) with ⟨h1, h2⟩ | ⟨j, hj, h1, h2⟩
 ·refine .inl ⟨by omega, ?_⟩
  rw [Bool.eq_false_iff]
  intro h
  obtain ⟨m, _, h3, _, h5⟩ := (swF_iff p t _ c i 0).mp h
  refine h2 ?_
  have := hrd m (by omega)
  rw [← h5, ← this]
  exact List.getElem_mem _
 ·refine .inr ⟨by omega, by omega, ?_⟩
  rw [h1, Int.zero_add]
  have hpj : rd p (j : Int) = c := by rw [← hrd j hj]; exact h2
  rw [Bool.eq_iff_iff, beq_iff_eq, swF_iff]
  constructor
  ·intro h
   exact ⟨j, Nat.zero_le _, by omega, h, hpj⟩
  ·rintro ⟨m, _, h3, h4, h5⟩
   have : m = j := asc_inj p hpa m j (by omega) (by omega) (by rw [h5, hpj])
   subst this
   exact h4
include hG hpf
theorem beside_both (i : Nat) (hi : i < p.length) (c : Int) : ∃ (g : Bool) (ns : List Int) (K : Nat), (∀ k, K ≤ k → spec_Beside.f k a b s (rd p (i : Int)) c = some g ∧ impl_around.f k a b s (rd p (i : Int)) = some ns ∧ slices_Contains_int_int.f k ns c = some g) := by
 have hfr : Fr s (rd p (i : Int)) := hpf i (Nat.zero_le _) hi
 obtain ⟨ns, K1, h1, m1, l1⟩ := implAround_ev a b s hG _ hfr
 obtain ⟨ms, K2, h2, m2, l2⟩ := specAround_ev a b s hG _ hfr
 refine ⟨decide (c ∈ ns), ns, K1 + K2 + 10, fun k hk => ⟨?_, h1 k (by omega), contains_eq ns c (by omega) k (by omega)⟩⟩
 unfold spec_Beside.f
 rw [h2 k (by omega), Option.bind_some, has_eq ms c (by omega) k (by omega), Option.bind_some]
 congr 1
 exact decide_eq_decide.mpr ((m2 c).trans (m1 c).symm)
theorem js_f : ∀ (d : Nat) (t : List Int), t.length + d = p.length → ∃ (v : Int) (K : Nat), -1 ≤ v ∧ v ≤ d ∧ ∀ k, K ≤ k → spec_l16Step.f k a b s p q t = some v ∧ impl_matched.f k a b s p q t = some v
 | 0, t, ht => by
  refine ⟨0, 1, by omega, by omega, fun k hk => ?_⟩
  obtain ⟨k, rfl⟩ : ∃ m, k = m + 1 := ⟨k - 1, by omega⟩
  rw [spec_l16Step.f, impl_matched.f, if_pos (by omega), if_pos (by omega)]
  exact ⟨rfl, rfl⟩
 | d + 1, t, ht => by
  have hi : t.length < p.length := by omega
  have hrec := fun x => js_f d (t ++ [x]) (by rw [List.length_append, List.length_singleton]; omega)
  have e3 : (0 : Int) ≤ (t.length : Int) := by omega
  have e4 : (t.length : Int) < (p.length : Int) := by omega
  have e5 : (t.length : Int) ≤ (p.length : Int) := by omega
  have htl : t.length < 17592186044416 := by omega
  have htl2 : t.length + 1 < 17592186044416 := by omega
  have loop : ∀ (e j : Nat) (best : Int), j + e = q.length → -1 ≤ best → best ≤ ((d + 1 : Nat) : Int) → ∃ (v : Int) (K : Nat), -1 ≤ v ∧ v ≤ ((d + 1 : Nat) : Int) ∧ ∀ k, K ≤ k → spec_l16Step.l0 k p q t (t.length : Int) best (j : Int) a b s = some v ∧ impl_matched.l0 k p q t (t.length : Int) best q (q.length : Int) (j : Int) a b s = some v := by
   intro e
   induction e with
   | zero =>
    intro j best hj hb1 hb2
    refine ⟨best, 1, hb1, hb2, fun k hk => ?_⟩
    obtain ⟨k, rfl⟩ : ∃ m, k = m + 1 := ⟨k - 1, by omega⟩
    rw [spec_l16Step.l0, impl_matched.l0, if_neg (by omega), if_neg (by omega)]
    exact ⟨rfl, rfl⟩
   | succ e ih =>
    intro j best hj hb1 hb2
    have hjq : (j : Int) < (q.length : Int) := by omega
    have hj0 : (0 : Int) ≤ (j : Int) := by omega
    have e9 : wrap64 ((j : Int) + 1) = ((j + 1 : Nat) : Int) := w64 (by omega) (by omega)
    -- a cell that is passed over
    obtain ⟨v0, K0, hv1, hv2, h0⟩ := ih (j + 1) best (by omega) hb1 hb2
    have hskipS : ∀ k, K0 + 1 ≤ k → spec_l16Step.j1 k p q t (t.length : Int) best (j : Int) true a b s = some v0 := fun k hk => by
     obtain ⟨k, rfl⟩ : ∃ m, k = m + 1 := ⟨k - 1, by omega⟩
     rw [spec_l16Step.j1, if_pos rfl, e9]
     exact (h0 k (by omega)).1
    have hskipI : ∀ k, K0 + 1 ≤ k → impl_matched.j1 k p q t (t.length : Int) best (rd q (j : Int)) q (q.length : Int) (j : Int) true a b s = some v0 := fun k hk => by
     obtain ⟨k, rfl⟩ : ∃ m, k = m + 1 := ⟨k - 1, by omega⟩
     rw [impl_matched.j1, if_pos rfl, e9]
     exact (h0 k (by omega)).2
    -- a cell that is tried
    have htry : ∃ (v : Int) (K : Nat), -1 ≤ v ∧ v ≤ ((d + 1 : Nat) : Int) ∧ ∀ k, K ≤ k → spec_l16Step.j1 k p q t (t.length : Int) best (j : Int) false a b s = some v ∧ impl_matched.j1 k p q t (t.length : Int) best (rd q (j : Int)) q (q.length : Int) (j : Int) false a b s = some v := by
     obtain ⟨z, hz, hzz⟩ := impl_sw p q hp3 hq3 hpa t t.length hi rfl (rd q (j : Int))
     have hS := fun k => spec_sw a b s p q hp3 hq3 t t.length hi rfl best j (by omega) t.length 0 false k (by omega)
     -- impl: the test of the swap
     have hI2 : ∀ k, p.length < k → impl_matched.j1 (k + 1) p q t (t.length : Int) best (rd q (j : Int)) q (q.length : Int) (j : Int) false a b s = impl_matched.j2 k p q t (t.length : Int) best (rd q (j : Int)) q (q.length : Int) (j : Int) (swF p t (rd p (t.length : Int)) (rd q (j : Int)) t.length 0) a b s := fun k hk => by
      rw [impl_matched.j1, if_neg (by decide), if_pos e3, if_pos e5, Int.toNat_natCast, hz k hk, Option.bind_some]
      rcases hzz with ⟨z1, z2⟩ | ⟨z1, z2, z3⟩
      ·rw [if_neg (by omega), z2]
      ·rw [if_pos z1, if_pos z1, if_pos z2, if_pos e4, z3]
     have hS2 : ∀ k, spec_l16Step.j1 (k + t.length + 2) p q t (t.length : Int) best (j : Int) false a b s = spec_l16Step.l1 (k + 1) p q t (t.length : Int) best (j : Int) (swF p t (rd p (t.length : Int)) (rd q (j : Int)) t.length 0) (t.length : Int) a b s := fun k => by
      rw [show k + t.length + 2 = (k + t.length + 1) + 1 by omega, spec_l16Step.j1, if_neg (by decide)]
      have := hS k
      rw [show ((0 : Nat) : Int) = 0 from rfl, Bool.false_or] at this
      exact this
     cases hsw : swF p t (rd p (t.length : Int)) (rd q (j : Int)) t.length 0 with
     | true =>
      refine ⟨v0, K0 + p.length + t.length + 4, hv1, hv2, fun k hk => ?_⟩
      obtain ⟨k, rfl⟩ : ∃ m, k = m + t.length + 2 := ⟨k - t.length - 2, by omega⟩
      rw [hS2, hsw, spec_l16Step.l1, if_neg (by omega), if_pos rfl, e9]
      obtain ⟨m, hm⟩ : ∃ m, k + t.length + 2 = m + 2 := ⟨k + t.length, rfl⟩
      rw [hm, hI2 (m + 1) (by omega), hsw, impl_matched.j2, if_pos rfl, e9]
      exact ⟨(h0 k (by omega)).1, (h0 m (by omega)).2⟩
     | false =>
      obtain ⟨r, K1, hr1, hr2, hr⟩ := hrec (rd q (j : Int))
      -- the best so far and what is found
      by_cases hr0 : r < 0
      ·refine ⟨v0, K0 + K1 + p.length + t.length + 6, hv1, hv2, fun k hk => ?_⟩
       obtain ⟨k, rfl⟩ : ∃ m, k = m + t.length + 3 := ⟨k - t.length - 3, by omega⟩
       have w1 : ¬ r ≥ 0 := by omega
       constructor
       ·rw [show k + t.length + 3 = (k + 1) + t.length + 2 by omega, hS2, hsw, spec_l16Step.l1, if_neg (by omega), if_neg (by decide), Option.bind_some]
        simp only [List.length_nil, Nat.zero_add, List.nil_append, htl, hj0, hjq, reduceIte, Option.bind_some, List.length_singleton, htl2]
        rw [(hr (k + 1) (by omega)).1, Option.bind_some, if_neg w1, spec_l16Step.j3, if_neg (by decide), if_neg w1, e9]
        exact (h0 k (by omega)).1
       ·obtain ⟨m, hm⟩ : ∃ m, k + t.length + 3 = m + 2 := ⟨k + t.length + 1, rfl⟩
        rw [hm, hI2 (m + 1) (by omega), hsw, impl_matched.j2, if_neg (by decide)]
        unfold slices_Clone_int_int.f
        rw [if_pos htl, Option.bind_some, Option.bind_some, if_pos (by simpa using htl2), (hr m (by omega)).2, Option.bind_some, if_pos hr0, e9]
        exact (h0 m (by omega)).2
      ·have w0 : r ≥ 0 := by omega
       by_cases hmv : rd q (j : Int) = rd p (t.length : Int)
       ·-- it stays
        obtain ⟨v1, K2, q1, q2, h1⟩ := ih (j + 1) (if best < 0 then r else if r < best then r else best) (by omega) (best_ok best r _ hb1 hb2 (by omega) (by omega)).1 (best_ok best r _ hb1 hb2 (by omega) (by omega)).2
        refine ⟨v1, K1 + K2 + p.length + t.length + 6, q1, q2, fun k hk => ?_⟩
        obtain ⟨k, rfl⟩ : ∃ m, k = m + t.length + 3 := ⟨k - t.length - 3, by omega⟩
        constructor
        ·have hk1 := (h1 k (by omega)).1
         have hne : (rd q (j : Int) != rd p (t.length : Int)) = false := by simpa using hmv
         rw [show k + t.length + 3 = (k + 1) + t.length + 2 by omega, hS2, hsw, spec_l16Step.l1, if_neg (by omega), if_neg (by decide), Option.bind_some]
         simp only [List.length_nil, Nat.zero_add, List.nil_append, htl, hj0, hjq, reduceIte, Option.bind_some, List.length_singleton, htl2]
         rw [(hr (k + 1) (by omega)).1, Option.bind_some, if_pos w0, if_pos e3, if_pos e4, hne, spec_l16Step.j3, if_neg (by decide), if_pos w0, e9]
         by_cases c1 : best < 0
         ·rw [if_pos c1] at hk1 ⊢; exact hk1
         ·rw [if_neg c1] at hk1 ⊢
          by_cases c2 : r < best
          ·rw [if_pos c2] at hk1 ⊢; exact hk1
          ·rw [if_neg c2] at hk1 ⊢; exact hk1
        ·obtain ⟨m, hm⟩ : ∃ m, k + t.length + 3 = m + 2 := ⟨k + t.length + 1, rfl⟩
         have hk1 := (h1 m (by omega)).2
         rw [hm, hI2 (m + 1) (by omega), hsw, impl_matched.j2, if_neg (by decide)]
         unfold slices_Clone_int_int.f
         rw [if_pos htl, Option.bind_some, Option.bind_some, if_pos (by simpa using htl2), (hr m (by omega)).2, Option.bind_some, if_neg hr0, if_pos e3, if_pos e4, if_pos hmv, e9]
         by_cases c1 : best < 0
         ·rw [if_pos c1] at hk1 ⊢; exact hk1
         ·rw [if_neg c1] at hk1 ⊢
          by_cases c2 : r < best
          ·rw [if_pos c2] at hk1 ⊢; exact hk1
          ·rw [if_neg c2] at hk1 ⊢; exact hk1
       ·-- it moves
        have er : wrap64 (r + 1) = r + 1 := w64 (by omega) (by omega)
        obtain ⟨v1, K2, q1, q2, h1⟩ := ih (j + 1) (if best < 0 then r + 1 else if r + 1 < best then r + 1 else best) (by omega) (best_ok best (r + 1) _ hb1 hb2 (by omega) (by omega)).1 (best_ok best (r + 1) _ hb1 hb2 (by omega) (by omega)).2
        refine ⟨v1, K1 + K2 + p.length + t.length + 6, q1, q2, fun k hk => ?_⟩
        obtain ⟨k, rfl⟩ : ∃ m, k = m + t.length + 3 := ⟨k - t.length - 3, by omega⟩
        constructor
        ·have hk1 := (h1 k (by omega)).1
         have hne : (rd q (j : Int) != rd p (t.length : Int)) = true := by simpa using hmv
         rw [show k + t.length + 3 = (k + 1) + t.length + 2 by omega, hS2, hsw, spec_l16Step.l1, if_neg (by omega), if_neg (by decide), Option.bind_some]
         simp only [List.length_nil, Nat.zero_add, List.nil_append, htl, hj0, hjq, reduceIte, Option.bind_some, List.length_singleton, htl2]
         rw [(hr (k + 1) (by omega)).1, Option.bind_some, if_pos w0, if_pos e3, if_pos e4, hne, spec_l16Step.j3, if_pos rfl, er, if_pos (by omega), e9]
         by_cases c1 : best < 0
         ·rw [if_pos c1] at hk1 ⊢; exact hk1
         ·rw [if_neg c1] at hk1 ⊢
          by_cases c2 : r + 1 < best
          ·rw [if_pos c2] at hk1 ⊢; exact hk1
          ·rw [if_neg c2] at hk1 ⊢; exact hk1
        ·obtain ⟨m, hm⟩ : ∃ m, k + t.length + 3 = m + 2 := ⟨k + t.length + 1, rfl⟩
         have hk1 := (h1 m (by omega)).2
         rw [hm, hI2 (m + 1) (by omega), hsw, impl_matched.j2, if_neg (by decide)]
         unfold slices_Clone_int_int.f
         rw [if_pos htl, Option.bind_some, Option.bind_some, if_pos (by simpa using htl2), (hr m (by omega)).2, Option.bind_some, if_neg hr0, if_pos e3, if_pos e4, if_neg hmv, er, e9]
         by_cases c1 : best < 0
         ·rw [if_pos c1] at hk1 ⊢; exact hk1
         ·rw [if_neg c1] at hk1 ⊢
          by_cases c2 : r + 1 < best
          ·rw [if_pos c2] at hk1 ⊢; exact hk1
          ·rw [if_neg c2] at hk1 ⊢; exact hk1
    obtain ⟨v1, K1, q1, q2, ht1⟩ := htry
    have hhas := fun k hk => has_eq t (rd q (j : Int)) (by omega) k hk
    have hcon := fun k hk => contains_eq t (rd q (j : Int)) (by omega) k hk
    have outS : ∀ k, t.length < k → spec_l16Step.l0 (k + 1) p q t (t.length : Int) best (j : Int) a b s = (if (decide (rd q (j : Int) ∈ t)) = true then (spec_l16Step.j1 k p q t (t.length : Int) best (j : Int) true a b s) else (if (rd q (j : Int)) = (rd p (t.length : Int)) then (spec_l16Step.j1 k p q t (t.length : Int) best (j : Int) false a b s) else ((spec_Beside.f k a b s (rd p (t.length : Int)) (rd q (j : Int))).bind fun t455 => (spec_l16Step.j1 k p q t (t.length : Int) best (j : Int) (!t455) a b s)))) := fun k hk => by
     rw [spec_l16Step.l0, if_pos hjq, if_pos hj0, hhas k hk, Option.bind_some, if_pos e3, if_pos e4]
    have outI : ∀ k, t.length < k → impl_matched.l0 (k + 1) p q t (t.length : Int) best q (q.length : Int) (j : Int) a b s = (if (decide (rd q (j : Int) ∈ t)) = true then (impl_matched.j1 k p q t (t.length : Int) best (rd q (j : Int)) q (q.length : Int) (j : Int) true a b s) else (if (rd q (j : Int)) = (rd p (t.length : Int)) then (impl_matched.j1 k p q t (t.length : Int) best (rd q (j : Int)) q (q.length : Int) (j : Int) false a b s) else ((impl_around.f k a b s (rd p (t.length : Int))).bind fun t514 => ((slices_Contains_int_int.f k t514 (rd q (j : Int))).bind fun t517 => (impl_matched.j1 k p q t (t.length : Int) best (rd q (j : Int)) q (q.length : Int) (j : Int) (!t517) a b s))))) := fun k hk => by
     rw [impl_matched.l0, if_pos hjq, if_pos hj0, if_pos hjq, hcon k hk, Option.bind_some, if_pos e3, if_pos e4]
    by_cases c1 : rd q (j : Int) ∈ t
    ·refine ⟨v0, K0 + t.length + 3, hv1, hv2, fun k hk => ?_⟩
     obtain ⟨k, rfl⟩ : ∃ m, k = m + 1 := ⟨k - 1, by omega⟩
     rw [outS k (by omega), outI k (by omega), decide_eq_true c1, if_pos rfl, if_pos rfl]
     exact ⟨hskipS k (by omega), hskipI k (by omega)⟩
    ·by_cases c2 : rd q (j : Int) = rd p (t.length : Int)
     ·refine ⟨v1, K1 + t.length + 3, q1, q2, fun k hk => ?_⟩
      obtain ⟨k, rfl⟩ : ∃ m, k = m + 1 := ⟨k - 1, by omega⟩
      rw [outS k (by omega), outI k (by omega), decide_eq_false c1, if_neg (show ¬ (false = true) by decide), if_neg (show ¬ (false = true) by decide), if_pos c2, if_pos c2]
      exact ht1 k (by omega)
     ·obtain ⟨g, ns, K2, h2⟩ := beside_both a b s hG p q hp3 hq3 hpf hpa t.length hi (rd q (j : Int))
      cases g with
      | true =>
       refine ⟨v1, K1 + K2 + t.length + 3, q1, q2, fun k hk => ?_⟩
       obtain ⟨k, rfl⟩ : ∃ m, k = m + 1 := ⟨k - 1, by omega⟩
       obtain ⟨x1, x2, x3⟩ := h2 k (by omega)
       rw [outS k (by omega), outI k (by omega), decide_eq_false c1, if_neg (show ¬ (false = true) by decide), if_neg (show ¬ (false = true) by decide), if_neg c2, if_neg c2, x1, x2, Option.bind_some, Option.bind_some, x3, Option.bind_some]
       exact ht1 k (by omega)
      | false =>
       refine ⟨v0, K0 + K2 + t.length + 3, hv1, hv2, fun k hk => ?_⟩
       obtain ⟨k, rfl⟩ : ∃ m, k = m + 1 := ⟨k - 1, by omega⟩
       obtain ⟨x1, x2, x3⟩ := h2 k (by omega)
       rw [outS k (by omega), outI k (by omega), decide_eq_false c1, if_neg (show ¬ (false = true) by decide), if_neg (show ¬ (false = true) by decide), if_neg c2, if_neg c2, x1, x2, Option.bind_some, Option.bind_some, x3, Option.bind_some]
       exact ⟨hskipS k (by omega), hskipI k (by omega)⟩
  obtain ⟨v, K, hv1, hv2, h⟩ := loop q.length 0 (-1) (by omega) (by omega) (by omega)
  refine ⟨v, K + 1, hv1, hv2, fun k hk => ?_⟩
  obtain ⟨k, rfl⟩ : ∃ m, k = m + 1 := ⟨k - 1, by omega⟩
  rw [spec_l16Step.f, impl_matched.f, if_neg (by omega), if_neg (by omega)]
  have := h k (by omega)
  rw [show ((0 : Nat) : Int) = 0 from rfl] at this
  exact this
end
def Stand (a b : Int) (s : ByteArray) (l : List Int) : Prop := 1 ≤ l.length ∧ l.length ≤ 3 ∧ Gok a b s ∧ FrFrom s l 0 ∧ AscFrom l 0
theorem cellsOk_ev (a b : Int) (s : ByteArray) (hs : s.size ≤ 1048576) (l : List Int) (hl : l.length ≤ 1048576) (h1 : 1 ≤ l.length) : ∃ g K, (∀ k, K ≤ k → spec_l10Cells.f k a b s l = some g) ∧ (g = true ↔ Gok a b s ∧ FrFrom s l 0 ∧ AscFrom l 0) := by
 by_cases hG : Gok a b s
 ·obtain ⟨g, K, h, hg⟩ := specCells_l0 a b s hs hG l hl l.length 0 (by omega)
  exact ⟨g, K, fun k hk => h k hk, hg.trans ⟨fun h => ⟨hG, h⟩, fun h => h.2⟩⟩
 ·obtain ⟨g, K, h, hg⟩ := specFreeAt_ev a b s hs (rd l 0)
  have : g = false := by
   cases g with
   | false => rfl
   | true => exact absurd (hg.mp rfl).1 hG
  subst this
  refine ⟨false, K + 1, fun k hk => ?_, ⟨fun h => (by cases h), fun h => absurd h.1 hG⟩⟩
  obtain ⟨k, rfl⟩ : ∃ m, k = m + 1 := ⟨k - 1, by omega⟩
  unfold spec_l10Cells.f
  rw [spec_l10Cells.l0, if_pos (by omega), if_pos (by omega), h k (by omega), Option.bind_some, if_neg (by decide)]
end Go.Proofs.Ytooofofeihkpcaa.Pure
/- The reference's free cells. -/
namespace Go.Proofs.Ytooofofeihkpcaa.Pure
open Go.RowKit Go.Proofs.Ytooofofeihkpcaa.Q Go.Proofs.YtooofofeihkpcaaW.PrintWords Go.Proofs.YtooofofeihkpcaaW.PrintLast
theorem specFree_l0 (a b : Int) (s : ByteArray) (hs : s.size ≤ 1048576) : ∀ (d i : Nat) (acc : List Int), i + d = min s.size 64 → acc.length ≤ i → ∃ v K, (∀ k, K ≤ k → spec_FreeCells.l0 k acc (i : Int) a b s = some v) ∧ (Gok a b s → v = acc ++ fr s d i) ∧ (¬ Gok a b s → v = acc)
 | 0, i, acc, hi, ha => by
  refine ⟨acc, 2, fun k hk => ?_, by simp [fr], fun _ => rfl⟩
  obtain ⟨k, rfl⟩ : ∃ m, k = m + 2 := ⟨k - 2, by omega⟩
  simp only [spec_FreeCells.l0]
  by_cases c : (i : Int) < (s.size : Int)
  ·rw [if_pos c, decide_eq_false (by omega)]
   simp only [spec_FreeCells.j1, Bool.false_eq_true, reduceIte]
  ·rw [if_neg c]
   simp only [spec_FreeCells.j1, Bool.false_eq_true, reduceIte]
 | d + 1, i, acc, hi, ha => by
  obtain ⟨g, K1, h1, hg⟩ := specFreeAt_ev a b s hs (i : Int)
  have e1 : (i : Int) < (s.size : Int) := by omega
  have e2 : decide ((i : Int) < 64) = true := decide_eq_true (by omega)
  have e9 : wrap64 ((i : Int) + 1) = ((i + 1 : Nat) : Int) := by rw [w64 (by omega) (by omega)]; rfl
  cases g with
  | true =>
   obtain ⟨v, K, h, hv, hw⟩ := specFree_l0 a b s hs d (i + 1) (acc ++ [(i : Int)]) (by omega) (by simp; omega)
   refine ⟨v, K + K1 + 2, fun k hk => ?_, fun hG => ?_, fun hG => absurd (hg.mp rfl).1 hG⟩
   ·obtain ⟨k, rfl⟩ : ∃ m, k = m + 2 := ⟨k - 2, by omega⟩
    simp only [spec_FreeCells.l0]
    rw [if_pos e1, e2]
    simp only [spec_FreeCells.j1, reduceIte]
    rw [h1 k (by omega), Option.bind_some, if_pos rfl, if_pos (by omega), e9]
    exact h k (by omega)
   ·rw [hv hG, fr, if_pos (hg.mp rfl).2]; simp
  | false =>
   obtain ⟨v, K, h, hv, hw⟩ := specFree_l0 a b s hs d (i + 1) acc (by omega) (by omega)
   refine ⟨v, K + K1 + 2, fun k hk => ?_, fun hG => ?_, hw⟩
   ·obtain ⟨k, rfl⟩ : ∃ m, k = m + 2 := ⟨k - 2, by omega⟩
    simp only [spec_FreeCells.l0]
    rw [if_pos e1, e2]
    simp only [spec_FreeCells.j1, reduceIte]
    rw [h1 k (by omega), Option.bind_some, if_neg (by decide), e9]
    exact h k (by omega)
   ·rw [hv hG, fr, if_neg (fun h => absurd (hg.mpr ⟨hG, h⟩) (by decide))]
theorem specFree_ev (a b : Int) (s : ByteArray) (hs : s.size ≤ 1048576) : ∃ K, ∀ k, K ≤ k → spec_FreeCells.f k a b s = some (frees a b s) := by
 obtain ⟨v, K, h, hv, hw⟩ := specFree_l0 a b s hs (min s.size 64) 0 [] (by omega) (by simp)
 refine ⟨K, fun k hk => ?_⟩
 unfold spec_FreeCells.f frees
 have := h k hk
 by_cases hG : Gok a b s
 ·rw [if_pos hG]
  have hsz := Gok_size hG
  rw [hv hG, show min s.size 64 = s.size by omega] at this
  simpa using this
 ·rw [if_neg hG]
  rw [hw hG] at this
  exact this
end Go.Proofs.Ytooofofeihkpcaa.Pure
/- The free cells are ascending. -/
namespace Go.Proofs.Ytooofofeihkpcaa.Pure
open Go.RowKit Go.Proofs.Ytooofofeihkpcaa.Q Go.Proofs.YtooofofeihkpcaaW.PrintWords Go.Proofs.YtooofofeihkpcaaW.PrintLast
theorem fr_asc (s : ByteArray) : ∀ d i, (fr s d i).Pairwise (· < ·)
 | 0, _ => List.Pairwise.nil
 | d + 1, i => by
  have ih := fr_asc s d (i + 1)
  unfold fr
  split
  ·refine List.pairwise_cons.mpr ⟨fun x hx => ?_, ih⟩
   have := (fr_mem s x d (i + 1)).mp hx
   omega
  ·exact ih
theorem frees_asc (a b : Int) (s : ByteArray) : (frees a b s).Pairwise (· < ·) := by
 unfold frees
 split
 ·exact fr_asc s _ _
 ·exact List.Pairwise.nil
end Go.Proofs.Ytooofofeihkpcaa.Pure
/- The stands: the program's rounds and the reference's three loops. -/
namespace Go.Proofs.Ytooofofeihkpcaa.Pure
open Go.RowKit Go.Proofs.Ytooofofeihkpcaa.Q Go.Proofs.YtooofofeihkpcaaW.PrintWords Go.Proofs.YtooofofeihkpcaaW.PrintLast
def ext1 (F l : List Int) : List (List Int) := (F.filter fun c => decide (l.length = 0) || decide (rd l ((l.length - 1 : Nat) : Int) < c)).map fun c => l ++ [c]
def extL (F : List Int) (L : List (List Int)) : List (List Int) := L.flatMap (ext1 F)
def iterL (F : List Int) : Nat → List (List Int) → List (List Int)
 | 0, L => L
 | n + 1, L => iterL F n (extL F L)
theorem ext1_len (F l : List Int) : (ext1 F l).length ≤ F.length := by
 unfold ext1
 rw [List.length_map]
 exact List.length_filter_le _ _
theorem extL_len (F : List Int) : ∀ L : List (List Int), (extL F L).length ≤ L.length * F.length
 | [] => by simp [extL]
 | l :: L => by
  have h1 := extL_len F L
  have h2 := ext1_len F l
  unfold extL at h1 ⊢
  rw [List.flatMap_cons, List.length_append, List.length_cons, Nat.succ_mul]
  omega
theorem ext1_mem {F l x : List Int} (h : x ∈ ext1 F l) : x.length = l.length + 1 := by
 unfold ext1 at h
 obtain ⟨c, _, rfl⟩ := List.mem_map.mp h
 simp
theorem extL_mem {F : List Int} {L : List (List Int)} {m : Nat} (hL : ∀ l ∈ L, l.length ≤ m) : ∀ x ∈ extL F L, x.length ≤ m + 1 := by
 intro x hx
 obtain ⟨l, hl, hx⟩ := List.mem_flatMap.mp hx
 have := hL l hl
 have := ext1_mem hx
 omega
section
variable (F : List Int) (hF : F.length ≤ 9)
include hF
theorem st_l2 (n : Int) (l : List Int) (hl : l.length ≤ 100) (L : List (List Int)) (li : Int) : ∀ (d i : Nat) (acc : List (List Int)) (k : Nat), i + d = F.length → acc.length + d ≤ 1000000 → impl_StandsOf.l2 (k + d + 1) n F acc l L (L.length : Int) li F (F.length : Int) (i : Int) = impl_StandsOf.l2 (k + 1) n F (acc ++ ((F.drop i).filter fun c => decide (l.length = 0) || decide (rd l ((l.length - 1 : Nat) : Int) < c)).map fun c => l ++ [c]) l L (L.length : Int) li F (F.length : Int) (F.length : Int)
 | 0, i, acc, k, hi, ha => by
  obtain rfl : i = F.length := by omega
  simp
 | d + 1, i, acc, k, hi, ha => by
  have hil : i < F.length := by omega
  have e1 : (i : Int) < (F.length : Int) := by omega
  have e2 : (0 : Int) ≤ (i : Int) := by omega
  have e9 : wrap64 ((i : Int) + 1) = ((i + 1 : Nat) : Int) := w64 (by omega) (by omega)
  have hc : slices_Clone_int_int.f l = some l := by unfold slices_Clone_int_int.f; rw [if_pos (by omega)]
  rw [drop_cons F i hil, List.filter_cons, show k + (d + 1) + 1 = (k + d + 1) + 1 by omega, impl_StandsOf.l2, if_pos e1, if_pos e2, if_pos e1, e9, rd_get F i hil]
  by_cases c0 : l.length = 0
  ·rw [if_pos (show (l.length : Int) = 0 by omega), hc, Option.bind_some, if_pos (by omega), if_pos (by omega), decide_eq_true c0, Bool.true_or, if_pos rfl, st_l2 n l hl L li d (i + 1) (acc ++ [l ++ [F[i]]]) k (by omega) (by simp; omega), List.append_assoc, List.map_cons, List.singleton_append]
   simp only [c0, decide_true, Bool.true_or]
  ·have w1 : wrap64 ((l.length : Int) - 1) = ((l.length - 1 : Nat) : Int) := by rw [w64 (by omega) (by omega)]; omega
   rw [if_neg (show ¬ (l.length : Int) = 0 by omega), w1, if_pos (show (0 : Int) ≤ ((l.length - 1 : Nat) : Int) by omega), if_pos (show ((l.length - 1 : Nat) : Int) < (l.length : Int) by omega), decide_eq_false c0, Bool.false_or]
   by_cases c1 : rd l ((l.length - 1 : Nat) : Int) < F[i]
   ·rw [if_pos c1, hc, Option.bind_some, if_pos (by omega), if_pos (by omega), decide_eq_true c1, if_pos rfl, st_l2 n l hl L li d (i + 1) (acc ++ [l ++ [F[i]]]) k (by omega) (by simp; omega), List.append_assoc, List.map_cons, List.singleton_append]
    simp only [c0, decide_false, Bool.false_or]
   ·rw [if_neg c1, decide_eq_false c1, if_neg (by decide), st_l2 n l hl L li d (i + 1) acc k (by omega) (by omega)]
    simp only [c0, decide_false, Bool.false_or]
theorem st_l1 (n : Int) (L : List (List Int)) (hL : L.length ≤ 10000) (hm : ∀ l ∈ L, l.length ≤ 100) (v : List (List Int)) : ∀ (d i : Nat) (acc : List (List Int)), i + d = L.length → acc.length + 9 * d ≤ 900000 → (∃ K, ∀ k, K ≤ k → impl_StandsOf.l0 k (wrap64 (n - 1)) F (acc ++ extL F (L.drop i)) = some v) → ∃ K, ∀ k, K ≤ k → impl_StandsOf.l1 k n F acc L (L.length : Int) (i : Int) = some v
 | 0, i, acc, hi, ha, hc => by
  obtain ⟨K, h⟩ := hc
  rw [List.drop_of_length_le (by omega)] at h
  refine ⟨K + 1, fun k hk => ?_⟩
  obtain ⟨k, rfl⟩ : ∃ m, k = m + 1 := ⟨k - 1, by omega⟩
  have := h k (by omega)
  rw [impl_StandsOf.l1, if_neg (by omega)]
  simpa [extL] using this
 | d + 1, i, acc, hi, ha, hc => by
  have hil : i < L.length := by omega
  have e1 : (i : Int) < (L.length : Int) := by omega
  have e2 : (0 : Int) ≤ (i : Int) := by omega
  have e9 : wrap64 ((i : Int) + 1) = ((i + 1 : Nat) : Int) := w64 (by omega) (by omega)
  have hr : rd_L1 L (i : Int) = L[i] := by simp [rd_L1, hil]
  have hlen := ext1_len F L[i]
  obtain ⟨K, h⟩ := st_l1 n L hL hm v d (i + 1) (acc ++ ext1 F L[i]) (by omega) (by rw [List.length_append]; omega) (by
   obtain ⟨K, h⟩ := hc
   refine ⟨K, fun k hk => ?_⟩
   have := h k hk
   rw [drop_cons L i hil] at this
   rw [List.append_assoc]
   exact this)
  refine ⟨K + F.length + 2, fun k hk => ?_⟩
  obtain ⟨k, rfl⟩ : ∃ m, k = (m + F.length + 1) + 1 := ⟨k - F.length - 2, by omega⟩
  have h2 := st_l2 F hF n L[i] (hm _ (List.getElem_mem hil)) L (i : Int) F.length 0 acc k (by omega) (by omega)
  rw [show ((0 : Nat) : Int) = 0 from rfl, List.drop_zero] at h2
  rw [impl_StandsOf.l1, if_pos e1, if_pos e2, if_pos e1, hr, h2, impl_StandsOf.l2, if_neg (by omega), e9]
  exact h k (by omega)
theorem st_l0 : ∀ (n : Nat) (L : List (List Int)), n ≤ 3 → L.length * 9 ^ n ≤ 729 → (∀ l ∈ L, l.length + n ≤ 3) → ∃ K, ∀ k, K ≤ k → impl_StandsOf.l0 k (n : Int) F L = some (iterL F n L)
 | 0, L, _, _, _ => by
  refine ⟨1, fun k hk => ?_⟩
  obtain ⟨k, rfl⟩ : ∃ m, k = m + 1 := ⟨k - 1, by omega⟩
  rw [impl_StandsOf.l0, if_neg (by omega)]
  rfl
 | n + 1, L, hn, hL, hm => by
  have hb : L.length * 9 ^ (n + 1) = (L.length * 9) * 9 ^ n := by rw [Nat.pow_succ, Nat.mul_comm (9 ^ n) 9, Nat.mul_assoc]
  have hpos : 1 ≤ 9 ^ n := Nat.one_le_pow _ _ (by omega)
  have hl81 : L.length * 9 ≤ 729 := by
   have : L.length * 9 * 1 ≤ L.length * 9 * 9 ^ n := Nat.mul_le_mul_left _ hpos
   omega
  have he := extL_len F L
  have he2 : (extL F L).length ≤ L.length * 9 := Nat.le_trans he (Nat.mul_le_mul_left _ hF)
  obtain ⟨K, h⟩ := st_l0 n (extL F L) (by omega) (by
   have : (extL F L).length * 9 ^ n ≤ L.length * 9 * 9 ^ n := Nat.mul_le_mul_right _ he2
   omega) (fun x hx => by
   have := extL_mem (F := F) (m := 2 - n) (fun l hl => by have := hm l hl; omega) x hx
   omega)
  obtain ⟨K2, h2⟩ := st_l1 F hF ((n + 1 : Nat) : Int) L (by omega) (fun l hl => by have := hm l hl; omega) (iterL F n (extL F L)) L.length 0 [] (by omega) (by simp; omega) ⟨K, fun k hk => by
   rw [show wrap64 (((n + 1 : Nat) : Int) - 1) = (n : Int) by rw [w64 (by omega) (by omega)]; omega, List.nil_append, List.drop_zero]
   exact h k hk⟩
  rw [show ((0 : Nat) : Int) = 0 from rfl] at h2
  refine ⟨K2 + 1, fun k hk => ?_⟩
  obtain ⟨k, rfl⟩ : ∃ m, k = m + 1 := ⟨k - 1, by omega⟩
  rw [impl_StandsOf.l0, if_pos (by omega)]
  exact h2 k (by omega)
end
def gt (F : List Int) (x : Int) : List Int := F.filter fun c => decide (x < c)
def G2 (F : List Int) (x : Int) : List (List Int) := (gt F x).map fun y => [x, y]
def G3a (F : List Int) (x y : Int) : List (List Int) := (gt F y).map fun z => [x, y, z]
def G3 (F : List Int) (x : Int) : List (List Int) := (gt F x).flatMap (G3a F x)
theorem gt_len (F : List Int) (x : Int) : (gt F x).length ≤ F.length := List.length_filter_le _ _
theorem flatMap_len {α β : Type} (g : α → List β) (m : Nat) (h : ∀ x, (g x).length ≤ m) : ∀ l : List α, (l.flatMap g).length ≤ l.length * m
 | [] => by simp
 | x :: l => by
  have h1 := flatMap_len g m h l
  have h2 := h x
  rw [List.flatMap_cons, List.length_append, List.length_cons, Nat.succ_mul]
  omega
def standsF (F : List Int) (n : Nat) : List (List Int) := if n = 1 then F.map (fun c => [c]) else if n = 2 then F.flatMap (G2 F) else F.flatMap (G3 F)
theorem ext_nil (F : List Int) : extL F [[]] = F.map (fun c => [c]) := by
 unfold extL ext1
 simp only [List.flatMap_cons, List.flatMap_nil, List.append_nil, List.length_nil, decide_true, Bool.true_or, List.nil_append]
 rw [List.filter_eq_self.mpr (fun _ _ => rfl)]
theorem ext_one (F : List Int) (x : Int) : ext1 F [x] = G2 F x := by
 simp [ext1, G2, gt, rd]
theorem ext_two (F : List Int) (x y : Int) : ext1 F [x, y] = G3a F x y := by
 simp [ext1, G3a, gt, rd]
theorem iter_stands (F : List Int) (n : Nat) (h1 : 1 ≤ n) (h3 : n ≤ 3) : iterL F n [[]] = standsF F n := by
 have e2 : extL F (F.map fun c => [c]) = F.flatMap (G2 F) := by
  unfold extL
  rw [List.flatMap_map]
  exact congrArg (fun g => F.flatMap g) (funext fun x => ext_one F x)
 have e3 : extL F (F.flatMap (G2 F)) = F.flatMap (G3 F) := by
  unfold extL
  rw [List.flatMap_assoc]
  refine congrArg (fun g => F.flatMap g) (funext fun x => ?_)
  unfold G2 G3
  rw [List.flatMap_map]
  exact congrArg (fun g => (gt F x).flatMap g) (funext fun y => ext_two F x y)
 rcases (by omega : n = 1 ∨ n = 2 ∨ n = 3) with rfl | rfl | rfl
 ·simp only [iterL, ext_nil]; rfl
 ·simp only [iterL, ext_nil, e2]; rfl
 ·simp only [iterL, ext_nil, e2, e3]; rfl
section
variable (F : List Int) (hF : F.length ≤ 9) (hA : F.Pairwise (· < ·))
include hA
theorem gt_drop (i : Nat) (hi : i < F.length) : gt F (rd F (i : Int)) = F.drop (i + 1) := by
 unfold gt
 rw [rd_get F i hi]
 have h0 : ∀ x : Int, F.filter (fun c => decide (x < c)) = (F.take (i + 1)).filter (fun c => decide (x < c)) ++ (F.drop (i + 1)).filter (fun c => decide (x < c)) := fun x => by
  rw [← List.filter_append, List.take_append_drop]
 rw [h0]
 have h1 : (F.take (i + 1)).filter (fun c => decide (F[i] < c)) = [] := by
  rw [List.filter_eq_nil_iff]
  intro x hx
  obtain ⟨j, hj, rfl⟩ := List.getElem_of_mem hx
  rw [List.length_take] at hj
  rw [List.getElem_take]
  by_cases e : j = i
  ·subst e; simp
  ·have := List.pairwise_iff_getElem.mp hA j i (by omega) hi (by omega)
   simp
   omega
 have h2 : (F.drop (i + 1)).filter (fun c => decide (F[i] < c)) = F.drop (i + 1) := by
  rw [List.filter_eq_self]
  intro x hx
  obtain ⟨j, hj, rfl⟩ := List.getElem_of_mem hx
  rw [List.length_drop] at hj
  rw [List.getElem_drop]
  exact decide_eq_true (List.pairwise_iff_getElem.mp hA i (i + 1 + j) hi (by omega) (by omega))
 rw [h1, h2, List.nil_append]
include hF
theorem sp1_l0 : ∀ (d i : Nat) (acc : List (List Int)), i + d = F.length → (acc ++ (F.drop i).map fun c => [c]).length ≤ 100000 → ∃ K, ∀ k, K ≤ k → spec_StandsOf.l0 k 1 acc F (i : Int) = some (acc ++ (F.drop i).map fun c => [c])
 | 0, i, acc, hi, hb => by
  refine ⟨1, fun k hk => ?_⟩
  obtain ⟨k, rfl⟩ : ∃ m, k = m + 1 := ⟨k - 1, by omega⟩
  rw [spec_StandsOf.l0, if_neg (by omega), List.drop_of_length_le (by omega)]
  simp
 | d + 1, i, acc, hi, hb => by
  have hil : i < F.length := by omega
  have e9 : wrap64 ((i : Int) + 1) = ((i + 1 : Nat) : Int) := w64 (by omega) (by omega)
  rw [drop_cons F i hil, List.map_cons] at hb ⊢
  obtain ⟨K, h⟩ := sp1_l0 d (i + 1) (acc ++ [[F[i]]]) (by omega) (by simpa using hb)
  rw [List.append_assoc, List.singleton_append] at h
  refine ⟨K + 4, fun k hk => ?_⟩
  obtain ⟨k, rfl⟩ : ∃ m, k = m + 4 := ⟨k - 4, by omega⟩
  have hal : acc.length < 5864062014805 := by rw [List.length_append] at hb; omega
  rw [spec_StandsOf.l0, if_pos (by omega), if_pos rfl, if_pos (by omega), if_pos hal, spec_StandsOf.j2, spec_StandsOf.l1, e9, rd_get F i hil, decide_eq_false (show ¬ (1 : Int) > 1 by omega), ite_self, spec_StandsOf.j4, if_neg (by decide), e9]
  exact h k (by omega)
theorem sp2_l1 (i : Nat) (hi : i < F.length) (v : List (List Int)) : ∀ (e j : Nat) (acc : List (List Int)), j + e = F.length → (acc ++ (F.drop j).map fun y => [rd F (i : Int), y]).length ≤ 100000 → (∃ K, ∀ k, K ≤ k → spec_StandsOf.l0 k 2 (acc ++ (F.drop j).map fun y => [rd F (i : Int), y]) F ((i + 1 : Nat) : Int) = some v) → ∃ K, ∀ k, K ≤ k → spec_StandsOf.l1 k 2 acc F (i : Int) (j : Int) = some v
 | 0, j, acc, hj, hb, hc => by
  obtain ⟨K, h⟩ := hc
  rw [List.drop_of_length_le (by omega)] at h
  refine ⟨K + 2, fun k hk => ?_⟩
  obtain ⟨k, rfl⟩ : ∃ m, k = m + 2 := ⟨k - 2, by omega⟩
  rw [spec_StandsOf.l1, if_neg (by omega), spec_StandsOf.j4, if_neg (by decide), show wrap64 ((i : Int) + 1) = ((i + 1 : Nat) : Int) from w64 (by omega) (by omega)]
  have := h k (by omega)
  simpa using this
 | e + 1, j, acc, hj, hb, hc => by
  have hjl : j < F.length := by omega
  have e9 : wrap64 ((j : Int) + 1) = ((j + 1 : Nat) : Int) := w64 (by omega) (by omega)
  rw [drop_cons F j hjl, List.map_cons] at hb hc
  obtain ⟨K, h⟩ := sp2_l1 i hi v e (j + 1) (acc ++ [[rd F (i : Int), F[j]]]) (by omega) (by simpa using hb) (by rw [List.append_assoc, List.singleton_append]; exact hc)
  refine ⟨K + 4, fun k hk => ?_⟩
  obtain ⟨k, rfl⟩ : ∃ m, k = m + 4 := ⟨k - 4, by omega⟩
  have hal : acc.length < 5864062014805 := by rw [List.length_append] at hb; omega
  have hx : spec_StandsOf.l2 (k + 1) 2 (acc ++ [[rd F (i : Int), F[j]]]) F (i : Int) (j : Int) ((j + 1 : Nat) : Int) = spec_StandsOf.l1 k 2 (acc ++ [[rd F (i : Int), F[j]]]) F (i : Int) ((j + 1 : Nat) : Int) := by
   rw [spec_StandsOf.l2, if_neg (show ¬ (2 : Int) > 2 by omega), ite_self, e9]
  rw [spec_StandsOf.l1, if_pos (by omega), decide_eq_true (show (2 : Int) > 1 by omega), spec_StandsOf.j4, if_pos rfl, if_pos rfl, if_pos (by omega), if_pos (by omega), if_pos (by omega), if_pos (by omega), if_pos hal, spec_StandsOf.j5, rd_get F j hjl, e9, hx]
  exact h k (by omega)
theorem sp2_l0 : ∀ (d i : Nat) (acc : List (List Int)), i + d = F.length → (acc ++ (F.drop i).flatMap (G2 F)).length ≤ 100000 → ∃ K, ∀ k, K ≤ k → spec_StandsOf.l0 k 2 acc F (i : Int) = some (acc ++ (F.drop i).flatMap (G2 F))
 | 0, i, acc, hi, hb => by
  refine ⟨1, fun k hk => ?_⟩
  obtain ⟨k, rfl⟩ : ∃ m, k = m + 1 := ⟨k - 1, by omega⟩
  rw [spec_StandsOf.l0, if_neg (by omega), List.drop_of_length_le (by omega)]
  simp
 | d + 1, i, acc, hi, hb => by
  have hil : i < F.length := by omega
  have e9 : wrap64 ((i : Int) + 1) = ((i + 1 : Nat) : Int) := w64 (by omega) (by omega)
  have hg : G2 F F[i] = (F.drop (i + 1)).map fun y => [rd F (i : Int), y] := by
   unfold G2
   rw [← rd_get F i hil, gt_drop F hA i hil]
  rw [drop_cons F i hil, List.flatMap_cons, hg, ← List.append_assoc] at hb ⊢
  obtain ⟨K, h⟩ := sp2_l0 d (i + 1) (acc ++ (F.drop (i + 1)).map fun y => [rd F (i : Int), y]) (by omega) hb
  obtain ⟨K2, h2⟩ := sp2_l1 F hF hA i hil _ d (i + 1) acc (by omega) (by rw [List.length_append] at hb; omega) ⟨K, h⟩
  refine ⟨K2 + 2, fun k hk => ?_⟩
  obtain ⟨k, rfl⟩ : ∃ m, k = m + 2 := ⟨k - 2, by omega⟩
  rw [spec_StandsOf.l0, if_pos (by omega), if_neg (by decide), spec_StandsOf.j2, e9]
  exact h2 k (by omega)
theorem sp3_l2 (i j : Nat) (hi : i < F.length) (hj : j < F.length) (v : List (List Int)) : ∀ (e m : Nat) (acc : List (List Int)), m + e = F.length → (acc ++ (F.drop m).map fun z => [rd F (i : Int), rd F (j : Int), z]).length ≤ 100000 → (∃ K, ∀ k, K ≤ k → spec_StandsOf.l1 k 3 (acc ++ (F.drop m).map fun z => [rd F (i : Int), rd F (j : Int), z]) F (i : Int) ((j + 1 : Nat) : Int) = some v) → ∃ K, ∀ k, K ≤ k → spec_StandsOf.l2 k 3 acc F (i : Int) (j : Int) (m : Int) = some v
 | 0, m, acc, hm, hb, hc => by
  obtain ⟨K, h⟩ := hc
  rw [List.drop_of_length_le (by omega)] at h
  refine ⟨K + 1, fun k hk => ?_⟩
  obtain ⟨k, rfl⟩ : ∃ m, k = m + 1 := ⟨k - 1, by omega⟩
  rw [spec_StandsOf.l2, if_neg (by omega), show wrap64 ((j : Int) + 1) = ((j + 1 : Nat) : Int) from w64 (by omega) (by omega)]
  have := h k (by omega)
  simpa using this
 | e + 1, m, acc, hm, hb, hc => by
  have hml : m < F.length := by omega
  have e9 : wrap64 ((m : Int) + 1) = ((m + 1 : Nat) : Int) := w64 (by omega) (by omega)
  rw [drop_cons F m hml, List.map_cons] at hb hc
  obtain ⟨K, h⟩ := sp3_l2 i j hi hj v e (m + 1) (acc ++ [[rd F (i : Int), rd F (j : Int), F[m]]]) (by omega) (by simpa using hb) (by rw [List.append_assoc, List.singleton_append]; exact hc)
  refine ⟨K + 1, fun k hk => ?_⟩
  obtain ⟨k, rfl⟩ : ∃ m, k = m + 1 := ⟨k - 1, by omega⟩
  have hal : acc.length < 5864062014805 := by rw [List.length_append] at hb; omega
  rw [spec_StandsOf.l2, if_pos (by omega), if_pos (show (3 : Int) > 2 by omega), if_pos (by omega), if_pos (by omega), if_pos (by omega), if_pos (by omega), if_pos (by omega), if_pos hal, rd_get F m hml, e9]
  exact h k (by omega)
theorem sp3_l1 (i : Nat) (hi : i < F.length) (v : List (List Int)) : ∀ (e j : Nat) (acc : List (List Int)), j + e = F.length → (acc ++ (F.drop j).flatMap (G3a F (rd F (i : Int)))).length ≤ 100000 → (∃ K, ∀ k, K ≤ k → spec_StandsOf.l0 k 3 (acc ++ (F.drop j).flatMap (G3a F (rd F (i : Int)))) F ((i + 1 : Nat) : Int) = some v) → ∃ K, ∀ k, K ≤ k → spec_StandsOf.l1 k 3 acc F (i : Int) (j : Int) = some v
 | 0, j, acc, hj, hb, hc => by
  obtain ⟨K, h⟩ := hc
  rw [List.drop_of_length_le (by omega)] at h
  refine ⟨K + 2, fun k hk => ?_⟩
  obtain ⟨k, rfl⟩ : ∃ m, k = m + 2 := ⟨k - 2, by omega⟩
  rw [spec_StandsOf.l1, if_neg (by omega), spec_StandsOf.j4, if_neg (by decide), show wrap64 ((i : Int) + 1) = ((i + 1 : Nat) : Int) from w64 (by omega) (by omega)]
  have := h k (by omega)
  simpa using this
 | e + 1, j, acc, hj, hb, hc => by
  have hjl : j < F.length := by omega
  have e9 : wrap64 ((j : Int) + 1) = ((j + 1 : Nat) : Int) := w64 (by omega) (by omega)
  have hg : G3a F (rd F (i : Int)) F[j] = (F.drop (j + 1)).map fun z => [rd F (i : Int), rd F (j : Int), z] := by
   unfold G3a
   rw [← rd_get F j hjl, gt_drop F hA j hjl]
  rw [drop_cons F j hjl, List.flatMap_cons, hg, ← List.append_assoc] at hb hc
  obtain ⟨K, h⟩ := sp3_l1 i hi v e (j + 1) (acc ++ (F.drop (j + 1)).map fun z => [rd F (i : Int), rd F (j : Int), z]) (by omega) hb hc
  obtain ⟨K2, h2⟩ := sp3_l2 F hF hA i j hi hjl v e (j + 1) acc (by omega) (by rw [List.length_append] at hb; omega) ⟨K, h⟩
  refine ⟨K2 + 3, fun k hk => ?_⟩
  obtain ⟨k, rfl⟩ : ∃ m, k = m + 3 := ⟨k - 3, by omega⟩
  rw [spec_StandsOf.l1, if_pos (by omega), decide_eq_true (show (3 : Int) > 1 by omega), spec_StandsOf.j4, if_pos rfl, if_neg (by decide), spec_StandsOf.j5, e9]
  exact h2 k (by omega)
theorem sp3_l0 : ∀ (d i : Nat) (acc : List (List Int)), i + d = F.length → (acc ++ (F.drop i).flatMap (G3 F)).length ≤ 100000 → ∃ K, ∀ k, K ≤ k → spec_StandsOf.l0 k 3 acc F (i : Int) = some (acc ++ (F.drop i).flatMap (G3 F))
 | 0, i, acc, hi, hb => by
  refine ⟨1, fun k hk => ?_⟩
  obtain ⟨k, rfl⟩ : ∃ m, k = m + 1 := ⟨k - 1, by omega⟩
  rw [spec_StandsOf.l0, if_neg (by omega), List.drop_of_length_le (by omega)]
  simp
 | d + 1, i, acc, hi, hb => by
  have hil : i < F.length := by omega
  have e9 : wrap64 ((i : Int) + 1) = ((i + 1 : Nat) : Int) := w64 (by omega) (by omega)
  have hg : G3 F F[i] = (F.drop (i + 1)).flatMap (G3a F (rd F (i : Int))) := by
   unfold G3
   rw [← rd_get F i hil, gt_drop F hA i hil]
  rw [drop_cons F i hil, List.flatMap_cons, hg, ← List.append_assoc] at hb ⊢
  obtain ⟨K, h⟩ := sp3_l0 d (i + 1) (acc ++ (F.drop (i + 1)).flatMap (G3a F (rd F (i : Int)))) (by omega) hb
  obtain ⟨K2, h2⟩ := sp3_l1 F hF hA i hil _ d (i + 1) acc (by omega) (by rw [List.length_append] at hb; omega) ⟨K, h⟩
  refine ⟨K2 + 2, fun k hk => ?_⟩
  obtain ⟨k, rfl⟩ : ∃ m, k = m + 2 := ⟨k - 2, by omega⟩
  rw [spec_StandsOf.l0, if_pos (by omega), if_neg (by decide), spec_StandsOf.j2, e9]
  exact h2 k (by omega)
end
theorem standsF_len (F : List Int) (hF : F.length ≤ 9) (n : Nat) : (standsF F n).length ≤ 729 := by
 have g2 : ∀ x, (G2 F x).length ≤ 9 := fun x => by unfold G2; rw [List.length_map]; have := gt_len F x; omega
 have g3a : ∀ x y, (G3a F x y).length ≤ 9 := fun x y => by unfold G3a; rw [List.length_map]; have := gt_len F y; omega
 have g3 : ∀ x, (G3 F x).length ≤ 81 := fun x => by
  have h1 := flatMap_len (G3a F x) 9 (g3a x) (gt F x)
  have h2 := gt_len F x
  unfold G3
  omega
 unfold standsF
 split
 ·rw [List.length_map]; omega
 ·split
  ·have := flatMap_len (G2 F) 9 g2 F; omega
  ·have := flatMap_len (G3 F) 81 g3 F; omega
end Go.Proofs.Ytooofofeihkpcaa.Pure
/- Joint plans: the least sums, time after time. -/
namespace Go.Proofs.Ytooofofeihkpcaa.Pure
open Go.RowKit Go.Proofs.Ytooofofeihkpcaa.Q Go.Proofs.YtooofofeihkpcaaW.PrintWords Go.Proofs.YtooofofeihkpcaaW.PrintLast Go.Proofs.YtooofofeihkpcaaW.PrintMore
theorem wn (i : Nat) (h : i ≤ 2000000) : wrap64 ((i : Int) + 1) = ((i + 1 : Nat) : Int) := by rw [w64 (by omega) (by omega)]; rfl
theorem unif (P : Nat → Nat → Prop) : ∀ n, (∀ i, i < n → ∃ K, ∀ k, K ≤ k → P i k) → ∃ K, ∀ k, K ≤ k → ∀ i, i < n → P i k
 | 0, _ => ⟨0, fun _ _ i h => absurd h (by omega)⟩
 | n + 1, h => by
  obtain ⟨K1, h1⟩ := unif P n (fun i hi => h i (by omega))
  obtain ⟨K2, h2⟩ := h n (by omega)
  refine ⟨K1 + K2, fun k hk i hi => ?_⟩
  rcases Nat.lt_or_ge i n with c | c
  ·exact h1 k (by omega) i c
  ·obtain rfl : i = n := by omega
   exact h2 k (by omega)
def gI (f : Nat → Int) (n : Nat) : List Int := (List.range n).map f
def gL (f : Nat → List Int) (n : Nat) : List (List Int) := (List.range n).map f
theorem gI_length (f : Nat → Int) (n : Nat) : (gI f n).length = n := by simp [gI]
theorem gL_length (f : Nat → List Int) (n : Nat) : (gL f n).length = n := by simp [gL]
theorem gI_rd (f : Nat → Int) (n i : Nat) (h : i < n) : rd (gI f n) (i : Int) = f i := by rw [rd_get _ i (by rw [gI_length]; exact h)]; simp [gI]
theorem gL_rd (f : Nat → List Int) (n i : Nat) (h : i < n) : rd_L1 (gL f n) (i : Int) = f i := by simp [rd_L1, gL, h]
theorem gI_congr {f g : Nat → Int} {n : Nat} (h : ∀ q, q < n → f q = g q) : gI f n = gI g n := List.map_congr_left (fun q hq => h q (List.mem_range.mp hq))
theorem gL_congr {f g : Nat → List Int} {n : Nat} (h : ∀ q, q < n → f q = g q) : gL f n = gL g n := List.map_congr_left (fun q hq => h q (List.mem_range.mp hq))
theorem gI_set (f : Nat → Int) (n i : Nat) (v : Int) : (gI f n).set i v = gI (fun q => if q = i then v else f q) n := by
 refine List.ext_getElem (by simp [gI]) (fun q h1 h2 => ?_)
 simp only [gI, List.getElem_set, List.getElem_map, List.getElem_range]
 by_cases c : i = q
 ·rw [if_pos c, if_pos c.symm]
 ·rw [if_neg c, if_neg (fun e => c e.symm)]
theorem gL_set (f : Nat → List Int) (n i : Nat) (v : List Int) : (gL f n).set i v = gL (fun q => if q = i then v else f q) n := by
 refine List.ext_getElem (by simp [gL]) (fun q h1 h2 => ?_)
 simp only [gL, List.getElem_set, List.getElem_map, List.getElem_range]
 by_cases c : i = q
 ·rw [if_pos c, if_pos c.symm]
 ·rw [if_neg c, if_neg (fun e => c e.symm)]
theorem gI_succ (f : Nat → Int) (n : Nat) : gI f (n + 1) = gI f n ++ [f n] := by simp [gI, List.range_succ]
theorem gL_succ (f : Nat → List Int) (n : Nat) : gL f (n + 1) = gL f n ++ [f n] := by simp [gL, List.range_succ]
theorem gI_const (c : Int) : ∀ n, List.replicate n c = gI (fun _ => c) n
 | 0 => rfl
 | n + 1 => by rw [gI_succ, ← gI_const c n, List.replicate_succ', List.append_cancel_left_eq]
theorem gL_const (c : List Int) : ∀ n, List.replicate n c = gL (fun _ => c) n
 | 0 => rfl
 | n + 1 => by rw [gL_succ, ← gL_const c n, List.replicate_succ', List.append_cancel_left_eq]
def upd (best x m : Int) : Int := if x < 0 then best else if m < 0 then best else if best < 0 then x + m else if x + m < best then x + m else best
def cst (M : Nat → Nat → Int) (x : Nat → Int) (j : Nat) : Nat → Int
 | 0 => -1
 | i + 1 => upd (cst M x j i) (x i) (M i j)
def Li (L : List (List Int)) (i : Nat) : List Int := rd_L1 L (i : Int)
def Ct (st : List Int) (L : List (List Int)) (M : Nat → Nat → Int) : Nat → Nat → Int
 | 0, q => if Li L q = st then 0 else -1
 | t + 1, q => cst M (Ct st L M t) q L.length
def hd (goals l : List Int) : Bool := goals.all fun g => decide (g ∈ l)
def bu (f : Bool) (best x : Int) : Int := if f = true then (if best < 0 then x else if x < best then x else best) else best
def bst (goals : List Int) (L : List (List Int)) (x : Nat → Int) : Nat → Int
 | 0 => -1
 | i + 1 => bu (decide (x i ≥ 0) && hd goals (Li L i)) (bst goals L x i) (x i)
theorem upd_ok (best x m B : Int) (h1 : -1 ≤ best) (h2 : best ≤ B + 3) (_h3 : -1 ≤ x) (h4 : x ≤ B) (h5 : -1 ≤ m) (h6 : m ≤ 3) : -1 ≤ upd best x m ∧ upd best x m ≤ B + 3 := by
 unfold upd
 repeat' split
 all_goals omega
theorem cst_ok (M : Nat → Nat → Int) (hM : ∀ i j, -1 ≤ M i j ∧ M i j ≤ 3) (x : Nat → Int) (B : Int) (hB : 0 ≤ B) (hx : ∀ q, -1 ≤ x q ∧ x q ≤ B) (j : Nat) : ∀ i, -1 ≤ cst M x j i ∧ cst M x j i ≤ B + 3
 | 0 => by unfold cst; omega
 | i + 1 => by
  obtain ⟨h1, h2⟩ := cst_ok M hM x B hB hx j i
  exact upd_ok _ _ _ B h1 h2 (hx i).1 (hx i).2 (hM i j).1 (hM i j).2
theorem Ct_ok (st : List Int) (L : List (List Int)) (M : Nat → Nat → Int) (hM : ∀ i j, -1 ≤ M i j ∧ M i j ≤ 3) : ∀ t q, -1 ≤ Ct st L M t q ∧ Ct st L M t q ≤ 3 * t
 | 0, q => by unfold Ct; split <;> omega
 | t + 1, q => by
  have := cst_ok M hM (Ct st L M t) (3 * t) (by omega) (Ct_ok st L M hM t) q L.length
  unfold Ct
  omega
theorem equal_l0 (a b : List Int) (hl : a.length = b.length) (hn : a.length ≤ 1048576) : ∀ (d i k : Nat), i + d = a.length → d < k → slices_Equal_int_int.l0 k a b (a.length : Int) (i : Int) = some (decide (a.drop i = b.drop i))
 | 0, i, k, hi, hk => by
  obtain ⟨k, rfl⟩ : ∃ m, k = m + 1 := ⟨k - 1, by omega⟩
  rw [slices_Equal_int_int.l0, if_neg (by omega), List.drop_of_length_le (by omega), List.drop_of_length_le (by omega)]
  rfl
 | d + 1, i, k, hi, hk => by
  obtain ⟨k, rfl⟩ : ∃ m, k = m + 1 := ⟨k - 1, by omega⟩
  rw [slices_Equal_int_int.l0, if_pos (by omega), if_pos (by omega), if_pos (by omega), if_pos (by omega), rd_get a i (by omega), rd_get b i (by omega), drop_cons a i (by omega), drop_cons b i (by omega), wn i (by omega)]
  by_cases h : a[i]'(by omega) = b[i]'(by omega)
  ·rw [if_pos h, equal_l0 a b hl hn d (i + 1) k (by omega) (by omega)]
   simp only [h, List.cons.injEq, true_and]
  ·rw [if_neg h]
   simp only [List.cons.injEq, h, false_and, decide_false]
theorem equal_eq (a b : List Int) (hn : a.length ≤ 1048576) (k : Nat) (hk : a.length < k) : slices_Equal_int_int.f k a b = some (decide (a = b)) := by
 unfold slices_Equal_int_int.f
 by_cases h : a.length = b.length
 ·rw [if_pos (by omega)]
  have := equal_l0 a b h hn a.length 0 k (by omega) hk
  simpa using this
 ·rw [if_neg (by omega), decide_eq_false (fun e => h (by rw [e]))]
theorem hof_hd (goals l : List Int) : hof_joint.f goals l = some (!(hd goals l)) := by
 unfold hof_joint.f hd
 congr 1
 induction goals with
 | nil => rfl
 | cons g gs ih => rw [List.any_cons, List.all_cons, ih, Bool.not_and]; rfl
theorem rep1 (n : Nat) (hn : n ≤ 1000) : slices_Repeat_int_int.f [(-1 : Int)] (n : Int) = some (gI (fun _ => -1) n) := by
 unfold slices_Repeat_int_int.f
 rw [if_pos ⟨rfl, by omega, by omega⟩, Int.toNat_natCast, ← gI_const]
 rfl
section
variable (goals : List Int) (span : Nat) (L B : List (List Int)) (M : Nat → Nat → Int) (hM : ∀ i j, -1 ≤ M i j ∧ M i j ≤ 3) (hL : L.length ≤ 729)
variable (x : Nat → Int) (hx : ∀ q, -1 ≤ x q ∧ x q ≤ 30)
include hM hL hx
theorem ij_l6 (out : List Int) (t : Int) (v : List Int) (hBl : B.length = L.length) (i : Nat) (hi : i < L.length) (hc : ∃ K, ∀ k, K ≤ k → impl_joint.l5 k goals (span : Int) L B (gI x L.length) out t (gI (fun q => cst M x q (i + 1)) L.length) (L.length : Int) ((i + 1 : Nat) : Int) = some v) :
  ∀ (d j : Nat), j + d = L.length → ∃ K, ∀ k, K ≤ k → impl_joint.l6 k goals (span : Int) L B (gI x L.length) out t (gI (fun q => if q < j then cst M x q (i + 1) else cst M x q i) L.length) (i : Int) (L.length : Int) (i : Int) (gI (M i) L.length) (L.length : Int) (j : Int) = some v
 | 0, j, hj => by
  obtain ⟨K, h⟩ := hc
  have hcg : gI (fun q => if q < j then cst M x q (i + 1) else cst M x q i) L.length = gI (fun q => cst M x q (i + 1)) L.length := gI_congr fun q hq => if_pos (by omega)
  refine ⟨K + 1, fun k hk => ?_⟩
  obtain ⟨k, rfl⟩ : ∃ m, k = m + 1 := ⟨k - 1, by omega⟩
  have h := h k (by omega)
  rw [impl_joint.l6, if_neg (by omega), wn i (by omega), hcg]
  exact h
 | d + 1, j, hj => by
  obtain ⟨K, h⟩ := ij_l6 out t v hBl i hi hc d (j + 1) (by omega)
  have hjl : j < L.length := by omega
  have c1 : (j : Int) < (L.length : Int) := by omega
  have c2 : (0 : Int) ≤ (j : Int) := by omega
  have c3 : (j : Int) < ((gI (M i) L.length).length : Int) := by rw [gI_length]; exact c1
  have c4 : (0 : Int) ≤ (i : Int) := by omega
  have c5 : (i : Int) < ((gI x L.length).length : Int) := by rw [gI_length]; omega
  have c6 : (j : Int) < ((gI (fun q => if q < j then cst M x q (i + 1) else cst M x q i) L.length).length : Int) := by rw [gI_length]; exact c1
  have r1 := gI_rd x L.length i hi
  have r2 := gI_rd (M i) L.length j hjl
  have r3 : rd (gI (fun q => if q < j then cst M x q (i + 1) else cst M x q i) L.length) (j : Int) = cst M x j i := by rw [gI_rd _ _ j hjl, if_neg (by omega)]
  have b1 := hx i
  have b2 := hM i j
  have w1 : wrap64 (x i + M i j) = x i + M i j := w64 (by omega) (by omega)
  have hst : ∀ u, cst M x j (i + 1) = u → (gI (fun q => if q < j then cst M x q (i + 1) else cst M x q i) L.length).set j u = gI (fun q => if q < j + 1 then cst M x q (i + 1) else cst M x q i) L.length := fun u hu => by
   rw [gI_set]
   refine gI_congr fun q hq => ?_
   by_cases e : q = j
   ·subst e; rw [if_pos rfl, if_pos (by omega), hu]
   ·rw [if_neg e]
    by_cases e2 : q < j
    ·rw [if_pos e2, if_pos (by omega)]
    ·rw [if_neg e2, if_neg (by omega)]
  have hsk : cst M x j (i + 1) = cst M x j i → gI (fun q => if q < j then cst M x q (i + 1) else cst M x q i) L.length = gI (fun q => if q < j + 1 then cst M x q (i + 1) else cst M x q i) L.length := fun hu => by
   refine gI_congr fun q hq => ?_
   by_cases e : q = j
   ·subst e; rw [if_neg (by omega), if_pos (by omega), hu]
   ·by_cases e2 : q < j
    ·rw [if_pos e2, if_pos (by omega)]
    ·rw [if_neg e2, if_neg (by omega)]
  have hup : cst M x j (i + 1) = upd (cst M x j i) (x i) (M i j) := rfl
  refine ⟨K + 1, fun k hk => ?_⟩
  obtain ⟨k, rfl⟩ : ∃ m, k = m + 1 := ⟨k - 1, by omega⟩
  have h := h k (by omega)
  rw [impl_joint.l6, if_pos c1, if_pos c2, if_pos c3, if_pos c4, if_pos c5, r1, r2, wn j (by omega)]
  by_cases d1 : x i ≥ 0
  ·rw [if_pos d1]
   by_cases d2 : M i j ≥ 0
   ·rw [if_pos d2, if_pos c6, r3, w1, Int.toNat_natCast]
    by_cases d3 : cst M x j i < 0
    ·rw [if_pos d3, hst _ (by rw [hup]; unfold upd; rw [if_neg (by omega), if_neg (by omega), if_pos d3])]
     exact h
    ·rw [if_neg d3]
     by_cases d4 : x i + M i j < cst M x j i
     ·rw [if_pos d4, hst _ (by rw [hup]; unfold upd; rw [if_neg (by omega), if_neg (by omega), if_neg d3, if_pos d4])]
      exact h
     ·rw [if_neg d4, hsk (by rw [hup]; unfold upd; rw [if_neg (by omega), if_neg (by omega), if_neg d3, if_neg d4])]
      exact h
   ·rw [if_neg d2, hsk (by rw [hup]; unfold upd; rw [if_neg (by omega), if_pos (by omega)])]
    exact h
  ·rw [if_neg d1, hsk (by rw [hup]; unfold upd; rw [if_pos (by omega)])]
   exact h
theorem ij_l5 (out : List Int) (t : Nat) (ht : t ≤ 100) (v : List Int) (hB : B = gL (fun i => gI (M i) L.length) L.length) (hc : ∃ K, ∀ k, K ≤ k → impl_joint.l3 k goals (span : Int) L B (gI (fun q => cst M x q L.length) L.length) out ((t + 1 : Nat) : Int) = some v) :
  ∀ (d i : Nat), i + d = L.length → ∃ K, ∀ k, K ≤ k → impl_joint.l5 k goals (span : Int) L B (gI x L.length) out (t : Int) (gI (fun q => cst M x q i) L.length) (L.length : Int) (i : Int) = some v
 | 0, i, hi => by
  obtain ⟨K, h⟩ := hc
  obtain rfl : i = L.length := by omega
  refine ⟨K + 1, fun k hk => ?_⟩
  obtain ⟨k, rfl⟩ : ∃ m, k = m + 1 := ⟨k - 1, by omega⟩
  have h := h k (by omega)
  rw [impl_joint.l5, if_neg (by omega), wn t (by omega)]
  exact h
 | d + 1, i, hi => by
  have hil : i < L.length := by omega
  have hBl : B.length = L.length := by rw [hB, gL_length]
  obtain ⟨K, h⟩ := ij_l6 goals span L B M hM hL x hx out (t : Int) v hBl i hil (ij_l5 out t ht v hB hc d (i + 1) (by omega)) L.length 0 (by omega)
  have c1 : (i : Int) < (L.length : Int) := by omega
  have c2 : (0 : Int) ≤ (i : Int) := by omega
  have c3 : (i : Int) < (B.length : Int) := by omega
  have r1 : rd_L1 B (i : Int) = gI (M i) L.length := by rw [hB, gL_rd _ _ i hil]
  have hcg : gI (fun q => if q < 0 then cst M x q (i + 1) else cst M x q i) L.length = gI (fun q => cst M x q i) L.length := gI_congr fun q hq => if_neg (by omega)
  refine ⟨K + 1, fun k hk => ?_⟩
  obtain ⟨k, rfl⟩ : ∃ m, k = m + 1 := ⟨k - 1, by omega⟩
  have h := h k (by omega)
  rw [hcg] at h
  rw [impl_joint.l5, if_pos c1, if_pos c2, if_pos c3, r1, gI_length]
  exact h
theorem ij_l4 (out : List Int) (ho : out.length ≤ 1000) (t : Int) (v : List Int) (hc : ∃ K, ∀ k, K ≤ k → impl_joint.l5 k goals (span : Int) L B (gI x L.length) (out ++ [bst goals L x L.length]) t (gI (fun _ => -1) L.length) (L.length : Int) 0 = some v) :
  ∀ (d i : Nat), i + d = L.length → ∃ K, ∀ k, K ≤ k → impl_joint.l4 k goals (span : Int) L B (gI x L.length) out t (bst goals L x i) L (L.length : Int) (i : Int) = some v
 | 0, i, hi => by
  obtain ⟨K, h⟩ := hc
  obtain rfl : i = L.length := by omega
  have c1 : out.length < 17592186044416 := by omega
  refine ⟨K + 1, fun k hk => ?_⟩
  obtain ⟨k, rfl⟩ : ∃ m, k = m + 1 := ⟨k - 1, by omega⟩
  have h := h k (by omega)
  rw [impl_joint.l4, if_neg (by omega), if_pos c1, rep1 _ (by omega), Option.bind_some]
  exact h
 | d + 1, i, hi => by
  obtain ⟨K, h⟩ := ij_l4 out ho t v hc d (i + 1) (by omega)
  have hil : i < L.length := by omega
  have c1 : (i : Int) < (L.length : Int) := by omega
  have c2 : (0 : Int) ≤ (i : Int) := by omega
  have c3 : (i : Int) < ((gI x L.length).length : Int) := by rw [gI_length]; exact c1
  have r1 := gI_rd x L.length i hil
  have hb : bst goals L x (i + 1) = bu (decide (x i ≥ 0) && hd goals (Li L i)) (bst goals L x i) (x i) := rfl
  refine ⟨K + 1, fun k hk => ?_⟩
  obtain ⟨k, rfl⟩ : ∃ m, k = m + 1 := ⟨k - 1, by omega⟩
  have h := h k (by omega)
  rw [hb] at h
  unfold bu at h
  rw [impl_joint.l4, if_pos c1, if_pos c2, if_pos c1, hof_hd, Option.bind_some, wn i (by omega)]
  show (if (!(hd goals (Li L i))) = true then _ else _) = _
  cases e : hd goals (Li L i) with
  | false =>
   rw [e, Bool.and_false, if_neg (by decide)] at h
   rw [if_pos (by decide)]
   exact h
  | true =>
   rw [e, Bool.and_true] at h
   rw [if_neg (by decide), if_pos c3, r1]
   by_cases d1 : x i ≥ 0
   ·rw [decide_eq_true d1, if_pos rfl] at h
    rw [if_pos d1]
    by_cases d2 : bst goals L x i < 0
    ·rw [if_pos d2] at h ⊢; exact h
    ·rw [if_neg d2] at h ⊢
     by_cases d3 : x i < bst goals L x i
     ·rw [if_pos d3] at h ⊢; exact h
     ·rw [if_neg d3] at h ⊢; exact h
   ·rw [decide_eq_false d1, if_neg (by decide)] at h
    rw [if_neg d1]
    exact h
omit hM in
theorem sl_l1 (i : Nat) (hi : i < L.length) (hg : goals.length ≤ 1048576) (hs : ∀ q, q < L.length → (Li L q).length ≤ 3) (v : Int) (best : Int) (hc : ∃ K, ∀ k, K ≤ k → spec_l16Least.l0 k goals (gI x L.length) L (bu (decide (x i ≥ 0) && hd goals (Li L i)) best (x i)) ((i + 1 : Nat) : Int) = some v) :
  ∀ (d g : Nat), g + d = goals.length → ∃ K, ∀ k, K ≤ k → spec_l16Least.l1 k goals (gI x L.length) L best (i : Int) (decide (x i ≥ 0) && hd (goals.take g) (Li L i)) (g : Int) = some v
 | 0, g, h0 => by
  obtain ⟨K, h⟩ := hc
  have c1 : (i : Int) < ((gI x L.length).length : Int) := by rw [gI_length]; omega
  have c2 : (0 : Int) ≤ (i : Int) := by omega
  have r1 := gI_rd x L.length i hi
  refine ⟨K + 1, fun k hk => ?_⟩
  obtain ⟨k, rfl⟩ : ∃ m, k = m + 1 := ⟨k - 1, by omega⟩
  have h := h k (by omega)
  unfold bu at h
  rw [spec_l16Least.l1, if_neg (by omega), List.take_of_length_le (by omega), wn i (by omega), r1]
  generalize (decide (x i ≥ 0) && hd goals (Li L i)) = f at h ⊢
  cases f with
  | false => rw [if_neg (by decide)] at h ⊢; exact h
  | true =>
   rw [if_pos rfl] at h ⊢
   by_cases d2 : best < 0
   ·rw [if_pos d2] at h ⊢; rw [if_pos c2, if_pos c1]; exact h
   ·rw [if_neg d2] at h ⊢
    rw [if_pos c2, if_pos c1]
    by_cases d3 : x i < best
    ·rw [if_pos d3] at h ⊢; exact h
    ·rw [if_neg d3] at h ⊢; exact h
 | d + 1, g, h0 => by
  obtain ⟨K, h⟩ := sl_l1 i hi hg hs v best hc d (g + 1) (by omega)
  have hgl : g < goals.length := by omega
  have c1 : (g : Int) < (goals.length : Int) := by omega
  have c2 : (0 : Int) ≤ (i : Int) := by omega
  have c3 : (i : Int) < (L.length : Int) := by omega
  have c4 : (0 : Int) ≤ (g : Int) := by omega
  have hl3 := hs i hi
  have hhd : hd (goals.take (g + 1)) (Li L i) = (hd (goals.take g) (Li L i) && decide (rd goals (g : Int) ∈ Li L i)) := by
   unfold hd
   rw [List.take_succ_eq_append_getElem hgl, List.all_append, rd_get goals g hgl]
   simp
  rw [hhd] at h
  refine ⟨K + 5, fun k hk => ?_⟩
  obtain ⟨k, rfl⟩ : ∃ m, k = m + 1 := ⟨k - 1, by omega⟩
  have h := h k (by omega)
  have hh := has_eq (Li L i) (rd goals (g : Int)) (by omega) k (by omega)
  unfold Li at hh
  rw [spec_l16Least.l1, if_pos c1, if_pos c2, if_pos c3, if_pos c4, hh, Option.bind_some, wn g (by omega)]
  show (if decide (rd goals (g : Int) ∈ Li L i) = true then _ else _) = _
  cases e : decide (rd goals (g : Int) ∈ Li L i) with
  | true => rw [e, Bool.and_true] at h; rw [if_pos rfl]; exact h
  | false => rw [e, Bool.and_false, Bool.and_false] at h; rw [if_neg (by decide)]; exact h
omit hM in
theorem sl_l0 (hg : goals.length ≤ 1048576) (hs : ∀ q, q < L.length → (Li L q).length ≤ 3) : ∀ (d i : Nat), i + d = L.length → ∃ K, ∀ k, K ≤ k → spec_l16Least.l0 k goals (gI x L.length) L (bst goals L x i) (i : Int) = some (bst goals L x L.length)
 | 0, i, hi => by
  obtain rfl : i = L.length := by omega
  refine ⟨1, fun k hk => ?_⟩
  obtain ⟨k, rfl⟩ : ∃ m, k = m + 1 := ⟨k - 1, by omega⟩
  rw [spec_l16Least.l0, if_neg (by omega)]
 | d + 1, i, hi => by
  have hil : i < L.length := by omega
  obtain ⟨K, h⟩ := sl_l1 goals L hL x hx i hil hg hs (bst goals L x L.length) (bst goals L x i) (sl_l0 hg hs d (i + 1) (by omega)) goals.length 0 (by omega)
  have c1 : (i : Int) < (L.length : Int) := by omega
  have c2 : (0 : Int) ≤ (i : Int) := by omega
  have c3 : (i : Int) < ((gI x L.length).length : Int) := by rw [gI_length]; exact c1
  have r1 := gI_rd x L.length i hil
  refine ⟨K + 1, fun k hk => ?_⟩
  obtain ⟨k, rfl⟩ : ∃ m, k = m + 1 := ⟨k - 1, by omega⟩
  have h := h k (by omega)
  rw [List.take_zero, show hd [] (Li L i) = true from rfl, Bool.and_true] at h
  rw [spec_l16Least.l0, if_pos c1, if_pos c2, if_pos c3, r1]
  exact h
end
section
variable (a b : Int) (s : ByteArray) (goals st : List Int) (span : Nat) (hsp : span ≤ 8) (L : List (List Int)) (M : Nat → Nat → Int) (hM : ∀ i j, -1 ≤ M i j ∧ M i j ≤ 3) (hL : L.length ≤ 729)
include hM hL hsp
def Bt (L : List (List Int)) (M : Nat → Nat → Int) (i j : Nat) : List (List Int) := gL (fun r => if r < i then gI (M r) L.length else if r = i then gI (M i) j else []) L.length
omit hsp in
theorem Bt_end (i : Nat) : Bt L M i L.length = Bt L M (i + 1) 0 := by
 unfold Bt
 refine gL_congr fun r hr => ?_
 by_cases c : r < i
 ·rw [if_pos c, if_pos (by omega)]
 ·rw [if_neg c]
  by_cases c2 : r = i
  ·rw [if_pos c2, if_pos (by omega), c2]
  ·rw [if_neg c2, if_neg (by omega)]
   split <;> rfl
theorem ij_l3 : ∀ (d t : Nat), t + d = span + 1 → ∃ K, ∀ k, K ≤ k → impl_joint.l3 k goals (span : Int) L (gL (fun i => gI (M i) L.length) L.length) (gI (Ct st L M t) L.length) (gI (fun t => bst goals L (Ct st L M t) L.length) t) (t : Int) = some (gI (fun t => bst goals L (Ct st L M t) L.length) (span + 1))
 | 0, t, ht => by
  obtain rfl : t = span + 1 := by omega
  refine ⟨1, fun k hk => ?_⟩
  obtain ⟨k, rfl⟩ : ∃ m, k = m + 1 := ⟨k - 1, by omega⟩
  rw [impl_joint.l3, if_neg (by omega)]
 | d + 1, t, ht => by
  have hx : ∀ q, -1 ≤ Ct st L M t q ∧ Ct st L M t q ≤ 30 := fun q => by have := Ct_ok st L M hM t q; omega
  obtain ⟨K0, h0⟩ := ij_l3 d (t + 1) (by omega)
  obtain ⟨K1, h1⟩ := ij_l5 goals span L _ M hM hL (Ct st L M t) hx (gI (fun t => bst goals L (Ct st L M t) L.length) (t + 1)) t (by omega) _ rfl ⟨K0, fun k hk => h0 k hk⟩ L.length 0 (by omega)
  obtain ⟨K2, h2⟩ := ij_l4 goals span L (gL (fun i => gI (M i) L.length) L.length) M hM hL (Ct st L M t) hx (gI (fun t => bst goals L (Ct st L M t) L.length) t) (by rw [gI_length]; omega) (t : Int) _ ⟨K1, fun k hk => by rw [← gI_succ (fun t => bst goals L (Ct st L M t) L.length) t]; exact h1 k hk⟩ L.length 0 (by omega)
  refine ⟨K2 + 1, fun k hk => ?_⟩
  obtain ⟨k, rfl⟩ : ∃ m, k = m + 1 := ⟨k - 1, by omega⟩
  rw [impl_joint.l3, if_pos (by omega)]
  exact h2 k (by omega)
theorem ij_l2 (hst : st.length ≤ 3) (hs : ∀ q, q < L.length → (Li L q).length ≤ 3) : ∀ (d i : Nat), i + d = L.length → ∃ K, ∀ k, K ≤ k → impl_joint.l2 k st goals (span : Int) L (gL (fun i => gI (M i) L.length) L.length) (gI (fun q => if q < i ∧ Li L q = st then 0 else -1) L.length) L (L.length : Int) (i : Int) = some (gI (fun t => bst goals L (Ct st L M t) L.length) (span + 1))
 | 0, i, hi => by
  obtain ⟨K, h⟩ := ij_l3 goals st span hsp L M hM hL (span + 1) 0 (by omega)
  have hcg : gI (fun q => if q < i ∧ Li L q = st then 0 else -1) L.length = gI (Ct st L M 0) L.length := gI_congr fun q hq => by
   unfold Ct
   by_cases c : Li L q = st
   ·rw [if_pos ⟨by omega, c⟩, if_pos c]
   ·rw [if_neg (fun h => c h.2), if_neg c]
  refine ⟨K + 1, fun k hk => ?_⟩
  obtain ⟨k, rfl⟩ : ∃ m, k = m + 1 := ⟨k - 1, by omega⟩
  rw [impl_joint.l2, if_neg (by omega), hcg]
  exact h k (by omega)
 | d + 1, i, hi => by
  obtain ⟨K, h⟩ := ij_l2 hst hs d (i + 1) (by omega)
  have hil : i < L.length := by omega
  have hl3 := hs i hil
  have c1 : (i : Int) < (L.length : Int) := by omega
  have c2 : (0 : Int) ≤ (i : Int) := by omega
  have c3 : (i : Int) < ((gI (fun q => if q < i ∧ Li L q = st then 0 else -1) L.length).length : Int) := by rw [gI_length]; exact c1
  refine ⟨K + 5, fun k hk => ?_⟩
  obtain ⟨k, rfl⟩ : ∃ m, k = m + 1 := ⟨k - 1, by omega⟩
  have h := h k (by omega)
  have he := equal_eq (Li L i) st (by omega) k (by omega)
  unfold Li at he
  rw [impl_joint.l2, if_pos c1, if_pos c2, if_pos c1, he, Option.bind_some, wn i (by omega), if_pos c3, Int.toNat_natCast]
  by_cases c : Li L i = st
  ·have c' : rd_L1 L (i : Int) = st := c
   rw [decide_eq_true c', if_pos rfl, gI_set]
   have hcg : gI (fun q => if q = i then 0 else if q < i ∧ Li L q = st then 0 else -1) L.length = gI (fun q => if q < i + 1 ∧ Li L q = st then 0 else -1) L.length := gI_congr fun q hq => by
    by_cases e : q = i
    ·subst e; rw [if_pos rfl, if_pos ⟨by omega, c⟩]
    ·rw [if_neg e]
     by_cases e2 : q < i ∧ Li L q = st
     ·rw [if_pos e2, if_pos ⟨by omega, e2.2⟩]
     ·rw [if_neg e2, if_neg (fun z => e2 ⟨by omega, z.2⟩)]
   rw [hcg]
   exact h
  ·have c' : ¬ rd_L1 L (i : Int) = st := c
   rw [decide_eq_false c', if_neg (by decide)]
   have hcg : gI (fun q => if q < i ∧ Li L q = st then 0 else -1) L.length = gI (fun q => if q < i + 1 ∧ Li L q = st then 0 else -1) L.length := gI_congr fun q hq => by
    by_cases e2 : q < i ∧ Li L q = st
    ·rw [if_pos e2, if_pos ⟨by omega, e2.2⟩]
    ·rw [if_neg e2, if_neg (fun z => by
      by_cases e : q = i
      ·subst e; exact c z.2
      ·exact e2 ⟨by omega, z.2⟩)]
   rw [hcg]
   exact h
theorem ij_l1 (v : List Int) (i : Nat) (hi : i < L.length) (hMv : ∃ K, ∀ k, K ≤ k → ∀ j, j < L.length → impl_matched.f k a b s (Li L i) (Li L j) [] = some (M i j)) (hc : ∃ K, ∀ k, K ≤ k → impl_joint.l0 k st goals (span : Int) L (Bt L M (i + 1) 0) L (L.length : Int) ((i + 1 : Nat) : Int) a b s = some v) :
  ∀ (d j : Nat), j + d = L.length → ∃ K, ∀ k, K ≤ k → impl_joint.l1 k st goals (span : Int) L (Bt L M i j) (i : Int) (Li L i) L (L.length : Int) (i : Int) L (L.length : Int) (j : Int) a b s = some v
 | 0, j, hj => by
  obtain ⟨K, h⟩ := hc
  obtain rfl : j = L.length := by omega
  refine ⟨K + 1, fun k hk => ?_⟩
  obtain ⟨k, rfl⟩ : ∃ m, k = m + 1 := ⟨k - 1, by omega⟩
  rw [impl_joint.l1, if_neg (by omega), Bt_end L M hM hL i, wn i (by omega)]
  exact h k (by omega)
 | d + 1, j, hj => by
  obtain ⟨K, h⟩ := ij_l1 v i hi hMv hc d (j + 1) (by omega)
  obtain ⟨K2, h2⟩ := hMv
  have hjl : j < L.length := by omega
  have hBl : (Bt L M i j).length = L.length := gL_length _ _
  have c1 : (j : Int) < (L.length : Int) := by omega
  have c2 : (0 : Int) ≤ (j : Int) := by omega
  have c3 : (0 : Int) ≤ (i : Int) := by omega
  have c4 : (i : Int) < ((Bt L M i j).length : Int) := by omega
  have r1 : rd_L1 (Bt L M i j) (i : Int) = gI (M i) j := by unfold Bt; rw [gL_rd _ _ i hi, if_neg (by omega), if_pos rfl]
  have c5 : (gI (M i) j).length < 17592186044416 := by rw [gI_length]; omega
  have hset : (Bt L M i j).set i (gI (M i) j ++ [M i j]) = Bt L M i (j + 1) := by
   unfold Bt
   rw [gL_set]
   refine gL_congr fun r hr => ?_
   by_cases e : r = i
   ·rw [if_pos e, if_neg (by omega), if_pos e, gI_succ]
   ·rw [if_neg e]
    by_cases e2 : r < i
    ·rw [if_pos e2, if_pos e2]
    ·rw [if_neg e2, if_neg e2, if_neg e, if_neg e]
  refine ⟨K + K2 + 1, fun k hk => ?_⟩
  obtain ⟨k, rfl⟩ : ∃ m, k = m + 1 := ⟨k - 1, by omega⟩
  have h3 := h2 k (by omega) j hjl
  unfold Li at h3
  have h := h k (by omega)
  unfold Li at h
  rw [impl_joint.l1, if_pos c1, if_pos c2, if_pos c1, if_pos c3, if_pos c4]
  unfold Li
  rw [h3, Option.bind_some, r1, if_pos c5, Int.toNat_natCast, hset, wn j (by omega)]
  exact h
theorem ij_l0 (hst : st.length ≤ 3) (hs : ∀ q, q < L.length → (Li L q).length ≤ 3) (hMv : ∃ K, ∀ k, K ≤ k → ∀ i, i < L.length → ∀ j, j < L.length → impl_matched.f k a b s (Li L i) (Li L j) [] = some (M i j)) : ∀ (d i : Nat), i + d = L.length → ∃ K, ∀ k, K ≤ k → impl_joint.l0 k st goals (span : Int) L (Bt L M i 0) L (L.length : Int) (i : Int) a b s = some (gI (fun t => bst goals L (Ct st L M t) L.length) (span + 1))
 | 0, i, hi => by
  obtain ⟨K, h⟩ := ij_l2 goals st span hsp L M hM hL hst hs L.length 0 (by omega)
  obtain rfl : i = L.length := by omega
  have hB : Bt L M L.length 0 = gL (fun i => gI (M i) L.length) L.length := by
   unfold Bt
   exact gL_congr fun r hr => if_pos hr
  have hz : gI (fun q => if q < 0 ∧ Li L q = st then 0 else -1) L.length = gI (fun _ => -1) L.length := gI_congr fun q hq => if_neg (fun h => by omega)
  rw [hz] at h
  refine ⟨K + 1, fun k hk => ?_⟩
  obtain ⟨k, rfl⟩ : ∃ m, k = m + 1 := ⟨k - 1, by omega⟩
  rw [impl_joint.l0, if_neg (by omega), rep1 _ (by omega), Option.bind_some, hB]
  exact h k (by omega)
 | d + 1, i, hi => by
  have hil : i < L.length := by omega
  obtain ⟨K, h⟩ := ij_l1 a b s goals st span hsp L M hM hL _ i hil (by obtain ⟨K, h⟩ := hMv; exact ⟨K, fun k hk => h k hk i hil⟩) (ij_l0 hst hs hMv d (i + 1) (by omega)) L.length 0 (by omega)
  have c1 : (i : Int) < (L.length : Int) := by omega
  have c2 : (0 : Int) ≤ (i : Int) := by omega
  refine ⟨K + 1, fun k hk => ?_⟩
  obtain ⟨k, rfl⟩ : ∃ m, k = m + 1 := ⟨k - 1, by omega⟩
  rw [impl_joint.l0, if_pos c1, if_pos c2, if_pos c1]
  exact h k (by omega)
omit hsp in
theorem take_succ_iff (p q : List Int) (k : Nat) (hp : k < p.length) (hq : k < q.length) : p.take (k + 1) = q.take (k + 1) ↔ p.take k = q.take k ∧ rd p (k : Int) = rd q (k : Int) := by
 rw [List.take_succ_eq_append_getElem hp, List.take_succ_eq_append_getElem hq, rd_get p k hp, rd_get q k hq]
 constructor
 ·intro h
  have := List.append_inj h (by rw [List.length_take, List.length_take]; omega)
  exact ⟨this.1, by simpa using this.2⟩
 ·rintro ⟨h1, h2⟩; rw [h1, h2]
theorem sc_l1 (v : List (List Int)) (x8 : List Int) (hx8 : x8.length ≤ 1000) (i : Nat) (hi : i < L.length) (hl : (Li L i).length = st.length) (hst : st.length ≤ 3) (hc : ∃ K, ∀ k, K ≤ k → spec_l16Costs.l0 k st (span : Int) L (x8 ++ [if Li L i = st then 0 else -1]) ((i + 1 : Nat) : Int) a b s = some v) :
  ∀ (d j : Nat), j + d = st.length → ∃ K, ∀ k, K ≤ k → spec_l16Costs.l1 k st (span : Int) L x8 (i : Int) (if (Li L i).take j = st.take j then 0 else -1) (j : Int) a b s = some v
 | 0, j, hj => by
  obtain ⟨K, h⟩ := hc
  have c1 : x8.length < 17592186044416 := by omega
  refine ⟨K + 1, fun k hk => ?_⟩
  obtain ⟨k, rfl⟩ : ∃ m, k = m + 1 := ⟨k - 1, by omega⟩
  rw [spec_l16Costs.l1, if_neg (by omega), if_pos c1, List.take_of_length_le (by omega), List.take_of_length_le (by omega), wn i (by omega)]
  exact h k (by omega)
 | d + 1, j, hj => by
  obtain ⟨K, h⟩ := sc_l1 v x8 hx8 i hi hl hst hc d (j + 1) (by omega)
  have hti := take_succ_iff L M hM hL (Li L i) st j (by omega) (by omega)
  have c1 : (j : Int) < (st.length : Int) := by omega
  have c2 : (0 : Int) ≤ (i : Int) := by omega
  have c3 : (i : Int) < (L.length : Int) := by omega
  have c4 : (0 : Int) ≤ (j : Int) := by omega
  have c5 : (j : Int) < ((Li L i).length : Int) := by omega
  refine ⟨K + 1, fun k hk => ?_⟩
  obtain ⟨k, rfl⟩ : ∃ m, k = m + 1 := ⟨k - 1, by omega⟩
  have h := h k (by omega)
  rw [spec_l16Costs.l1, if_pos c1, if_pos c2, if_pos c3, if_pos c4]
  show (if (j : Int) < ((Li L i).length : Int) then _ else _) = _
  rw [if_pos c5, wn j (by omega)]
  show (if rd (Li L i) (j : Int) = rd st (j : Int) then _ else _) = _
  by_cases c : rd (Li L i) (j : Int) = rd st (j : Int)
  ·rw [if_pos c]
   have e : (if (Li L i).take (j + 1) = st.take (j + 1) then (0 : Int) else -1) = (if (Li L i).take j = st.take j then 0 else -1) := by
    by_cases z : (Li L i).take j = st.take j
    ·rw [if_pos z, if_pos (hti.mpr ⟨z, c⟩)]
    ·rw [if_neg z, if_neg (fun y => z (hti.mp y).1)]
   rw [e] at h
   exact h
  ·rw [if_neg c]
   rw [if_neg (fun y => c (hti.mp y).2)] at h
   exact h
theorem sc_l4 (v : List (List Int)) (x12 : List (List Int)) (x14 : List Int) (hx14 : x14.length ≤ 1000) (t : Nat) (htl : t < x12.length) (x : Nat → Int) (hx : ∀ q, -1 ≤ x q ∧ x q ≤ 30) (hr : rd_L1 x12 (t : Int) = gI x L.length) (i : Nat) (hi : i < L.length)
  (hMv : ∃ K, ∀ k, K ≤ k → ∀ j, j < L.length → spec_JointStep.f k a b s (Li L j) (Li L i) = some (M j i)) (hc : ∃ K, ∀ k, K ≤ k → spec_l16Costs.l3 k (span : Int) L x12 (t : Int) (x14 ++ [cst M x i L.length]) ((i + 1 : Nat) : Int) a b s = some v) :
  ∀ (d j : Nat), j + d = L.length → ∃ K, ∀ k, K ≤ k → spec_l16Costs.l4 k (span : Int) L x12 (t : Int) x14 (i : Int) (cst M x i j) (j : Int) a b s = some v
 | 0, j, hj => by
  obtain ⟨K, h⟩ := hc
  obtain rfl : j = L.length := by omega
  have c1 : x14.length < 17592186044416 := by omega
  refine ⟨K + 1, fun k hk => ?_⟩
  obtain ⟨k, rfl⟩ : ∃ m, k = m + 1 := ⟨k - 1, by omega⟩
  rw [spec_l16Costs.l4, if_neg (by omega), if_pos c1, wn i (by omega)]
  exact h k (by omega)
 | d + 1, j, hj => by
  obtain ⟨K, h⟩ := sc_l4 v x12 x14 hx14 t htl x hx hr i hi hMv hc d (j + 1) (by omega)
  obtain ⟨K2, h2⟩ := hMv
  have hjl : j < L.length := by omega
  have c1 : (j : Int) < (L.length : Int) := by omega
  have c2 : (0 : Int) ≤ (t : Int) := by omega
  have c3 : (t : Int) < (x12.length : Int) := by omega
  have c4 : (0 : Int) ≤ (j : Int) := by omega
  have c5 : (j : Int) < ((gI x L.length).length : Int) := by rw [gI_length]; exact c1
  have c6 : (0 : Int) ≤ (i : Int) := by omega
  have c7 : (i : Int) < (L.length : Int) := by omega
  have r1 := gI_rd x L.length j hjl
  have b1 := hx j
  have b2 := hM j i
  have w1 : wrap64 (x j + M j i) = x j + M j i := w64 (by omega) (by omega)
  have hup : cst M x i (j + 1) = upd (cst M x i j) (x j) (M j i) := rfl
  refine ⟨K + K2 + 1, fun k hk => ?_⟩
  obtain ⟨k, rfl⟩ : ∃ m, k = m + 1 := ⟨k - 1, by omega⟩
  have h := h k (by omega)
  have h3 := h2 k (by omega) j hjl
  unfold Li at h3
  rw [hup] at h
  unfold upd at h
  rw [spec_l16Costs.l4, if_pos c1, if_pos c2, if_pos c3, if_pos c4, hr, if_pos c5, r1, wn j (by omega)]
  by_cases d1 : x j < 0
  ·rw [if_pos d1] at h ⊢; exact h
  ·rw [if_neg d1] at h ⊢
   rw [if_pos c6, if_pos c7, h3, Option.bind_some, w1]
   by_cases d2 : M j i < 0
   ·rw [if_pos d2] at h
    rw [if_neg (by omega)]
    exact h
   ·rw [if_neg d2] at h
    rw [if_pos (by omega)]
    by_cases d3 : cst M x i j < 0
    ·rw [if_pos d3] at h ⊢; exact h
    ·rw [if_neg d3] at h ⊢
     by_cases d4 : x j + M j i < cst M x i j
     ·rw [if_pos d4] at h ⊢; exact h
     ·rw [if_neg d4] at h ⊢; exact h
theorem sc_l3 (v : List (List Int)) (x12 : List (List Int)) (hx12 : x12.length ≤ 1000) (t : Nat) (ht : t ≤ 1000) (htl : t < x12.length) (x : Nat → Int) (hx : ∀ q, -1 ≤ x q ∧ x q ≤ 30) (hr : rd_L1 x12 (t : Int) = gI x L.length)
  (hMv : ∃ K, ∀ k, K ≤ k → ∀ i, i < L.length → ∀ j, j < L.length → spec_JointStep.f k a b s (Li L i) (Li L j) = some (M i j)) (hc : ∃ K, ∀ k, K ≤ k → spec_l16Costs.l2 k (span : Int) L (x12 ++ [gI (fun q => cst M x q L.length) L.length]) ((t + 1 : Nat) : Int) a b s = some v) :
  ∀ (d i : Nat), i + d = L.length → ∃ K, ∀ k, K ≤ k → spec_l16Costs.l3 k (span : Int) L x12 (t : Int) (gI (fun q => cst M x q L.length) i) (i : Int) a b s = some v
 | 0, i, hi => by
  obtain ⟨K, h⟩ := hc
  obtain rfl : i = L.length := by omega
  have c1 : x12.length < 5864062014805 := by omega
  refine ⟨K + 1, fun k hk => ?_⟩
  obtain ⟨k, rfl⟩ : ∃ m, k = m + 1 := ⟨k - 1, by omega⟩
  rw [spec_l16Costs.l3, if_neg (by omega), if_pos c1, wn t (by omega)]
  exact h k (by omega)
 | d + 1, i, hi => by
  have hil : i < L.length := by omega
  obtain ⟨K0, h0⟩ := sc_l3 v x12 hx12 t ht htl x hx hr hMv hc d (i + 1) (by omega)
  rw [gI_succ] at h0
  obtain ⟨K, h⟩ := sc_l4 a b s span hsp L M hM hL v x12 (gI (fun q => cst M x q L.length) i) (by rw [gI_length]; omega) t htl x hx hr i hil (by obtain ⟨K, h⟩ := hMv; exact ⟨K, fun k hk j hj => h k hk j hj i hil⟩) ⟨K0, h0⟩ L.length 0 (by omega)
  refine ⟨K + 1, fun k hk => ?_⟩
  obtain ⟨k, rfl⟩ : ∃ m, k = m + 1 := ⟨k - 1, by omega⟩
  rw [spec_l16Costs.l3, if_pos (by omega)]
  exact h k (by omega)
theorem sc_l2 (hMv : ∃ K, ∀ k, K ≤ k → ∀ i, i < L.length → ∀ j, j < L.length → spec_JointStep.f k a b s (Li L i) (Li L j) = some (M i j)) : ∀ (d t : Nat), t + d = span → ∃ K, ∀ k, K ≤ k → spec_l16Costs.l2 k (span : Int) L (gL (fun t => gI (Ct st L M t) L.length) (t + 1)) (t : Int) a b s = some (gL (fun t => gI (Ct st L M t) L.length) (span + 1))
 | 0, t, ht => by
  obtain rfl : t = span := by omega
  refine ⟨1, fun k hk => ?_⟩
  obtain ⟨k, rfl⟩ : ∃ m, k = m + 1 := ⟨k - 1, by omega⟩
  rw [spec_l16Costs.l2, if_neg (by omega)]
 | d + 1, t, ht => by
  have hx : ∀ q, -1 ≤ Ct st L M t q ∧ Ct st L M t q ≤ 30 := fun q => by have := Ct_ok st L M hM t q; omega
  obtain ⟨K0, h0⟩ := sc_l2 hMv d (t + 1) (by omega)
  rw [gL_succ (fun t => gI (Ct st L M t) L.length) (t + 1)] at h0
  obtain ⟨K, h⟩ := sc_l3 a b s span hsp L M hM hL _ (gL (fun t => gI (Ct st L M t) L.length) (t + 1)) (by rw [gL_length]; omega) t (by omega) (by rw [gL_length]; omega) (Ct st L M t) hx (gL_rd _ _ t (by omega)) hMv ⟨K0, h0⟩ L.length 0 (by omega)
  refine ⟨K + 1, fun k hk => ?_⟩
  obtain ⟨k, rfl⟩ : ∃ m, k = m + 1 := ⟨k - 1, by omega⟩
  rw [spec_l16Costs.l2, if_pos (by omega)]
  exact h k (by omega)
theorem sc_l0 (hst : st.length ≤ 3) (hs : ∀ q, q < L.length → (Li L q).length = st.length) (hMv : ∃ K, ∀ k, K ≤ k → ∀ i, i < L.length → ∀ j, j < L.length → spec_JointStep.f k a b s (Li L i) (Li L j) = some (M i j)) : ∀ (d i : Nat), i + d = L.length → ∃ K, ∀ k, K ≤ k → spec_l16Costs.l0 k st (span : Int) L (gI (Ct st L M 0) i) (i : Int) a b s = some (gL (fun t => gI (Ct st L M t) L.length) (span + 1))
 | 0, i, hi => by
  obtain ⟨K, h⟩ := sc_l2 a b s st span hsp L M hM hL hMv span 0 (by omega)
  obtain rfl : i = L.length := by omega
  refine ⟨K + 1, fun k hk => ?_⟩
  obtain ⟨k, rfl⟩ : ∃ m, k = m + 1 := ⟨k - 1, by omega⟩
  rw [spec_l16Costs.l0, if_neg (by omega)]
  exact h k (by omega)
 | d + 1, i, hi => by
  have hil : i < L.length := by omega
  obtain ⟨K0, h0⟩ := sc_l0 hst hs hMv d (i + 1) (by omega)
  rw [gI_succ] at h0
  obtain ⟨K, h⟩ := sc_l1 a b s st span hsp L M hM hL _ (gI (Ct st L M 0) i) (by rw [gI_length]; omega) i hil (hs i hil) hst ⟨K0, h0⟩ st.length 0 (by omega)
  rw [List.take_zero, List.take_zero, if_pos rfl] at h
  refine ⟨K + 1, fun k hk => ?_⟩
  obtain ⟨k, rfl⟩ : ∃ m, k = m + 1 := ⟨k - 1, by omega⟩
  rw [spec_l16Costs.l0, if_pos (by omega)]
  exact h k (by omega)
end
end Go.Proofs.Ytooofofeihkpcaa.Pure
/- What a grid weighs. -/
namespace Go.Proofs.Ytooofofeihkpcaa.Pure
open Go.RowKit Go.Proofs.Ytooofofeihkpcaa.Q Go.Proofs.YtooofofeihkpcaaW.PrintWords Go.Proofs.YtooofofeihkpcaaW.PrintLast
theorem szGrid_eq (a b : Int) (s : ByteArray) (hs : s.size ≤ maxLen) (m : Int) (hm0 : 0 ≤ m) (hm : m ≤ 1048576) : laws_szGrid.f a b s m = some (if (s.size : Int) ≤ m then m - (s.size : Int) else -1) := by
 unfold laws_szGrid.f
 unfold maxLen at hs
 rw [w64 (by omega) (by omega)]
 by_cases h : (s.size : Int) ≤ m
 ·rw [if_neg (by omega), if_pos h]
 ·rw [if_pos (by omega), if_neg h]
end Go.Proofs.Ytooofofeihkpcaa.Pure
/- What is asked for: starts and goals. -/
namespace Go.Proofs.Ytooofofeihkpcaa.Pure
open Go.RowKit Go.Proofs.Ytooofofeihkpcaa.Q Go.Proofs.YtooofofeihkpcaaW.PrintWords Go.Proofs.YtooofofeihkpcaaW.PrintLast
def Asked (a b : Int) (s : ByteArray) (l m : List Int) : Prop := Gok a b s ∧ FrFrom s l 0 ∧ FrFrom s m 0 ∧ 1 ≤ l.length ∧ l.length ≤ 10 ∧ AscFrom l 0 ∧ AscFrom m 0 ∧ m.length ≤ l.length
theorem isAsked_ev (a b : Int) (s : ByteArray) (hs : s.size ≤ 1048576) (l m : List Int) (hl : l.length ≤ 1048576) (hm : m.length ≤ 1048576) : ∃ g K, (∀ k, K ≤ k → impl_isAsked.f k a b s l m = some g) ∧ (g = true ↔ Asked a b s l m) := by
 obtain ⟨g1, K1, h1, q1⟩ := areFree_ev a b s hs l
 obtain ⟨g2, K2, h2, q2⟩ := areFree_ev a b s hs m
 obtain ⟨g3, K3, h3, q3⟩ := implAsc_ev l hl
 obtain ⟨g4, K4, h4, q4⟩ := implAsc_ev m hm
 have hj : ∀ k, impl_isAsked.j0 (k + 1) l m true = some false := fun k => by simp only [impl_isAsked.j0, reduceIte]
 by_cases hA : Asked a b s l m
 ·obtain ⟨x1, x2, x3, x4, x5, x6, x7, x8⟩ := id hA
  obtain rfl := q1.mpr ⟨x1, x2⟩
  obtain rfl := q2.mpr ⟨x1, x3⟩
  obtain rfl := q3.mpr x6
  obtain rfl := q4.mpr x7
  refine ⟨true, K1 + K2 + K3 + K4 + 1, fun k hk => ?_, ⟨fun _ => hA, fun _ => rfl⟩⟩
  obtain ⟨k, rfl⟩ : ∃ m, k = m + 1 := ⟨k - 1, by omega⟩
  unfold impl_isAsked.f
  rw [h1 (k + 1) (by omega), Option.bind_some, if_pos rfl, h2 (k + 1) (by omega), Option.bind_some, if_pos rfl, if_neg (by omega), decide_eq_false (by omega)]
  simp only [impl_isAsked.j0, Bool.false_eq_true, reduceIte]
  rw [h3 k (by omega), Option.bind_some, if_pos rfl, h4 k (by omega), Option.bind_some, if_pos rfl, decide_eq_true (by omega)]
 ·refine ⟨false, K1 + K2 + K3 + K4 + 1, fun k hk => ?_, ⟨fun h => (by cases h), fun h => absurd h hA⟩⟩
  obtain ⟨k, rfl⟩ : ∃ m, k = m + 1 := ⟨k - 1, by omega⟩
  unfold impl_isAsked.f
  rw [h1 (k + 1) (by omega), Option.bind_some]
  cases g1 with
  | false => rw [if_neg (by decide), hj]
  | true =>
   rw [if_pos rfl, h2 (k + 1) (by omega), Option.bind_some]
   cases g2 with
   | false => rw [if_neg (by decide), hj]
   | true =>
    rw [if_pos rfl]
    by_cases c1 : (l.length : Int) < 1
    ·rw [if_pos c1, hj]
    ·rw [if_neg c1]
     by_cases c2 : (l.length : Int) > 10
     ·rw [decide_eq_true c2, hj]
     ·rw [decide_eq_false c2]
      simp only [impl_isAsked.j0, Bool.false_eq_true, reduceIte]
      rw [h3 k (by omega), Option.bind_some]
      cases g3 with
      | false => rw [if_neg (by decide)]
      | true =>
       rw [if_pos rfl, h4 k (by omega), Option.bind_some]
       cases g4 with
       | false => rw [if_neg (by decide)]
       | true =>
        rw [if_pos rfl, decide_eq_false]
        intro c3
        exact hA ⟨(q1.mp rfl).1, (q1.mp rfl).2, (q2.mp rfl).2, by omega, by omega, q3.mp rfl, q4.mp rfl, by omega⟩
end Go.Proofs.Ytooofofeihkpcaa.Pure
/- Starts and goals that may be asked: the program and the reference answer alike. -/
namespace Go.Proofs.Ytooofofeihkpcaa.Pure
open Go.RowKit Go.Proofs.Ytooofofeihkpcaa.Q Go.Proofs.YtooofofeihkpcaaW.PrintWords Go.Proofs.YtooofofeihkpcaaW.PrintLast
theorem askOk_ev (a b : Int) (s : ByteArray) (hs : s.size ≤ 1048576) (l m : List Int) (hl : l.length ≤ 1048576) (hm : m.length ≤ 1048576) (t : Int) : ∃ v K, (∀ k, K ≤ k → spec_AskOk.f k a b s l m t = some v ∧ impl_AskOk.f k a b s l m t = some v) ∧ (v = true → Asked a b s l m) := by
 obtain ⟨g, K1, h1, q1⟩ := isAsked_ev a b s hs l m hl hm
 obtain ⟨g0, K0, h0, q0⟩ := gridOk_ev a b s hs
 obtain ⟨K2, h2⟩ := specFree_ev a b s hs
 obtain ⟨K3, h3⟩ := implFree_ev a b s hs
 have hj : ∀ k, spec_AskOk.j0 (k + 1) l m t true a b s = some false := fun k => by simp only [spec_AskOk.j0, reduceIte]
 have himpl : ∀ k, K1 + K3 ≤ k → impl_AskOk.f k a b s l m t = some (decide (g = true ∧ 0 ≤ t ∧ t ≤ 20 ∧ wrap64 (((frees a b s).length : Int) * wrap64 (t + 1)) ≤ 240)) := fun k hk => by
  unfold impl_AskOk.f
  rw [h1 k (by omega), Option.bind_some]
  cases g with
  | false => rw [if_neg (by decide), decide_eq_false (fun h => absurd h.1 (by decide))]
  | true =>
   rw [if_pos rfl]
   by_cases c1 : t ≥ 0
   ·by_cases c2 : t ≤ 20
    ·rw [if_pos c1, if_pos c2, h3 k (by omega), Option.bind_some]
     congr 1
     exact decide_eq_decide.mpr ⟨fun h => ⟨rfl, c1, c2, h⟩, fun h => h.2.2.2⟩
    ·rw [if_pos c1, if_neg c2, decide_eq_false (fun h => c2 h.2.2.1)]
   ·rw [if_neg c1, decide_eq_false (fun h => c1 h.2.1)]
 cases g0 with
 | false =>
  have hg : g = false := by
   cases g with
   | false => rfl
   | true => exact absurd (q0.mpr (q1.mp rfl).1) (by decide)
  refine ⟨false, K0 + K1 + K3 + 1, fun k hk => ⟨?_, ?_⟩, fun h => by cases h⟩
  ·obtain ⟨k, rfl⟩ : ∃ m, k = m + 1 := ⟨k - 1, by omega⟩
   unfold spec_AskOk.f
   rw [(h0 (k + 1) (by omega)).1, Option.bind_some, if_neg (by decide), hj]
  ·rw [himpl k (by omega), hg, decide_eq_false (fun h => absurd h.1 (by decide))]
 | true =>
  have hG := q0.mp rfl
  obtain ⟨c1, K4, h4, q4⟩ := specCells_l0 a b s hs hG l hl l.length 0 (by omega)
  obtain ⟨c2, K5, h5, q5⟩ := specCells_l0 a b s hs hG m hm m.length 0 (by omega)
  refine ⟨_, K0 + K1 + K2 + K3 + K4 + K5 + 1, fun k hk => ⟨?_, himpl k (by omega)⟩, fun h => q1.mp (of_decide_eq_true h).1⟩
  obtain ⟨k, rfl⟩ : ∃ m, k = m + 1 := ⟨k - 1, by omega⟩
  unfold spec_AskOk.f
  rw [(h0 (k + 1) (by omega)).1, Option.bind_some, if_pos rfl, l01In_eq, Option.bind_some]
  by_cases d1 : 1 ≤ (l.length : Int) ∧ (l.length : Int) ≤ 10
  ·rw [decide_eq_true d1, if_pos rfl]
   by_cases d2 : (m.length : Int) > (l.length : Int)
   ·rw [if_pos d2, hj, decide_eq_false]
    rintro ⟨h, _⟩
    have := (q1.mp h).2.2.2.2.2.2.2
    omega
   ·rw [if_neg d2, l01In_eq, Option.bind_some]
    by_cases d3 : 0 ≤ t ∧ t ≤ 20
    ·rw [decide_eq_true d3]
     simp only [Bool.not_true, spec_AskOk.j0, Bool.false_eq_true, reduceIte, spec_l10Cells.f]
     have h4' := h4 k (by omega)
     have h5' := h5 k (by omega)
     rw [show ((0 : Nat) : Int) = 0 from rfl] at h4' h5'
     rw [h4', Option.bind_some]
     cases c1 with
     | false =>
      rw [if_neg (by decide), decide_eq_false]
      rintro ⟨h, _⟩
      exact absurd (q4.mpr ⟨(q1.mp h).2.1, (q1.mp h).2.2.2.2.2.1⟩) (by decide)
     | true =>
      rw [if_pos rfl, h5', Option.bind_some]
      cases c2 with
      | false =>
       rw [if_neg (by decide), decide_eq_false]
       rintro ⟨h, _⟩
       exact absurd (q5.mpr ⟨(q1.mp h).2.2.1, (q1.mp h).2.2.2.2.2.2.1⟩) (by decide)
      | true =>
       rw [if_pos rfl, h2 k (by omega), Option.bind_some]
       congr 1
       refine decide_eq_decide.mpr ⟨fun h => ⟨q1.mpr ⟨hG, (q4.mp rfl).1, (q5.mp rfl).1, by omega, by omega, (q4.mp rfl).2, (q5.mp rfl).2, by omega⟩, d3.1, d3.2, h⟩, fun h => h.2.2.2⟩
    ·rw [decide_eq_false d3]
     simp only [Bool.not_false]
     rw [hj, decide_eq_false]
     rintro ⟨_, x1, x2, _⟩
     exact d3 ⟨x1, x2⟩
  ·rw [decide_eq_false d1, if_neg (by decide), hj, decide_eq_false]
   rintro ⟨h, _⟩
   have x1 := (q1.mp h).2.2.2.1
   have x2 := (q1.mp h).2.2.2.2.1
   exact d1 ⟨by omega, by omega⟩
end Go.Proofs.Ytooofofeihkpcaa.Pure
/- Joint plans: what the program and the reference answer. -/
namespace Go.Proofs.Ytooofofeihkpcaa.Pure
open Go.RowKit Go.Proofs.Ytooofofeihkpcaa.Q Go.Proofs.YtooofofeihkpcaaW.PrintWords Go.Proofs.YtooofofeihkpcaaW.PrintLast Go.Proofs.YtooofofeihkpcaaW.PrintMore
theorem asc1 (x : Int) : AscFrom [x] 0 := fun j _ h2 h3 => by simp at h2; omega
theorem asc2 (x y : Int) (h : x < y) : AscFrom [x, y] 0 := fun j _ h2 h3 => by
 obtain rfl : j = 1 := by simp at h2; omega
 simpa [rd] using h
theorem asc3 (x y z : Int) (h : x < y) (h' : y < z) : AscFrom [x, y, z] 0 := fun j _ h2 h3 => by
 rcases (by simp at h2; omega : j = 1 ∨ j = 2) with rfl | rfl
 ·simpa [rd] using h
 ·simpa [rd] using h'
theorem standsF_ok (F : List Int) (n : Nat) (h1 : 1 ≤ n) (h3 : n ≤ 3) : ∀ l ∈ standsF F n, l.length = n ∧ (∀ x ∈ l, x ∈ F) ∧ AscFrom l 0 := by
 intro l hl
 unfold standsF at hl
 split at hl
 ·rename_i e
  obtain ⟨c, hc, rfl⟩ := List.mem_map.mp hl
  exact ⟨by simp [e], fun x hx => by rw [List.mem_singleton.mp hx]; exact hc, asc1 c⟩
 ·split at hl
  ·rename_i e
   obtain ⟨x, hx, hl⟩ := List.mem_flatMap.mp hl
   unfold G2 gt at hl
   obtain ⟨y, hy, rfl⟩ := List.mem_map.mp hl
   obtain ⟨hy1, hy2⟩ := List.mem_filter.mp hy
   have hy2 := of_decide_eq_true hy2
   refine ⟨by simp [e], fun z hz => ?_, asc2 x y hy2⟩
   simp only [List.mem_cons, List.not_mem_nil, or_false] at hz
   rcases hz with rfl | rfl
   ·exact hx
   ·exact hy1
  ·obtain ⟨x, hx, hl⟩ := List.mem_flatMap.mp hl
   unfold G3 gt at hl
   obtain ⟨y, hy, hl⟩ := List.mem_flatMap.mp hl
   unfold G3a gt at hl
   obtain ⟨z, hz, rfl⟩ := List.mem_map.mp hl
   obtain ⟨hy1, hy2⟩ := List.mem_filter.mp hy
   obtain ⟨hz1, hz2⟩ := List.mem_filter.mp hz
   have hy2 := of_decide_eq_true hy2
   have hz2 := of_decide_eq_true hz2
   refine ⟨by simp; omega, fun u hu => ?_, asc3 x y z hy2 hz2⟩
   simp only [List.mem_cons, List.not_mem_nil, or_false] at hu
   rcases hu with rfl | rfl | rfl
   ·exact hx
   ·exact hy1
   ·exact hz1
theorem stands_evF (a b : Int) (s : ByteArray) (hs : s.size ≤ 1048576) (m : Nat) (c0 : (frees a b s).length ≤ 9) (m1 : 1 ≤ m) (m3 : m ≤ 3) : ∃ (K : Nat), ∀ k, K ≤ k → spec_StandsOf.f k a b s (m : Int) = some (standsF (frees a b s) m) ∧ impl_StandsOf.f k a b s (m : Int) = some (standsF (frees a b s) m) := by
 obtain ⟨K1, h1⟩ := specFree_ev a b s hs
 obtain ⟨K2, h2⟩ := implFree_ev a b s hs
 have hA := frees_asc a b s
 have c := c0
 clear c0
 generalize frees a b s = F at *
 have cn : (1 : Int) ≤ (m : Int) ∧ (m : Int) ≤ 3 := by omega
 obtain ⟨K3, h3⟩ := st_l0 F c m [[]] (by omega) (by
  have : 9 ^ m ≤ 9 ^ 3 := Nat.pow_le_pow_right (by omega) (by omega)
  simpa using this) (fun l hl => by rw [List.mem_singleton.mp hl]; simp; omega)
 rw [iter_stands F m (by omega) (by omega)] at h3
 have hlen := standsF_len F c m
 obtain ⟨K4, h4⟩ : ∃ K, ∀ k, K ≤ k → spec_StandsOf.l0 k (m : Int) [] F 0 = some (standsF F m) := by
  rcases (by omega : m = 1 ∨ m = 2 ∨ m = 3) with rfl | rfl | rfl
  ·obtain ⟨K, h⟩ := sp1_l0 F c hA F.length 0 [] (by omega) (by simp; omega)
   exact ⟨K, fun k hk => by simpa [standsF] using h k hk⟩
  ·obtain ⟨K, h⟩ := sp2_l0 F c hA F.length 0 [] (by omega) (by
    have : standsF F 2 = F.flatMap (G2 F) := rfl
    rw [List.nil_append, List.drop_zero, ← this]; omega)
   exact ⟨K, fun k hk => by simpa [standsF] using h k hk⟩
  ·obtain ⟨K, h⟩ := sp3_l0 F c hA F.length 0 [] (by omega) (by
    have : standsF F 3 = F.flatMap (G3 F) := rfl
    rw [List.nil_append, List.drop_zero, ← this]; omega)
   exact ⟨K, fun k hk => by simpa [standsF] using h k hk⟩
 refine ⟨K1 + K2 + K3 + K4 + 2, fun k hk => ?_⟩
 obtain ⟨k, rfl⟩ : ∃ m, k = m + 1 := ⟨k - 1, by omega⟩
 have d1 : ¬ (F.length : Int) > 9 := by omega
 have d2 : ¬ (m : Int) < 1 := by omega
 constructor
 ·unfold spec_StandsOf.f
  rw [Option.bind_some, h1 _ (by omega), Option.bind_some, if_neg d1, l01In_eq, Option.bind_some, decide_eq_true cn, Bool.not_true, spec_StandsOf.j0, if_neg (by decide)]
  exact h4 k (by omega)
 ·unfold impl_StandsOf.f
  rw [h2 _ (by omega), Option.bind_some, if_neg d1, if_neg d2, decide_eq_false (by omega), impl_StandsOf.j0, if_neg (by decide)]
  exact h3 k (by omega)
theorem step_ev (a b : Int) (s : ByteArray) (hs : s.size ≤ 1048576) (hG : Gok a b s) (p q : List Int) (h1 : 1 ≤ p.length) (h3 : p.length ≤ 3) (he : p.length = q.length) (hp : FrFrom s p 0 ∧ AscFrom p 0) (hq : FrFrom s q 0 ∧ AscFrom q 0) :
  ∃ v : Int, (-1 ≤ v ∧ v ≤ 3) ∧ ∃ K, ∀ k, K ≤ k → impl_matched.f k a b s p q [] = some v ∧ spec_JointStep.f k a b s p q = some v := by
 obtain ⟨f1, K3, h3', e3⟩ := cellsOk_ev a b s hs p (by omega) h1
 obtain ⟨f2, K4, h4, e4⟩ := cellsOk_ev a b s hs q (by omega) (by omega)
 obtain rfl := e3.mpr ⟨hG, hp⟩
 obtain rfl := e4.mpr ⟨hG, hq⟩
 have hin : (1 : Int) ≤ (p.length : Int) ∧ (p.length : Int) ≤ 3 := by omega
 obtain ⟨v, K5, v1, v2, h5⟩ := js_f a b s hG p q h3 (by omega) hp.1 hp.2 p.length [] (by simp)
 refine ⟨v, ⟨v1, by omega⟩, K3 + K4 + K5, fun k hk => ⟨(h5 k (by omega)).2, ?_⟩⟩
 unfold spec_JointStep.f
 rw [l01In_eq, Option.bind_some, decide_eq_true hin, if_pos rfl, if_pos (by omega), h3' k (by omega), Option.bind_some, if_pos rfl, h4 k (by omega), Option.bind_some, if_pos rfl, (h5 k (by omega)).1]
 rfl
theorem joint_ev (a b : Int) (s : ByteArray) (hs : s.size ≤ 1048576) (hG : Gok a b s) (st goals : List Int) (h1 : 1 ≤ st.length) (h3 : st.length ≤ 3) (hF : (frees a b s).length ≤ 9) (hg : goals.length ≤ 1048576) (span : Nat) (hsp : span ≤ 8) :
  ∃ (o : Nat → Int) (cs : Nat → List Int) (K : Nat), ∀ k, K ≤ k → impl_joint.f k a b s st goals (span : Int) = some (gI o (span + 1)) ∧ spec_l16Costs.f k a b s st (span : Int) = some (gL cs (span + 1)) ∧ ∀ t, t < span + 1 → spec_l16Least.f k a b s st goals (cs t) = some (o t) := by
 obtain ⟨K0, h0⟩ := stands_evF a b s hs st.length hF h1 h3
 have hlen := standsF_len (frees a b s) hF st.length
 have hok := standsF_ok (frees a b s) st.length h1 h3
 have hfm := frees_mem a b s
 generalize frees a b s = F at *
 generalize standsF F st.length = L at *
 have hLi : ∀ q, q < L.length → Li L q ∈ L := fun q hq => by
  unfold Li rd_L1
  rw [Int.toNat_natCast, List.getD_eq_getElem?_getD, List.getElem?_eq_getElem hq]
  exact List.getElem_mem hq
 have hst : ∀ q, q < L.length → (Li L q).length = st.length ∧ FrFrom s (Li L q) 0 ∧ AscFrom (Li L q) 0 := fun q hq => by
  obtain ⟨g1, g2, g3⟩ := hok _ (hLi q hq)
  exact ⟨g1, (FrFrom_all s _).mpr (fun x hx => ((hfm x).mp (g2 x hx)).2), g3⟩
 have hex : ∀ i j, ∃ v : Int, (-1 ≤ v ∧ v ≤ 3) ∧ (i < L.length → j < L.length → ∃ K, ∀ k, K ≤ k → impl_matched.f k a b s (Li L i) (Li L j) [] = some v ∧ spec_JointStep.f k a b s (Li L i) (Li L j) = some v) := fun i j => by
  by_cases c : i < L.length ∧ j < L.length
  ·obtain ⟨g1, g2⟩ := hst i c.1
   obtain ⟨g3, g4⟩ := hst j c.2
   obtain ⟨v, hv, hk⟩ := step_ev a b s hs hG (Li L i) (Li L j) (by omega) (by omega) (by omega) g2 g4
   exact ⟨v, hv, fun _ _ => hk⟩
  ·exact ⟨0, by omega, fun h h' => absurd ⟨h, h'⟩ c⟩
 obtain ⟨M, hM, hMK⟩ : ∃ M : Nat → Nat → Int, (∀ i j, -1 ≤ M i j ∧ M i j ≤ 3) ∧ ∀ i j, i < L.length → j < L.length → ∃ K, ∀ k, K ≤ k → impl_matched.f k a b s (Li L i) (Li L j) [] = some (M i j) ∧ spec_JointStep.f k a b s (Li L i) (Li L j) = some (M i j) :=
  ⟨fun i j => Classical.choose (hex i j), fun i j => (Classical.choose_spec (hex i j)).1, fun i j => (Classical.choose_spec (hex i j)).2⟩
 obtain ⟨KM, hKM⟩ := unif (fun i k => ∀ j, j < L.length → impl_matched.f k a b s (Li L i) (Li L j) [] = some (M i j) ∧ spec_JointStep.f k a b s (Li L i) (Li L j) = some (M i j)) L.length (fun i hi => unif (fun j k => impl_matched.f k a b s (Li L i) (Li L j) [] = some (M i j) ∧ spec_JointStep.f k a b s (Li L i) (Li L j) = some (M i j)) L.length (fun j hj => hMK i j hi hj))
 have hs3 : ∀ q, q < L.length → (Li L q).length ≤ 3 := fun q hq => by have := (hst q hq).1; omega
 obtain ⟨K1, e1⟩ := ij_l0 a b s goals st span hsp L M hM hlen h3 hs3 ⟨KM, fun k hk i hi j hj => (hKM k hk i hi j hj).1⟩ L.length 0 (by omega)
 obtain ⟨K2, e2⟩ := sc_l0 a b s st span hsp L M hM hlen h3 (fun q hq => (hst q hq).1) ⟨KM, fun k hk i hi j hj => (hKM k hk i hi j hj).2⟩ L.length 0 (by omega)
 obtain ⟨K3, e3⟩ := unif (fun t k => spec_l16Least.l0 k goals (gI (Ct st L M t) L.length) L (bst goals L (Ct st L M t) 0) ((0 : Nat) : Int) = some (bst goals L (Ct st L M t) L.length)) (span + 1) (fun t ht => sl_l0 goals L hlen (Ct st L M t) (fun q => by have := Ct_ok st L M hM t q; omega) hg hs3 L.length 0 (by omega))
 refine ⟨fun t => bst goals L (Ct st L M t) L.length, fun t => gI (Ct st L M t) L.length, K0 + K1 + K2 + K3, fun k hk => ⟨?_, ?_, fun t ht => ?_⟩⟩
 ·have hB : List.replicate L.length ([] : List Int) = Bt L M 0 0 := by
   rw [gL_const]
   unfold Bt
   refine gL_congr fun r hr => ?_
   rw [if_neg (by omega)]
   split <;> rfl
  have c1 : (0 : Int) ≤ (L.length : Int) := by omega
  have c2 : L.length ≤ 11728124029610 := by omega
  unfold impl_joint.f
  rw [(h0 k (by omega)).2, Option.bind_some, if_pos c1, Int.toNat_natCast, if_pos c2, hB]
  exact e1 k (by omega)
 ·unfold spec_l16Costs.f
  rw [(h0 k (by omega)).1, Option.bind_some]
  exact e2 k (by omega)
 ·unfold spec_l16Least.f
  rw [(h0 k (by omega)).1, Option.bind_some]
  exact e3 k (by omega) t ht
theorem looked_ev (a b : Int) (s : ByteArray) (hs : s.size ≤ 1048576) (l m : List Int) (hl : l.length ≤ 1048576) (hm : m.length ≤ 1048576) (n : Int) : ∃ g K, (∀ k, K ≤ k → spec_l16Ask.f k a b s l m n = some g ∧ impl_isLooked.f k a b s l m n = some g) ∧ (g = true → Asked a b s l m ∧ (frees a b s).length ≤ 9 ∧ l.length ≤ 3 ∧ 0 ≤ n ∧ n ≤ 8) := by
 obtain ⟨v, K1, h1, hv⟩ := askOk_ev a b s hs l m hl hm 0
 obtain ⟨K2, h2⟩ := specFree_ev a b s hs
 obtain ⟨K3, h3⟩ := implFree_ev a b s hs
 generalize frees a b s = F at *
 refine ⟨v && (decide (F.length ≤ 9) && (decide (l.length ≤ 3) && decide (0 ≤ n ∧ n ≤ 8))), K1 + K2 + K3, fun k hk => ?_, fun h => ?_⟩
 ·unfold spec_l16Ask.f impl_isLooked.f
  rw [(h1 k (by omega)).1, (h1 k (by omega)).2, Option.bind_some, Option.bind_some]
  cases v with
  | false => exact ⟨rfl, rfl⟩
  | true =>
   rw [if_pos rfl, if_pos rfl, h2 k (by omega), h3 k (by omega), Option.bind_some, Option.bind_some]
   by_cases c1 : F.length ≤ 9
   ·have c1' : (F.length : Int) ≤ 9 := by omega
    rw [if_pos c1', if_pos c1', decide_eq_true c1]
    by_cases c2 : l.length ≤ 3
    ·have c2' : (l.length : Int) ≤ 3 := by omega
     rw [if_pos c2', if_pos c2', decide_eq_true c2, l01In_eq, Option.bind_some]
     by_cases c3 : n ≥ 0
     ·rw [if_pos c3]
      have e : decide (0 ≤ n ∧ n ≤ 8) = decide (n ≤ 8) := decide_eq_decide.mpr ⟨fun h => h.2, fun h => ⟨c3, h⟩⟩
      rw [e]
      exact ⟨rfl, rfl⟩
     ·rw [if_neg c3, decide_eq_false (fun h => c3 h.1)]
      exact ⟨rfl, rfl⟩
    ·have c2' : ¬ (l.length : Int) ≤ 3 := by omega
     rw [if_neg c2', if_neg c2', decide_eq_false c2]
     exact ⟨rfl, rfl⟩
   ·have c1' : ¬ (F.length : Int) ≤ 9 := by omega
    rw [if_neg c1', if_neg c1', decide_eq_false c1]
    exact ⟨rfl, rfl⟩
 ·simp only [Bool.and_eq_true, decide_eq_true_eq] at h
  exact ⟨hv h.1, h.2.1, h.2.2.1, h.2.2.2⟩
end Go.Proofs.Ytooofofeihkpcaa.Pure
/- Plain facts about the law's helpers over whole numbers: what comparing answers. -/
namespace Go.Proofs.Ytooofofeihkpcaa.Pure
open Go.RowKit Go.Proofs.Ytooofofeihkpcaa.Q Go.Proofs.YtooofofeihkpcaaW.PrintWords Go.Proofs.YtooofofeihkpcaaW.PrintLast

theorem eqIntS_l0 (a b : List Int) (hl : a.length = b.length) (hn : a.length ≤ 9223372036854775807) : ∀ (d i k : Nat), i + d = a.length → d < k →
  laws_eqIntS.l0 k a b (i : Int) = some (decide (a.drop i = b.drop i))
 | 0, i, k, hi, hk => by
  obtain ⟨k, rfl⟩ : ∃ m, k = m + 1 := ⟨k - 1, by omega⟩
  simp only [laws_eqIntS.l0]
  rw [if_neg (by omega), List.drop_of_length_le (by omega), List.drop_of_length_le (by omega)]
  rfl
 | d + 1, i, k, hi, hk => by
  obtain ⟨k, rfl⟩ : ∃ m, k = m + 1 := ⟨k - 1, by omega⟩
  simp only [laws_eqIntS.l0]
  rw [if_pos (by omega), if_pos (by omega), if_pos (by omega), rd_get a i (by omega), rd_get b i (by omega), drop_cons a i (by omega), drop_cons b i (by omega), w64 (by omega) (by omega)]
  by_cases h : a[i]'(by omega) = b[i]'(by omega)
  ·rw [if_pos h, show ((i : Int) + 1) = ((i + 1 : Nat) : Int) by omega, eqIntS_l0 a b hl hn d (i + 1) k (by omega) (by omega)]
   simp only [h, List.cons.injEq, true_and]
  ·rw [if_neg h]
   simp only [List.cons.injEq, h, false_and, decide_false]
theorem eqIntS_ev (a b : List Int) (hn : a.length ≤ 9223372036854775807) : ∃ K, ∀ k, K ≤ k → laws_eqIntS.f k a b = some (decide (a = b)) := by
 refine ⟨a.length + 1, fun k hk => ?_⟩
 show laws_eqIntS.f k a b = some (decide (a = b))
 unfold laws_eqIntS.f
 by_cases h : a.length = b.length
 ·rw [if_pos (by omega)]
  have := eqIntS_l0 a b h hn a.length 0 k (by omega) (by omega)
  simpa using this
 ·rw [if_neg (by omega), decide_eq_false (fun e => h (by rw [e]))]
end Go.Proofs.Ytooofofeihkpcaa.Pure
/- Plain facts about the law's helpers over whole numbers: what copying answers. -/
namespace Go.Proofs.Ytooofofeihkpcaa.Pure
open Go.RowKit Go.Proofs.Ytooofofeihkpcaa.Q Go.Proofs.YtooofofeihkpcaaW.PrintWords Go.Proofs.YtooofofeihkpcaaW.PrintLast

theorem toIntS_l0 (l : List Int) (hn : l.length ≤ 9223372036854775807) : ∀ (d i k : Nat) (out : List Int), out.length = l.length → i + d = l.length → (∀ j, j < i → out[j]? = l[j]?) → d < k →
  laws_toIntS.l0 k l out (i : Int) = some l
 | 0, i, k, out, ho, hi, hj, hk => by
  obtain ⟨k, rfl⟩ : ∃ m, k = m + 1 := ⟨k - 1, by omega⟩
  simp only [laws_toIntS.l0]
  rw [if_neg (by omega)]
  congr 1
  apply List.ext_getElem?
  intro j
  rcases Nat.lt_or_ge j l.length with h | h
  ·exact hj j (by omega)
  ·rw [List.getElem?_eq_none (by omega), List.getElem?_eq_none h]
 | d + 1, i, k, out, ho, hi, hj, hk => by
  obtain ⟨k, rfl⟩ : ∃ m, k = m + 1 := ⟨k - 1, by omega⟩
  simp only [laws_toIntS.l0]
  rw [if_pos (by omega), if_pos (by omega), if_pos (by omega), w64 (by omega) (by omega), show ((i : Int) + 1) = ((i + 1 : Nat) : Int) by omega]
  refine toIntS_l0 l hn d (i + 1) k _ (by simpa using ho) (by omega) (fun j hji => ?_) (by omega)
  rw [Int.toNat_natCast, rd_get l i (by omega), List.getElem?_set]
  by_cases e : i = j
  ·subst e
   rw [if_pos rfl, if_pos (by omega), List.getElem?_eq_getElem (by omega)]
  ·rw [if_neg e]
   exact hj j (by omega)
theorem toIntS_ev (l : List Int) (hn : l.length ≤ 35184372088832) : ∃ K, ∀ k, K ≤ k → laws_toIntS.f k l = some l := by
 refine ⟨l.length + 1, fun k hk => ?_⟩
 show laws_toIntS.f k l = some l
 unfold laws_toIntS.f
 rw [if_pos (by omega), if_pos (by omega)]
 exact toIntS_l0 l (by omega) l.length 0 k _ (by simp) (by omega) (fun j hj => absurd hj (Nat.not_lt_zero _)) (by omega)
end Go.Proofs.Ytooofofeihkpcaa.Pure
