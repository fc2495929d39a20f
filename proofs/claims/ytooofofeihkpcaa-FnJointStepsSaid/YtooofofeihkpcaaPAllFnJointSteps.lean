/- The plain facts of this claim, in their order. -/
import Derived.Test.YtooofofeihkpcaaQ0
import Derived.Test.YtooofofeihkpcaaQ5
import Derived.Test.YtooofofeihkpcaaQ6
import Derived.Test.YtooofofeihkpcaaQ1
import Derived.Test.YtooofofeihkpcaaQ2
import Derived.Test.YtooofofeihkpcaaQ3
import Derived.Test.YtooofofeihkpcaaQ4
import Derived.Test.YtooofofeihkpcaaQ7
import Derived.Laws.Bits128
set_option linter.unusedSimpArgs false
set_option linter.unusedSectionVars false
set_option linter.unusedVariables false
/- Plain facts that all the proofs share. -/
namespace Go.Proofs.Ytooofofeihkpcaa.Pure
open Go.RowKit Go.Proofs.Ytooofofeihkpcaa.Q Go.Proofs.YtooofofeihkpcaaW.PrintWords Go.Proofs.YtooofofeihkpcaaW.PrintLast

theorem w64 {x : Int} (h0 : -9223372036854775808 ≤ x) (h1 : x ≤ 9223372036854775807) : wrap64 x = x := by unfold wrap64; omega
theorem rd_get (l : List Int) (i : Nat) (h : i < l.length) : rd l (i : Int) = l[i] := by simp [rd, h]
theorem drop_cons {α : Type} (l : List α) (i : Nat) (h : i < l.length) : l.drop i = l[i] :: l.drop (i + 1) := List.drop_eq_getElem_cons h
def iota (m : Int) : Nat → List Int
 | 0 => []
 | d + 1 => m :: iota (m + 1) d
end Go.Proofs.Ytooofofeihkpcaa.Pure
/- A number between two others. -/
namespace Go.Proofs.Ytooofofeihkpcaa.Pure
open Go.RowKit Go.Proofs.Ytooofofeihkpcaa.Q Go.Proofs.YtooofofeihkpcaaW.PrintWords Go.Proofs.YtooofofeihkpcaaW.PrintLast
theorem l01In_eq (a b c : Int) : spec_l01In.f a b c = some (decide (b ≤ a ∧ a ≤ c)) := by
 unfold spec_l01In.f
 by_cases h : a ≥ b
 ·rw [if_pos h]; congr 1; exact decide_eq_decide.mpr ⟨fun h2 => ⟨h, h2⟩, fun h2 => h2.2⟩
 ·rw [if_neg h, decide_eq_false (fun h2 => h h2.1)]
end Go.Proofs.Ytooofofeihkpcaa.Pure
/- Grids: what the program and the reference call right, and a free cell. -/
namespace Go.Proofs.Ytooofofeihkpcaa.Pure
open Go.RowKit Go.Proofs.Ytooofofeihkpcaa.Q Go.Proofs.YtooofofeihkpcaaW.PrintWords Go.Proofs.YtooofofeihkpcaaW.PrintLast
def Kind (c : Int) : Prop := c = 46 ∨ c = 35 ∨ (97 ≤ c ∧ c ≤ 102) ∨ (65 ≤ c ∧ c ≤ 70)
theorem kind_eq (c : Int) : ∃ b, spec_l02Kind.f c = some b ∧ (b = true ↔ Kind c) := by
 unfold spec_l02Kind.f Kind
 by_cases h1 : c = 46
 ·exact ⟨true, by rw [if_pos h1], by simp [h1]⟩
 ·by_cases h2 : c = 35
  ·exact ⟨true, by rw [if_neg h1, if_pos h2], by simp [h2]⟩
  ·by_cases h3 : c ≥ 97
   ·by_cases h4 : c ≤ 102
    ·exact ⟨true, by rw [if_neg h1, if_neg h2, if_pos h3, if_pos h4], ⟨fun _ => by omega, fun _ => rfl⟩⟩
    ·refine ⟨decide (c ≤ 70), by rw [if_neg h1, if_neg h2, if_pos h3, if_neg h4, if_pos (by omega)], ⟨fun h => (by have := of_decide_eq_true h; omega), fun h => decide_eq_true (by omega)⟩⟩
   ·by_cases h5 : c ≥ 65
    ·exact ⟨decide (c ≤ 70), by rw [if_neg h1, if_neg h2, if_neg h3, if_pos h5], ⟨fun h => (by have := of_decide_eq_true h; omega), fun h => decide_eq_true (by omega)⟩⟩
    ·exact ⟨false, by rw [if_neg h1, if_neg h2, if_neg h3, if_neg h5], ⟨fun h => (by cases h), fun h => (by omega)⟩⟩
def Gok (a b : Int) (s : ByteArray) : Prop := 1 ≤ a ∧ a ≤ 8 ∧ 1 ≤ b ∧ b ≤ 8 ∧ (s.size : Int) = a * b ∧ ∀ i : Nat, i < s.size → Kind (bt s (i : Int))
theorem Gok_size {a b : Int} {s : ByteArray} (h : Gok a b s) : s.size ≤ 64 := by
 obtain ⟨h1, h2, h3, h4, h5, _⟩ := h
 have : a * b ≤ 8 * 8 := Int.mul_le_mul h2 h4 (by omega) (by omega)
 omega
theorem implKind_eq (c : Int) (b : Bool) (hb : b = true ↔ Kind c) (X : Option Bool) : (if c = 46 then X else (if c = 35 then X else (if c < 97 then (if c < 65 then (some false) else (if c > 70 then (some false) else X)) else (if c > 102 then (if c < 65 then (some false) else (if c > 70 then (some false) else X)) else X)))) = (if b = true then X else some false) := by
 unfold Kind at hb
 cases b with
 | true =>
  have h := hb.mp rfl
  rw [if_pos rfl]
  repeat' split
  all_goals first | rfl | (exfalso; omega)
 | false =>
  have h : ¬ (c = 46 ∨ c = 35 ∨ (97 ≤ c ∧ c ≤ 102) ∨ (65 ≤ c ∧ c ≤ 70)) := fun h => absurd (hb.mpr h) Bool.false_ne_true
  rw [if_neg Bool.false_ne_true]
  repeat' split
  all_goals first | rfl | (exfalso; omega)
theorem gridOk_l0 (a b : Int) (s : ByteArray) (hs : s.size ≤ 1048576) : ∀ (d i : Nat), i + d = s.size → ∃ g K, (∀ k, K ≤ k → spec_GridOk.l0 k (i : Int) a b s = some g ∧ impl_GridOk.l0 k (i : Int) a b s = some g) ∧ (g = true ↔ ∀ j : Nat, i ≤ j → j < s.size → Kind (bt s (j : Int)))
 | 0, i, hi => by
  refine ⟨true, 1, fun k hk => ?_, ⟨fun _ j h1 h2 => by omega, fun _ => rfl⟩⟩
  obtain ⟨k, rfl⟩ : ∃ m, k = m + 1 := ⟨k - 1, by omega⟩
  have e1 : ¬ (i : Int) < (s.size : Int) := by omega
  simp only [spec_GridOk.l0, impl_GridOk.l0, e1, reduceIte, and_self]
 | d + 1, i, hi => by
  obtain ⟨g, K, h, hg⟩ := gridOk_l0 a b s hs d (i + 1) (by omega)
  have e1 : (i : Int) < (s.size : Int) := by omega
  have e2 : (0 : Int) ≤ i := by omega
  have e9 : wrap64 ((i : Int) + 1) = ((i + 1 : Nat) : Int) := by rw [w64 (by omega) (by omega)]; rfl
  obtain ⟨q, hq, hqk⟩ := kind_eq (bt s (i : Int))
  have hstep : (∀ j : Nat, i ≤ j → j < s.size → Kind (bt s (j : Int))) ↔ Kind (bt s (i : Int)) ∧ ∀ j : Nat, i + 1 ≤ j → j < s.size → Kind (bt s (j : Int)) := by
   constructor
   ·exact fun h => ⟨h i (Nat.le_refl _) (by omega), fun j h1 h2 => h j (by omega) h2⟩
   ·rintro ⟨h0, h⟩ j h1 h2
    rcases Nat.eq_or_lt_of_le h1 with e | e
    ·subst e; exact h0
    ·exact h j e h2
  rw [hstep]
  cases q with
  | true =>
   refine ⟨g, K + 1, fun k hk => ?_, by rw [hg]; exact ⟨fun h => ⟨hqk.mp rfl, h⟩, fun h => h.2⟩⟩
   obtain ⟨k, rfl⟩ : ∃ m, k = m + 1 := ⟨k - 1, by omega⟩
   obtain ⟨q1, q2⟩ := h k (by omega)
   simp only [spec_GridOk.l0, impl_GridOk.l0]
   rw [if_pos e1, if_pos e2, if_pos e1, if_pos e2, hq, e9, implKind_eq _ true hqk]
   simp only [Option.bind_some, reduceIte]
   exact ⟨q1, q2⟩
  | false =>
   refine ⟨false, 1, fun k hk => ?_, ⟨fun h => (by cases h), fun h => absurd (hqk.mpr h.1) (by decide)⟩⟩
   obtain ⟨k, rfl⟩ : ∃ m, k = m + 1 := ⟨k - 1, by omega⟩
   simp only [spec_GridOk.l0, impl_GridOk.l0]
   rw [if_pos e1, if_pos e2, if_pos e1, if_pos e2, hq, e9, implKind_eq _ false hqk]
   simp only [Option.bind_some, Bool.false_eq_true, reduceIte, and_self]
theorem gridOk_ev (a b : Int) (s : ByteArray) (hs : s.size ≤ 1048576) : ∃ g K, (∀ k, K ≤ k → spec_GridOk.f k a b s = some g ∧ impl_GridOk.f k a b s = some g) ∧ (g = true ↔ Gok a b s) := by
 obtain ⟨g, K, h, hg⟩ := gridOk_l0 a b s hs s.size 0 (by omega)
 by_cases ha : 1 ≤ a ∧ a ≤ 8
 ·by_cases hb : 1 ≤ b ∧ b ≤ 8
  ·have hm : wrap64 (a * b) = a * b := by
    have h1 : a * b ≤ 8 * 8 := Int.mul_le_mul ha.2 hb.2 (by omega) (by omega)
    have h2 : 0 ≤ a * b := Int.mul_nonneg (by omega) (by omega)
    exact w64 (by omega) (by omega)
   have a1 : ¬ a < 1 := by omega
   have a2 : ¬ a > 8 := by omega
   have b1 : ¬ b < 1 := by omega
   have b2 : ¬ b > 8 := by omega
   by_cases hsz : (s.size : Int) = a * b
   ·have e : ((s.size : Int) != wrap64 (a * b)) = false := by rw [hm]; simp [hsz]
    refine ⟨g, K + 1, fun k hk => ?_, ?_⟩
    ·obtain ⟨k, rfl⟩ : ∃ m, k = m + 1 := ⟨k - 1, by omega⟩
     unfold spec_GridOk.f impl_GridOk.f
     simp only [l01In_eq, ha, hb, a1, a2, b1, b2, e, and_self, decide_true, Option.bind_some, reduceIte]
     simp only [spec_GridOk.j0, impl_GridOk.j0, Bool.false_eq_true, reduceIte]
     exact h k (by omega)
    ·rw [hg]
     exact ⟨fun h => ⟨ha.1, ha.2, hb.1, hb.2, hsz, fun i hi => h i (Nat.zero_le _) hi⟩, fun h j _ hj => h.2.2.2.2.2 j hj⟩
   ·have e : ((s.size : Int) != wrap64 (a * b)) = true := by rw [hm]; simp [hsz]
    refine ⟨false, 1, fun k hk => ?_, ⟨fun h => (by cases h), fun h => absurd h.2.2.2.2.1 hsz⟩⟩
    obtain ⟨k, rfl⟩ : ∃ m, k = m + 1 := ⟨k - 1, by omega⟩
    unfold spec_GridOk.f impl_GridOk.f
    simp only [l01In_eq, ha, hb, a1, a2, b1, b2, e, and_self, decide_true, Option.bind_some, reduceIte]
    simp only [spec_GridOk.j0, impl_GridOk.j0, reduceIte, and_self]
  ·refine ⟨false, 1, fun k hk => ?_, ⟨fun h => (by cases h), fun h => absurd ⟨h.2.2.1, h.2.2.2.1⟩ hb⟩⟩
   obtain ⟨k, rfl⟩ : ∃ m, k = m + 1 := ⟨k - 1, by omega⟩
   have a1 : ¬ a < 1 := by omega
   have a2 : ¬ a > 8 := by omega
   unfold spec_GridOk.f impl_GridOk.f
   simp only [l01In_eq, ha, hb, a1, a2, and_self, decide_true, decide_false, Option.bind_some, Bool.false_eq_true, reduceIte]
   by_cases b1 : b < 1
   ·simp only [b1, spec_GridOk.j0, impl_GridOk.j0, reduceIte, and_self]
   ·have b2 : b > 8 := by omega
    simp only [b1, b2, spec_GridOk.j0, impl_GridOk.j0, reduceIte, and_self]
 ·refine ⟨false, 1, fun k hk => ?_, ⟨fun h => (by cases h), fun h => absurd ⟨h.1, h.2.1⟩ ha⟩⟩
  obtain ⟨k, rfl⟩ : ∃ m, k = m + 1 := ⟨k - 1, by omega⟩
  unfold spec_GridOk.f impl_GridOk.f
  simp only [l01In_eq, ha, decide_false, Option.bind_some, Bool.false_eq_true, reduceIte]
  by_cases a1 : a < 1
  ·simp only [a1, spec_GridOk.j0, impl_GridOk.j0, reduceIte, and_self]
  ·have a2 : a > 8 := by omega
   simp only [a1, a2, spec_GridOk.j0, impl_GridOk.j0, reduceIte, and_self]
def Fr (s : ByteArray) (c : Int) : Prop := 0 ≤ c ∧ c < (s.size : Int) ∧ bt s c ≠ 35
instance (s : ByteArray) (c : Int) : Decidable (Fr s c) := by unfold Fr; exact inferInstance
theorem fr_nest (s : ByteArray) (c : Int) : (if c ≥ 0 then (if c < (s.size : Int) then (if 0 ≤ c then (some ((bt s c) != 35)) else (none)) else (some false)) else (some false)) = some (decide (Fr s c)) := by
 by_cases h1 : c ≥ 0
 ·by_cases h2 : c < (s.size : Int)
  ·rw [if_pos h1, if_pos h2, if_pos h1]
   by_cases h3 : bt s c = 35
   ·rw [decide_eq_false (fun h : Fr s c => h.2.2 h3), h3]; rfl
   ·rw [decide_eq_true (show Fr s c from ⟨h1, h2, h3⟩)]
    congr 1
    simpa using h3
  ·rw [if_pos h1, if_neg h2, decide_eq_false (fun h : Fr s c => h2 h.2.1)]
 ·rw [if_neg h1, decide_eq_false (fun h : Fr s c => h1 h.1)]
theorem isFree_eq (a b : Int) (s : ByteArray) (c : Int) : impl_isFree.f a b s c = some (decide (Fr s c)) := fr_nest s c
theorem specFreeAt_ev (a b : Int) (s : ByteArray) (hs : s.size ≤ 1048576) (c : Int) : ∃ g K, (∀ k, K ≤ k → spec_FreeAt.f k a b s c = some g) ∧ (g = true ↔ Gok a b s ∧ Fr s c) := by
 obtain ⟨g, K, h, hg⟩ := gridOk_ev a b s hs
 cases g with
 | false =>
  refine ⟨false, K, fun k hk => ?_, ⟨fun h => (by cases h), fun h2 => absurd (hg.mpr h2.1) (by decide)⟩⟩
  unfold spec_FreeAt.f
  rw [(h k hk).1]
  rfl
 | true =>
  refine ⟨decide (Fr s c), K, fun k hk => ?_, ⟨fun h => ⟨hg.mp rfl, of_decide_eq_true h⟩, fun h => decide_eq_true h.2⟩⟩
  unfold spec_FreeAt.f
  rw [(h k hk).1]
  simp only [Option.bind_some, reduceIte, isFree_eq]
  exact fr_nest s c
end Go.Proofs.Ytooofofeihkpcaa.Pure
/- Grids and their free cells: what the program and the reference answer. -/
namespace Go.Proofs.Ytooofofeihkpcaa.Pure
open Go.RowKit Go.Proofs.Ytooofofeihkpcaa.Q Go.Proofs.YtooofofeihkpcaaW.PrintWords Go.Proofs.YtooofofeihkpcaaW.PrintLast
def fr (s : ByteArray) : Nat → Nat → List Int
 | 0, _ => []
 | d + 1, i => if Fr s (i : Int) then (i : Int) :: fr s d (i + 1) else fr s d (i + 1)
theorem fr_len (s : ByteArray) : ∀ d i, (fr s d i).length ≤ d
 | 0, _ => Nat.le_refl _
 | d + 1, i => by
  unfold fr
  have := fr_len s d (i + 1)
  split <;> simp <;> omega
theorem fr_mem (s : ByteArray) (c : Int) : ∀ d i, c ∈ fr s d i ↔ (i : Int) ≤ c ∧ c < (i : Int) + d ∧ Fr s c
 | 0, i => by simp [fr]; omega
 | d + 1, i => by
  unfold fr
  by_cases h : Fr s (i : Int)
  ·rw [if_pos h, List.mem_cons, fr_mem s c d (i + 1)]
   constructor
   ·rintro (e | ⟨h1, h2, h3⟩)
    ·subst e; exact ⟨Int.le_refl _, by omega, h⟩
    ·exact ⟨by omega, by omega, h3⟩
   ·rintro ⟨h1, h2, h3⟩
    by_cases e : c = (i : Int)
    ·exact .inl e
    ·exact .inr ⟨by omega, by omega, h3⟩
  ·rw [if_neg h, fr_mem s c d (i + 1)]
   constructor
   ·rintro ⟨h1, h2, h3⟩; exact ⟨by omega, by omega, h3⟩
   ·rintro ⟨h1, h2, h3⟩
    by_cases e : c = (i : Int)
    ·subst e; exact absurd h3 h
    ·exact ⟨by omega, by omega, h3⟩
open Classical in
noncomputable def frees (a b : Int) (s : ByteArray) : List Int := if Gok a b s then fr s s.size 0 else []
theorem frees_len (a b : Int) (s : ByteArray) : (frees a b s).length ≤ 64 := by
 unfold frees
 split
 ·rename_i h
  have := fr_len s s.size 0
  have := Gok_size h
  omega
 ·simp
theorem frees_mem (a b : Int) (s : ByteArray) (c : Int) : c ∈ frees a b s ↔ Gok a b s ∧ Fr s c := by
 unfold frees
 split
 ·rename_i h
  rw [fr_mem]
  exact ⟨fun h2 => ⟨h, h2.2.2⟩, fun h2 => ⟨by have := h2.2.1; omega, by have := h2.2.2.1; omega, h2.2⟩⟩
 ·rename_i h
  simp [h]
theorem implFree_go (a b : Int) (s : ByteArray) (hg : Gok a b s) : ∀ (d i : Nat) (acc : List Int), i + d = s.size → acc.length ≤ i → impl_FreeCells.go a b s d i acc = some (acc ++ fr s d i)
 | 0, i, acc, hi, ha => by simp [impl_FreeCells.go, fr]
 | d + 1, i, acc, hi, ha => by
  have hsz := Gok_size hg
  have hk := hg.2.2.2.2.2 i (by omega)
  have hb : bt s (i : Int) = ((s[i]'(by omega)).toNat : Int) := by
   unfold bt
   rw [dif_pos (by rw [Int.toNat_natCast]; omega)]
   simp
  have hlt : (s[i]'(by omega)).toNat < 128 := by
   unfold Kind at hk
   rw [hb] at hk
   omega
  unfold impl_FreeCells.go fr
  rw [dif_pos (by omega), if_pos hlt, isFree_eq, Option.bind_some]
  by_cases c : Fr s (i : Int)
  ·rw [decide_eq_true c, if_pos rfl, if_pos (by omega), if_pos c, implFree_go a b s hg d (i + 1) _ (by omega) (by simp; omega)]
   simp
  ·rw [decide_eq_false c, if_neg (by decide), if_neg c, implFree_go a b s hg d (i + 1) _ (by omega) (by omega)]
theorem implFree_ev (a b : Int) (s : ByteArray) (hs : s.size ≤ 1048576) : ∃ K, ∀ k, K ≤ k → impl_FreeCells.f k a b s = some (frees a b s) := by
 obtain ⟨g, K, h, hg⟩ := gridOk_ev a b s hs
 refine ⟨K, fun k hk => ?_⟩
 unfold impl_FreeCells.f frees
 rw [(h k hk).2, Option.bind_some]
 cases g with
 | true =>
  have hG := hg.mp rfl
  rw [if_pos rfl, if_pos hG, implFree_go a b s hG s.size 0 [] (by omega) (by simp)]
  simp
 | false =>
  rw [if_neg (by decide), if_neg (fun h => absurd (hg.mpr h) (by decide))]
end Go.Proofs.Ytooofofeihkpcaa.Pure
/- The free cells are ascending. -/
namespace Go.Proofs.Ytooofofeihkpcaa.Pure
open Go.RowKit Go.Proofs.Ytooofofeihkpcaa.Q Go.Proofs.YtooofofeihkpcaaW.PrintWords Go.Proofs.YtooofofeihkpcaaW.PrintLast
theorem fr_asc (s : ByteArray) : ∀ d i, (fr s d i).Pairwise (· < ·)
 | 0, _ => List.Pairwise.nil
 | d + 1, i => by
  have ih := fr_asc s d (i + 1)
  unfold fr
  split
  ·refine List.pairwise_cons.mpr ⟨fun x hx => ?_, ih⟩
   have := (fr_mem s x d (i + 1)).mp hx
   omega
  ·exact ih
theorem frees_asc (a b : Int) (s : ByteArray) : (frees a b s).Pairwise (· < ·) := by
 unfold frees
 split
 ·exact fr_asc s _ _
 ·exact List.Pairwise.nil
end Go.Proofs.Ytooofofeihkpcaa.Pure
/- The stands: the rounds of the program. -/
namespace Go.Proofs.Ytooofofeihkpcaa.Pure
open Go.RowKit Go.Proofs.Ytooofofeihkpcaa.Q Go.Proofs.YtooofofeihkpcaaW.PrintWords Go.Proofs.YtooofofeihkpcaaW.PrintLast
def ext1 (F l : List Int) : List (List Int) := (F.filter fun c => decide (l.length = 0) || decide (rd l ((l.length - 1 : Nat) : Int) < c)).map fun c => l ++ [c]
def extL (F : List Int) (L : List (List Int)) : List (List Int) := L.flatMap (ext1 F)
def iterL (F : List Int) : Nat → List (List Int) → List (List Int)
 | 0, L => L
 | n + 1, L => iterL F n (extL F L)
theorem ext1_len (F l : List Int) : (ext1 F l).length ≤ F.length := by
 unfold ext1
 rw [List.length_map]
 exact List.length_filter_le _ _
theorem extL_len (F : List Int) : ∀ L : List (List Int), (extL F L).length ≤ L.length * F.length
 | [] => by simp [extL]
 | l :: L => by
  have h1 := extL_len F L
  have h2 := ext1_len F l
  unfold extL at h1 ⊢
  rw [List.flatMap_cons, List.length_append, List.length_cons, Nat.succ_mul]
  omega
theorem ext1_mem {F l x : List Int} (h : x ∈ ext1 F l) : x.length = l.length + 1 := by
 unfold ext1 at h
 obtain ⟨c, _, rfl⟩ := List.mem_map.mp h
 simp
theorem extL_mem {F : List Int} {L : List (List Int)} {m : Nat} (hL : ∀ l ∈ L, l.length ≤ m) : ∀ x ∈ extL F L, x.length ≤ m + 1 := by
 intro x hx
 obtain ⟨l, hl, hx⟩ := List.mem_flatMap.mp hx
 have := hL l hl
 have := ext1_mem hx
 omega
section
variable (F : List Int) (hF : F.length ≤ 9)
include hF
theorem st_l2 (n : Int) (l : List Int) (hl : l.length ≤ 100) (L : List (List Int)) (li : Int) : ∀ (d i : Nat) (acc : List (List Int)) (k : Nat), i + d = F.length → acc.length + d ≤ 1000000 → impl_StandsOf.l2 (k + d + 1) n F acc l L (L.length : Int) li F (F.length : Int) (i : Int) = impl_StandsOf.l2 (k + 1) n F (acc ++ ((F.drop i).filter fun c => decide (l.length = 0) || decide (rd l ((l.length - 1 : Nat) : Int) < c)).map fun c => l ++ [c]) l L (L.length : Int) li F (F.length : Int) (F.length : Int)
 | 0, i, acc, k, hi, ha => by
  obtain rfl : i = F.length := by omega
  simp
 | d + 1, i, acc, k, hi, ha => by
  have hil : i < F.length := by omega
  have e1 : (i : Int) < (F.length : Int) := by omega
  have e2 : (0 : Int) ≤ (i : Int) := by omega
  have e9 : wrap64 ((i : Int) + 1) = ((i + 1 : Nat) : Int) := w64 (by omega) (by omega)
  have hc : slices_Clone_int_int.f l = some l := by unfold slices_Clone_int_int.f; rw [if_pos (by omega)]
  rw [drop_cons F i hil, List.filter_cons, show k + (d + 1) + 1 = (k + d + 1) + 1 by omega, impl_StandsOf.l2, if_pos e1, if_pos e2, if_pos e1, e9, rd_get F i hil]
  by_cases c0 : l.length = 0
  ·rw [if_pos (show (l.length : Int) = 0 by omega), hc, Option.bind_some, if_pos (by omega), if_pos (by omega), decide_eq_true c0, Bool.true_or, if_pos rfl, st_l2 n l hl L li d (i + 1) (acc ++ [l ++ [F[i]]]) k (by omega) (by simp; omega), List.append_assoc, List.map_cons, List.singleton_append]
   simp only [c0, decide_true, Bool.true_or]
  ·have w1 : wrap64 ((l.length : Int) - 1) = ((l.length - 1 : Nat) : Int) := by rw [w64 (by omega) (by omega)]; omega
   rw [if_neg (show ¬ (l.length : Int) = 0 by omega), w1, if_pos (show (0 : Int) ≤ ((l.length - 1 : Nat) : Int) by omega), if_pos (show ((l.length - 1 : Nat) : Int) < (l.length : Int) by omega), decide_eq_false c0, Bool.false_or]
   by_cases c1 : rd l ((l.length - 1 : Nat) : Int) < F[i]
   ·rw [if_pos c1, hc, Option.bind_some, if_pos (by omega), if_pos (by omega), decide_eq_true c1, if_pos rfl, st_l2 n l hl L li d (i + 1) (acc ++ [l ++ [F[i]]]) k (by omega) (by simp; omega), List.append_assoc, List.map_cons, List.singleton_append]
    simp only [c0, decide_false, Bool.false_or]
   ·rw [if_neg c1, decide_eq_false c1, if_neg (by decide), st_l2 n l hl L li d (i + 1) acc k (by omega) (by omega)]
    simp only [c0, decide_false, Bool.false_or]
theorem st_l1 (n : Int) (L : List (List Int)) (hL : L.length ≤ 10000) (hm : ∀ l ∈ L, l.length ≤ 100) (v : List (List Int)) : ∀ (d i : Nat) (acc : List (List Int)), i + d = L.length → acc.length + 9 * d ≤ 900000 → (∃ K, ∀ k, K ≤ k → impl_StandsOf.l0 k (wrap64 (n - 1)) F (acc ++ extL F (L.drop i)) = some v) → ∃ K, ∀ k, K ≤ k → impl_StandsOf.l1 k n F acc L (L.length : Int) (i : Int) = some v
 | 0, i, acc, hi, ha, hc => by
  obtain ⟨K, h⟩ := hc
  rw [List.drop_of_length_le (by omega)] at h
  refine ⟨K + 1, fun k hk => ?_⟩
  obtain ⟨k, rfl⟩ : ∃ m, k = m + 1 := ⟨k - 1, by omega⟩
  have := h k (by omega)
  rw [impl_StandsOf.l1, if_neg (by omega)]
  simpa [extL] using this
 | d + 1, i, acc, hi, ha, hc => by
  have hil : i < L.length := by omega
  have e1 : (i : Int) < (L.length : Int) := by omega
  have e2 : (0 : Int) ≤ (i : Int) := by omega
  have e9 : wrap64 ((i : Int) + 1) = ((i + 1 : Nat) : Int) := w64 (by omega) (by omega)
  have hr : rd_L3 L (i : Int) = L[i] := by simp [rd_L3, hil]
  have hlen := ext1_len F L[i]
  obtain ⟨K, h⟩ := st_l1 n L hL hm v d (i + 1) (acc ++ ext1 F L[i]) (by omega) (by rw [List.length_append]; omega) (by
   obtain ⟨K, h⟩ := hc
   refine ⟨K, fun k hk => ?_⟩
   have := h k hk
   rw [drop_cons L i hil] at this
   rw [List.append_assoc]
   exact this)
  refine ⟨K + F.length + 2, fun k hk => ?_⟩
  obtain ⟨k, rfl⟩ : ∃ m, k = (m + F.length + 1) + 1 := ⟨k - F.length - 2, by omega⟩
  have h2 := st_l2 F hF n L[i] (hm _ (List.getElem_mem hil)) L (i : Int) F.length 0 acc k (by omega) (by omega)
  rw [show ((0 : Nat) : Int) = 0 from rfl, List.drop_zero] at h2
  rw [impl_StandsOf.l1, if_pos e1, if_pos e2, if_pos e1, hr, h2, impl_StandsOf.l2, if_neg (by omega), e9]
  exact h k (by omega)
theorem st_l0 : ∀ (n : Nat) (L : List (List Int)), n ≤ 3 → L.length * 9 ^ n ≤ 729 → (∀ l ∈ L, l.length + n ≤ 3) → ∃ K, ∀ k, K ≤ k → impl_StandsOf.l0 k (n : Int) F L = some (iterL F n L)
 | 0, L, _, _, _ => by
  refine ⟨1, fun k hk => ?_⟩
  obtain ⟨k, rfl⟩ : ∃ m, k = m + 1 := ⟨k - 1, by omega⟩
  rw [impl_StandsOf.l0, if_neg (by omega)]
  rfl
 | n + 1, L, hn, hL, hm => by
  have hb : L.length * 9 ^ (n + 1) = (L.length * 9) * 9 ^ n := by rw [Nat.pow_succ, Nat.mul_comm (9 ^ n) 9, Nat.mul_assoc]
  have hpos : 1 ≤ 9 ^ n := Nat.one_le_pow _ _ (by omega)
  have hl81 : L.length * 9 ≤ 729 := by
   have : L.length * 9 * 1 ≤ L.length * 9 * 9 ^ n := Nat.mul_le_mul_left _ hpos
   omega
  have he := extL_len F L
  have he2 : (extL F L).length ≤ L.length * 9 := Nat.le_trans he (Nat.mul_le_mul_left _ hF)
  obtain ⟨K, h⟩ := st_l0 n (extL F L) (by omega) (by
   have : (extL F L).length * 9 ^ n ≤ L.length * 9 * 9 ^ n := Nat.mul_le_mul_right _ he2
   omega) (fun x hx => by
   have := extL_mem (F := F) (m := 2 - n) (fun l hl => by have := hm l hl; omega) x hx
   omega)
  obtain ⟨K2, h2⟩ := st_l1 F hF ((n + 1 : Nat) : Int) L (by omega) (fun l hl => by have := hm l hl; omega) (iterL F n (extL F L)) L.length 0 [] (by omega) (by simp; omega) ⟨K, fun k hk => by
   rw [show wrap64 (((n + 1 : Nat) : Int) - 1) = (n : Int) by rw [w64 (by omega) (by omega)]; omega, List.nil_append, List.drop_zero]
   exact h k hk⟩
  rw [show ((0 : Nat) : Int) = 0 from rfl] at h2
  refine ⟨K2 + 1, fun k hk => ?_⟩
  obtain ⟨k, rfl⟩ : ∃ m, k = m + 1 := ⟨k - 1, by omega⟩
  rw [impl_StandsOf.l0, if_pos (by omega)]
  exact h2 k (by omega)
end
def gt (F : List Int) (x : Int) : List Int := F.filter fun c => decide (x < c)
def G2 (F : List Int) (x : Int) : List (List Int) := (gt F x).map fun y => [x, y]
def G3a (F : List Int) (x y : Int) : List (List Int) := (gt F y).map fun z => [x, y, z]
def G3 (F : List Int) (x : Int) : List (List Int) := (gt F x).flatMap (G3a F x)
def standsF (F : List Int) (n : Nat) : List (List Int) := if n = 1 then F.map (fun c => [c]) else if n = 2 then F.flatMap (G2 F) else F.flatMap (G3 F)
theorem ext_nil (F : List Int) : extL F [[]] = F.map (fun c => [c]) := by
 unfold extL ext1
 simp only [List.flatMap_cons, List.flatMap_nil, List.append_nil, List.length_nil, decide_true, Bool.true_or, List.nil_append]
 rw [List.filter_eq_self.mpr (fun _ _ => rfl)]
theorem ext_one (F : List Int) (x : Int) : ext1 F [x] = G2 F x := by
 simp [ext1, G2, gt, rd]
theorem ext_two (F : List Int) (x y : Int) : ext1 F [x, y] = G3a F x y := by
 simp [ext1, G3a, gt, rd]
theorem iter_stands (F : List Int) (n : Nat) (h1 : 1 ≤ n) (h3 : n ≤ 3) : iterL F n [[]] = standsF F n := by
 have e2 : extL F (F.map fun c => [c]) = F.flatMap (G2 F) := by
  unfold extL
  rw [List.flatMap_map]
  exact congrArg (fun g => F.flatMap g) (funext fun x => ext_one F x)
 have e3 : extL F (F.flatMap (G2 F)) = F.flatMap (G3 F) := by
  unfold extL
  rw [List.flatMap_assoc]
  refine congrArg (fun g => F.flatMap g) (funext fun x => ?_)
  unfold G2 G3
  rw [List.flatMap_map]
  exact congrArg (fun g => (gt F x).flatMap g) (funext fun y => ext_two F x y)
 rcases (by omega : n = 1 ∨ n = 2 ∨ n = 3) with rfl | rfl | rfl
 ·simp only [iterL, ext_nil]; rfl
 ·simp only [iterL, ext_nil, e2]; rfl
 ·simp only [iterL, ext_nil, e2, e3]; rfl
end Go.Proofs.Ytooofofeihkpcaa.Pure
/- The cells around a cell: what the program answers. -/
namespace Go.Proofs.Ytooofofeihkpcaa.Pure
open Go.RowKit Go.Proofs.Ytooofofeihkpcaa.Q Go.Proofs.YtooofofeihkpcaaW.PrintWords Go.Proofs.YtooofofeihkpcaaW.PrintLast
def Adj (a : Int) (s : ByteArray) (c x : Int) : Prop := Fr s c ∧ Fr s x ∧ (x = c - a ∨ (x = c - 1 ∧ 0 < c % a) ∨ (x = c + 1 ∧ c % a < a - 1) ∨ x = c + a)
theorem Fr_lt {s : ByteArray} {c : Int} (h : Fr s c) : 0 ≤ c ∧ c < (s.size : Int) := ⟨h.1, h.2.1⟩
theorem around_j3 (a b : Int) (s : ByteArray) (c : Int) (l : List Int) (t : Bool) (hc : 0 ≤ c) (hc1 : c ≤ 64) (ha : 1 ≤ a) (ha1 : a ≤ 8) (hl : l.length ≤ 10) (k : Nat) :
  impl_around.j3 (k + 1) c l t a b s = some (l ++ (if t = true then [c + 1] else []) ++ (if Fr s (c + a) then [c + a] else [])) := by
 have e1 : wrap64 (c + 1) = c + 1 := w64 (by omega) (by omega)
 have e2 : wrap64 (c + a) = c + a := w64 (by omega) (by omega)
 cases t with
 | true =>
  simp only [impl_around.j3, if_pos, e1, e2, isFree_eq, Option.bind_some, if_pos (show l.length < 17592186044416 by omega)]
  by_cases h : Fr s (c + a)
  ·rw [decide_eq_true h, if_pos rfl, if_pos h, if_pos (by simp; omega)]
  ·rw [decide_eq_false h, if_neg h]; simp
 | false =>
  simp only [impl_around.j3, Bool.false_eq_true, if_false, e1, e2, isFree_eq, Option.bind_some]
  by_cases h : Fr s (c + a)
  ·rw [decide_eq_true h, if_pos rfl, if_pos h, if_pos (by omega)]; simp
  ·rw [decide_eq_false h, if_neg h]; simp
theorem around_j2 (a b : Int) (s : ByteArray) (c : Int) (l : List Int) (hc : 0 ≤ c) (hc1 : c ≤ 64) (ha : 1 ≤ a) (ha1 : a ≤ 8) (hl : l.length ≤ 10) (k : Nat) :
  impl_around.j2 (k + 2) c l a b s = some (l ++ (if c % a < a - 1 ∧ Fr s (c + 1) then [c + 1] else []) ++ (if Fr s (c + a) then [c + a] else [])) := by
 have e1 : wrap64 (c + 1) = c + 1 := w64 (by omega) (by omega)
 have e2 : wrap64 (a - 1) = a - 1 := w64 (by omega) (by omega)
 have e3 : Int.tmod c a = c % a := Int.tmod_eq_emod_of_nonneg hc
 rw [impl_around.j2, if_neg (by omega), e1, e2, e3]
 by_cases h : c % a < a - 1
 ·rw [if_pos h, isFree_eq, Option.bind_some, around_j3 a b s c l _ hc hc1 ha ha1 hl]
  simp [h]
 ·rw [if_neg h, around_j3 a b s c l _ hc hc1 ha ha1 hl]
  simp [h]
theorem around_j1 (a b : Int) (s : ByteArray) (c : Int) (l : List Int) (t : Bool) (hc : 0 ≤ c) (hc1 : c ≤ 64) (ha : 1 ≤ a) (ha1 : a ≤ 8) (hl : l.length ≤ 4) (k : Nat) :
  impl_around.j1 (k + 3) c l t a b s = some (l ++ (if t = true then [c - 1] else []) ++ (if c % a < a - 1 ∧ Fr s (c + 1) then [c + 1] else []) ++ (if Fr s (c + a) then [c + a] else [])) := by
 have e1 : wrap64 (c - 1) = c - 1 := w64 (by omega) (by omega)
 rw [impl_around.j1, e1]
 cases t with
 | true =>
  rw [if_pos rfl, if_pos (by omega), around_j2 a b s c _ hc hc1 ha ha1 (by simp; omega)]
  simp
 | false =>
  rw [if_neg (by decide), around_j2 a b s c _ hc hc1 ha ha1 (by omega)]
  simp
theorem around_j0 (a b : Int) (s : ByteArray) (c : Int) (l : List Int) (hc : 0 ≤ c) (hc1 : c ≤ 64) (ha : 1 ≤ a) (ha1 : a ≤ 8) (hl : l.length ≤ 4) (k : Nat) :
  impl_around.j0 (k + 4) c l a b s = some (l ++ (if 0 < c % a ∧ Fr s (c - 1) then [c - 1] else []) ++ (if c % a < a - 1 ∧ Fr s (c + 1) then [c + 1] else []) ++ (if Fr s (c + a) then [c + a] else [])) := by
 have e1 : wrap64 (c - 1) = c - 1 := w64 (by omega) (by omega)
 have e3 : Int.tmod c a = c % a := Int.tmod_eq_emod_of_nonneg hc
 rw [impl_around.j0, if_neg (by omega), e1, e3]
 by_cases h : c % a > 0
 ·rw [if_pos h, isFree_eq, Option.bind_some, around_j1 a b s c l _ hc hc1 ha ha1 hl]
  simp [h]
 ·rw [if_neg h, around_j1 a b s c l _ hc hc1 ha ha1 hl]
  simp [show ¬ 0 < c % a from h]
theorem mem_opt {x y : Int} (p : Prop) [Decidable p] : x ∈ (if p then [y] else []) ↔ p ∧ x = y := by
 by_cases h : p <;> simp [h]
theorem implAround_ev (a b : Int) (s : ByteArray) (hG : Gok a b s) (c : Int) (hc : Fr s c) : ∃ ns K, (∀ k, K ≤ k → impl_around.f k a b s c = some ns) ∧ (∀ x, x ∈ ns ↔ Adj a s c x) ∧ ns.length ≤ 4 := by
 have hs := Gok_size hG
 obtain ⟨a0, a1, b0, b1, hab, _⟩ := hG
 obtain ⟨c0, c1⟩ := Fr_lt hc
 have e1 : wrap64 (c - a) = c - a := w64 (by omega) (by omega)
 refine ⟨(if Fr s (c - a) then [c - a] else []) ++ (if 0 < c % a ∧ Fr s (c - 1) then [c - 1] else []) ++ (if c % a < a - 1 ∧ Fr s (c + 1) then [c + 1] else []) ++ (if Fr s (c + a) then [c + a] else []), 4, fun k hk => ?_, fun x => ?_, ?_⟩
 ·obtain ⟨k, rfl⟩ : ∃ m, k = m + 4 := ⟨k - 4, by omega⟩
  unfold impl_around.f
  rw [isFree_eq, Option.bind_some, decide_eq_true hc, if_pos rfl, e1, isFree_eq, Option.bind_some]
  by_cases h : Fr s (c - a)
  ·rw [decide_eq_true h, if_pos rfl, if_pos (by simp), around_j0 a b s c _ c0 (by omega) a0 a1 (by simp), if_pos h]; simp
  ·rw [decide_eq_false h, if_neg (by decide), around_j0 a b s c _ c0 (by omega) a0 a1 (by simp), if_neg h]
 ·simp only [List.mem_append, mem_opt]
  unfold Adj
  constructor
  ·rintro (((⟨h, rfl⟩ | ⟨⟨h1, h⟩, rfl⟩) | ⟨⟨h1, h⟩, rfl⟩) | ⟨h, rfl⟩)
   ·exact ⟨hc, h, .inl rfl⟩
   ·exact ⟨hc, h, .inr (.inl ⟨rfl, h1⟩)⟩
   ·exact ⟨hc, h, .inr (.inr (.inl ⟨rfl, h1⟩))⟩
   ·exact ⟨hc, h, .inr (.inr (.inr rfl))⟩
  ·rintro ⟨_, h, (rfl | ⟨rfl, h1⟩ | ⟨rfl, h1⟩ | rfl)⟩
   ·exact .inl (.inl (.inl ⟨h, rfl⟩))
   ·exact .inl (.inl (.inr ⟨⟨h1, h⟩, rfl⟩))
   ·exact .inl (.inr ⟨⟨h1, h⟩, rfl⟩)
   ·exact .inr ⟨h, rfl⟩
 ·by_cases h1 : Fr s (c - a) <;> by_cases h2 : 0 < c % a ∧ Fr s (c - 1) <;> by_cases h3 : c % a < a - 1 ∧ Fr s (c + 1) <;> by_cases h4 : Fr s (c + a) <;> simp [h1, h2, h3, h4]
end Go.Proofs.Ytooofofeihkpcaa.Pure
/- Plain facts about slices.Index over whole numbers. -/
namespace Go.Proofs.Ytooofofeihkpcaa.Pure
open Go.RowKit Go.Proofs.Ytooofofeihkpcaa.Q Go.Proofs.YtooofofeihkpcaaW.PrintWords Go.Proofs.YtooofofeihkpcaaW.PrintLast
def placeFrom (c : Int) : Int → List Int → Int
 | _, [] => -1
 | i, x :: xs => if c = x then i else placeFrom c (i + 1) xs
theorem placeFrom_mem (c : Int) : ∀ (i : Int) (l : List Int), 0 ≤ i → (placeFrom c i l ≥ 0 ↔ c ∈ l)
 | _, [], _ => by simp [placeFrom]
 | i, x :: xs, h => by
  unfold placeFrom
  by_cases e : c = x
  ·rw [if_pos e]; simp [e]; omega
  ·rw [if_neg e, placeFrom_mem c (i + 1) xs (by omega)]; simp [e]
theorem index_l0 (l : List Int) (c : Int) (hn : l.length ≤ 9223372036854775807) : ∀ (d i k : Nat), i + d = l.length → d < k → slices_Index_int_int.l0 k l c (l.length : Int) (i : Int) = some (placeFrom c i (l.drop i))
 | 0, i, k, hi, hk => by
  obtain ⟨k, rfl⟩ : ∃ m, k = m + 1 := ⟨k - 1, by omega⟩
  simp only [slices_Index_int_int.l0]
  rw [if_neg (by omega), List.drop_of_length_le (by omega)]
  rfl
 | d + 1, i, k, hi, hk => by
  obtain ⟨k, rfl⟩ : ∃ m, k = m + 1 := ⟨k - 1, by omega⟩
  simp only [slices_Index_int_int.l0]
  rw [if_pos (by omega), if_pos (by omega), if_pos (by omega), rd_get l i (by omega), drop_cons l i (by omega), placeFrom]
  by_cases e : c = l[i]'(by omega)
  ·rw [if_pos e, if_pos e]
  ·rw [if_neg e, if_neg e, w64 (by omega) (by omega), show ((i : Int) + 1) = ((i + 1 : Nat) : Int) by omega, index_l0 l c hn d (i + 1) k (by omega) (by omega)]
theorem index_eq (l : List Int) (c : Int) (hn : l.length ≤ 9223372036854775807) (k : Nat) (hk : l.length < k) : slices_Index_int_int.f k l c = some (placeFrom c 0 l) := by
 have := index_l0 l c hn l.length 0 k (by omega) hk
 simpa [slices_Index_int_int.f] using this
end Go.Proofs.Ytooofofeihkpcaa.Pure
/- Plain facts about slices.Contains over whole numbers. -/
namespace Go.Proofs.Ytooofofeihkpcaa.Pure
open Go.RowKit Go.Proofs.Ytooofofeihkpcaa.Q Go.Proofs.YtooofofeihkpcaaW.PrintWords Go.Proofs.YtooofofeihkpcaaW.PrintLast
theorem contains_eq (l : List Int) (c : Int) (hn : l.length ≤ 9223372036854775807) (k : Nat) (hk : l.length < k) : slices_Contains_int_int.f k l c = some (decide (c ∈ l)) := by
 unfold slices_Contains_int_int.f
 rw [index_eq l c hn k hk, Option.bind_some]
 congr 1
 exact decide_eq_decide.mpr (placeFrom_mem c 0 l (by omega))
end Go.Proofs.Ytooofofeihkpcaa.Pure
/- Starts and goals: what the program asks of them. -/
namespace Go.Proofs.Ytooofofeihkpcaa.Pure
open Go.RowKit Go.Proofs.Ytooofofeihkpcaa.Q Go.Proofs.YtooofofeihkpcaaW.PrintWords Go.Proofs.YtooofofeihkpcaaW.PrintLast
def AscFrom (l : List Int) (i : Nat) : Prop := ∀ j : Nat, i ≤ j → j < l.length → 0 < j → rd l ((j : Int) - 1) < rd l (j : Int)
def FrFrom (s : ByteArray) (l : List Int) (i : Nat) : Prop := ∀ j : Nat, i ≤ j → j < l.length → Fr s (rd l (j : Int))
theorem AscFrom_step (l : List Int) (i : Nat) (hi : i < l.length) : AscFrom l i ↔ (0 < i → rd l ((i : Int) - 1) < rd l (i : Int)) ∧ AscFrom l (i + 1) := by
 constructor
 ·exact fun h => ⟨h i (Nat.le_refl _) hi, fun j h1 => h j (by omega)⟩
 ·rintro ⟨h0, h⟩ j h1 h2 h3
  rcases Nat.eq_or_lt_of_le h1 with e | e
  ·subst e; exact h0 h3
  ·exact h j e h2 h3
theorem implAsc_l0 (l : List Int) (hl : l.length ≤ 1048576) : ∀ (d i : Nat), 1 ≤ i → (i + d = l.length ∨ (d = 0 ∧ l.length ≤ i)) → ∃ g K, (∀ k, K ≤ k → impl_isAscending.l0 k l (i : Int) = some g) ∧ (g = true ↔ AscFrom l i)
 | 0, i, h1, hi => by
  refine ⟨true, 1, fun k hk => ?_, ⟨fun _ j h1 h2 => by omega, fun _ => rfl⟩⟩
  obtain ⟨k, rfl⟩ : ∃ m, k = m + 1 := ⟨k - 1, by omega⟩
  simp only [impl_isAscending.l0]
  rw [if_neg (by omega)]
 | d + 1, i, h1, hi => by
  obtain ⟨g, K, h, hg⟩ := implAsc_l0 l hl d (i + 1) (by omega) (by omega)
  rw [AscFrom_step l i (by omega)]
  have e9 : wrap64 ((i : Int) + 1) = ((i + 1 : Nat) : Int) := by rw [w64 (by omega) (by omega)]; rfl
  have e8 : wrap64 ((i : Int) - 1) = (i : Int) - 1 := w64 (by omega) (by omega)
  by_cases c2 : rd l ((i : Int) - 1) ≥ rd l (i : Int)
  ·refine ⟨false, 1, fun k hk => ?_, ⟨fun h => (by cases h), fun h => absurd (h.1 (by omega)) (by omega)⟩⟩
   obtain ⟨k, rfl⟩ : ∃ m, k = m + 1 := ⟨k - 1, by omega⟩
   simp only [impl_isAscending.l0]
   rw [if_pos (by omega), e8, if_pos (by omega), if_pos (by omega), if_pos (by omega), if_pos c2]
  ·refine ⟨g, K + 1, fun k hk => ?_, by rw [hg]; exact ⟨fun h => ⟨fun _ => by omega, h⟩, fun h => h.2⟩⟩
   obtain ⟨k, rfl⟩ : ∃ m, k = m + 1 := ⟨k - 1, by omega⟩
   simp only [impl_isAscending.l0]
   rw [if_pos (by omega), e8, if_pos (by omega), if_pos (by omega), if_pos (by omega), if_neg c2, e9]
   exact h k (by omega)
theorem AscFrom_one (l : List Int) : AscFrom l 1 ↔ AscFrom l 0 := ⟨fun h j _ h2 h3 => h j (by omega) h2 h3, fun h j _ h2 h3 => h j (by omega) h2 h3⟩
theorem implAsc_ev (l : List Int) (hl : l.length ≤ 1048576) : ∃ g K, (∀ k, K ≤ k → impl_isAscending.f k l = some g) ∧ (g = true ↔ AscFrom l 0) := by
 obtain ⟨D, hD⟩ : ∃ D, 1 + D = l.length ∨ (D = 0 ∧ l.length ≤ 1) := ⟨l.length - 1, by omega⟩
 obtain ⟨g, K, h, hg⟩ := implAsc_l0 l hl D 1 (by omega) hD
 exact ⟨g, K, fun k hk => h k hk, by rw [hg, AscFrom_one]⟩
theorem FrFrom_all (s : ByteArray) (l : List Int) : FrFrom s l 0 ↔ ∀ x ∈ l, Fr s x := by
 constructor
 ·intro h x hx
  obtain ⟨i, hi, e⟩ := List.getElem_of_mem hx
  have := h i (Nat.zero_le _) hi
  rwa [rd_get l i hi, e] at this
 ·intro h j _ hj
  rw [rd_get l j hj]
  exact h _ (List.getElem_mem _)
theorem areFree_ev (a b : Int) (s : ByteArray) (hs : s.size ≤ 1048576) (l : List Int) : ∃ g K, (∀ k, K ≤ k → impl_areFree.f k a b s l = some g) ∧ (g = true ↔ Gok a b s ∧ FrFrom s l 0) := by
 obtain ⟨q, K, h, hq⟩ := gridOk_ev a b s hs
 cases q with
 | false =>
  refine ⟨false, K, fun k hk => ?_, ⟨fun h => (by cases h), fun h => absurd (hq.mpr h.1) (by decide)⟩⟩
  unfold impl_areFree.f
  rw [(h k hk).2, Option.bind_some, if_neg (by decide)]
 | true =>
  refine ⟨!(l.any (hof_areFree.p s)), K, fun k hk => ?_, ?_⟩
  ·unfold impl_areFree.f hof_areFree.f
   rw [(h k hk).2, Option.bind_some, if_pos rfl, Option.bind_some]
  ·rw [FrFrom_all, Bool.not_eq_true', List.any_eq_false]
   have hp : ∀ x, ¬ (hof_areFree.p s x = true) ↔ Fr s x := fun x => by
    unfold hof_areFree.p Fr
    simp
   exact ⟨fun h => ⟨hq.mp rfl, fun x hx => (hp x).mp (h x hx)⟩, fun h x hx => (hp x).mpr (h.2 x hx)⟩
end Go.Proofs.Ytooofofeihkpcaa.Pure
/- Joint steps: the least number of moves, told in full (impl.matched alone). -/
namespace Go.Proofs.Ytooofofeihkpcaa.Pure
open Go.RowKit Go.Proofs.Ytooofofeihkpcaa.Q Go.Proofs.YtooofofeihkpcaaW.PrintWords Go.Proofs.YtooofofeihkpcaaW.PrintLast Go.Proofs.YtooofofeihkpcaaW.PrintMore
theorem placeFrom_at (c : Int) : ∀ (l : List Int) (i : Int), 0 ≤ i → (placeFrom c i l = -1 ∧ c ∉ l) ∨ ∃ j : Nat, ∃ h : j < l.length, placeFrom c i l = i + j ∧ l[j] = c
 | [], i, _ => .inl ⟨rfl, by simp⟩
 | x :: xs, i, h => by
  unfold placeFrom
  by_cases e : c = x
  ·rw [if_pos e]
   exact .inr ⟨0, by simp, by simp, by simp [e]⟩
  ·rw [if_neg e]
   rcases placeFrom_at c xs (i + 1) (by omega) with ⟨h1, h2⟩ | ⟨j, hj, h1, h2⟩
   ·exact .inl ⟨h1, by simp [e, h2]⟩
   ·exact .inr ⟨j + 1, by simpa using hj, by rw [h1]; omega, by simpa using h2⟩
theorem best_ok (best r D : Int) (_h1 : -1 ≤ best) (h2 : best ≤ D) (h3 : 0 ≤ r) (h4 : r ≤ D) : -1 ≤ (if best < 0 then r else if r < best then r else best) ∧ (if best < 0 then r else if r < best then r else best) ≤ D := by
 split
 ·omega
 ·split <;> omega
theorem asc_lt (l : List Int) (h : AscFrom l 0) : ∀ (d i : Nat), i + d + 1 < l.length → rd l (i : Int) < rd l ((i + d + 1 : Nat) : Int)
 | 0, i, hi => by
  have := h (i + 1) (by omega) (by omega) (by omega)
  rwa [show ((i + 1 : Nat) : Int) - 1 = (i : Int) by omega] at this
 | d + 1, i, hi => by
  have h1 := asc_lt l h d i (by omega)
  have := h (i + (d + 1) + 1) (by omega) (by omega) (by omega)
  rw [show ((i + (d + 1) + 1 : Nat) : Int) - 1 = ((i + d + 1 : Nat) : Int) by omega] at this
  omega
theorem asc_inj (l : List Int) (h : AscFrom l 0) (i j : Nat) (hi : i < l.length) (hj : j < l.length) (e : rd l (i : Int) = rd l (j : Int)) : i = j := by
 rcases Nat.lt_trichotomy i j with c | c | c
 ·have := asc_lt l h (j - i - 1) i (by omega)
  rw [show i + (j - i - 1) + 1 = j by omega] at this
  omega
 ·exact c
 ·have := asc_lt l h (i - j - 1) j (by omega)
  rw [show j + (i - j - 1) + 1 = i by omega] at this
  omega
def neq (x y : Int) : Int := if x = y then 0 else 1
theorem neq_comm (x y : Int) : neq x y = neq y x := by simp [neq, eq_comm]
theorem neq_ok (x y : Int) : 0 ≤ neq x y ∧ neq x y ≤ 1 ∧ (neq x y = 0 ↔ x = y) := by
 unfold neq
 split <;> rename_i h <;> simp [h]
def Okr (E : Int → Int → Prop) (p q : List Int) : List Int → List Int → Prop
 | t, [] => t.length = p.length
 | t, x :: r => t.length < p.length ∧ x ∈ q ∧ x ∉ t ∧ E (rd p (t.length : Int)) x ∧ (rd p (t.length : Int), x) ∉ t.zip p ∧ Okr E p q (t ++ [x]) r
def cs (p : List Int) : List Int → List Int → Int
 | _, [] => 0
 | t, x :: r => neq x (rd p (t.length : Int)) + cs p (t ++ [x]) r
def Best (E : Int → Int → Prop) (p q t : List Int) (v : Int) : Prop := (v = -1 ∧ ∀ r, ¬ Okr E p q t r) ∨ (0 ≤ v ∧ (∃ r, Okr E p q t r ∧ cs p t r = v) ∧ ∀ r, Okr E p q t r → v ≤ cs p t r)
def Bst (E : Int → Int → Prop) (p q t : List Int) (j : Nat) (v : Int) : Prop := (v = -1 ∧ ∀ x r, x ∈ q.take j → ¬ Okr E p q t (x :: r)) ∨ (0 ≤ v ∧ (∃ x r, x ∈ q.take j ∧ Okr E p q t (x :: r) ∧ cs p t (x :: r) = v) ∧ ∀ x r, x ∈ q.take j → Okr E p q t (x :: r) → v ≤ cs p t (x :: r))
theorem take_mem {q : List Int} {j : Nat} (hj : j < q.length) (x : Int) : x ∈ q.take (j + 1) ↔ x ∈ q.take j ∨ x = rd q (j : Int) := by
 rw [List.take_succ_eq_append_getElem hj, List.mem_append, List.mem_singleton, rd_get q j hj]
theorem bst_skip {E : Int → Int → Prop} {p q t : List Int} {j : Nat} {best : Int} (hj : j < q.length) (h : Bst E p q t j best) (hno : ∀ r, ¬ Okr E p q t (rd q (j : Int) :: r)) : Bst E p q t (j + 1) best := by
 rcases h with ⟨h1, h2⟩ | ⟨h1, ⟨x, r, h3, h4⟩, h5⟩
 ·refine .inl ⟨h1, fun x r hx ho => ?_⟩
  rcases (take_mem hj x).mp hx with hx | hx
  ·exact h2 x r hx ho
  ·subst hx; exact hno r ho
 ·refine .inr ⟨h1, ⟨x, r, (take_mem hj x).mpr (.inl h3), h4⟩, fun x r hx ho => ?_⟩
  rcases (take_mem hj x).mp hx with hx | hx
  ·exact h5 x r hx ho
  ·subst hx; exact absurd ho (hno r)
theorem bst_step {E : Int → Int → Prop} {p q t : List Int} {j : Nat} {best w : Int} (hj : j < q.length) (h : Bst E p q t j best) (hw0 : 0 ≤ w) (hw1 : ∃ r, Okr E p q t (rd q (j : Int) :: r) ∧ cs p t (rd q (j : Int) :: r) = w) (hw2 : ∀ r, Okr E p q t (rd q (j : Int) :: r) → w ≤ cs p t (rd q (j : Int) :: r)) : Bst E p q t (j + 1) (if best < 0 then w else if w < best then w else best) := by
 obtain ⟨r0, ho0, hc0⟩ := hw1
 have hin : rd q (j : Int) ∈ q.take (j + 1) := (take_mem hj _).mpr (.inr rfl)
 rcases h with ⟨h1, h2⟩ | ⟨h1, ⟨x, r, h3, h4, h6⟩, h5⟩
 ·rw [if_pos (by omega)]
  refine .inr ⟨hw0, ⟨_, r0, hin, ho0, hc0⟩, fun x r hx ho => ?_⟩
  rcases (take_mem hj x).mp hx with hx | hx
  ·exact absurd ho (h2 x r hx)
  ·subst hx; exact hw2 r ho
 ·rw [if_neg (by omega)]
  split
  ·refine .inr ⟨hw0, ⟨_, r0, hin, ho0, hc0⟩, fun x r hx ho => ?_⟩
   rcases (take_mem hj x).mp hx with hx | hx
   ·have := h5 x r hx ho; omega
   ·subst hx; exact hw2 r ho
  ·refine .inr ⟨h1, ⟨x, r, (take_mem hj x).mpr (.inl h3), h4, h6⟩, fun x r hx ho => ?_⟩
   rcases (take_mem hj x).mp hx with hx | hx
   ·exact h5 x r hx ho
   ·subst hx; have := hw2 r ho; omega
theorem zip_mem (t p : List Int) (hl : t.length ≤ p.length) (u c : Int) : (u, c) ∈ t.zip p ↔ ∃ m : Nat, m < t.length ∧ rd t (m : Int) = u ∧ rd p (m : Int) = c := by
 constructor
 ·intro h
  obtain ⟨m, hm, e⟩ := List.getElem_of_mem h
  rw [List.length_zip] at hm
  rw [List.getElem_zip] at e
  have e1 := congrArg Prod.fst e
  have e2 := congrArg Prod.snd e
  exact ⟨m, by omega, by rw [rd_get t m (by omega)]; exact e1, by rw [rd_get p m (by omega)]; exact e2⟩
 ·rintro ⟨m, hm, e1, e2⟩
  rw [rd_get t m hm] at e1
  rw [rd_get p m (by omega)] at e2
  rw [← e1, ← e2, ← List.getElem_zip (h := by rw [List.length_zip]; omega)]
  exact List.getElem_mem _
section
variable (a b : Int) (s : ByteArray) (hG : Gok a b s) (p q : List Int) (hp3 : p.length ≤ 3) (hq3 : q.length ≤ 3) (hpf : FrFrom s p 0) (hpa : AscFrom p 0)
include hp3 hq3 hpa
theorem impl_sw (t : List Int) (i : Nat) (hi : i < p.length) (ht : t.length = i) (c : Int) : ∃ (z : Int) (fl : Bool), (∀ k, p.length < k → slices_Index_int_int.f k (p.take i) c = some z) ∧ (fl = true ↔ (rd p (i : Int), c) ∈ t.zip p) ∧ ((z < 0 ∧ fl = false) ∨ (0 ≤ z ∧ z < (i : Int) ∧ (rd t z == rd p (i : Int)) = fl)) := by
 have hl : (p.take i).length = i := by rw [List.length_take]; omega
 have hz := zip_mem t p (by omega) (rd p (i : Int)) c
 have hrd : ∀ j : Nat, ∀ h : j < (p.take i).length, (p.take i)[j] = rd p (j : Int) := fun j h => by
  rw [List.getElem_take, rd_get p j (by omega)]
 rcases placeFrom_at c (p.take i) 0 (Int.le_refl _) with ⟨h1, h2⟩ | ⟨j, hj, h1, h2⟩
 ·refine ⟨placeFrom c 0 (p.take i), false, fun k hk => index_eq _ _ (by omega) k (by omega), ⟨fun h => (by cases h), fun h => ?_⟩, .inl ⟨by omega, rfl⟩⟩
  obtain ⟨m, h3, _, h5⟩ := hz.mp h
  refine absurd ?_ h2
  have := hrd m (by omega)
  rw [← h5, ← this]
  exact List.getElem_mem _
 ·have hpj : rd p (j : Int) = c := by rw [← hrd j hj]; exact h2
  refine ⟨placeFrom c 0 (p.take i), rd t (j : Int) == rd p (i : Int), fun k hk => index_eq _ _ (by omega) k (by omega), ?_, .inr ⟨by omega, by omega, by rw [h1, Int.zero_add]⟩⟩
  rw [beq_iff_eq, hz]
  constructor
  ·intro h
   exact ⟨j, by omega, h, hpj⟩
  ·rintro ⟨m, h3, h4, h5⟩
   have : m = j := asc_inj p hpa m j (by omega) (by omega) (by rw [h5, hpj])
   subst this
   exact h4
include hG hpf
theorem mt_f : ∀ (d : Nat) (t : List Int), t.length + d = p.length → ∃ (v : Int) (K : Nat), -1 ≤ v ∧ v ≤ d ∧ Best (fun x y => y = x ∨ Adj a s x y) p q t v ∧ ∀ k, K ≤ k → impl_matched.f k a b s p q t = some v
 | 0, t, ht => by
  refine ⟨0, 1, by omega, by omega, .inr ⟨by omega, ⟨[], by show t.length = p.length; omega, rfl⟩, fun r hr => ?_⟩, fun k hk => ?_⟩
  ·cases r with
   | nil => exact Int.le_refl _
   | cons x r => exact absurd hr.1 (by omega)
  ·obtain ⟨k, rfl⟩ : ∃ m, k = m + 1 := ⟨k - 1, by omega⟩
   rw [impl_matched.f, if_pos (by omega)]
 | d + 1, t, ht => by
  have hi : t.length < p.length := by omega
  have hrec := fun x => mt_f d (t ++ [x]) (by rw [List.length_append, List.length_singleton]; omega)
  have e3 : (0 : Int) ≤ (t.length : Int) := by omega
  have e4 : (t.length : Int) < (p.length : Int) := by omega
  have e5 : (t.length : Int) ≤ (p.length : Int) := by omega
  have htl : t.length < 17592186044416 := by omega
  have htl2 : t.length + 1 < 17592186044416 := by omega
  have hfr : Fr s (rd p (t.length : Int)) := hpf t.length (Nat.zero_le _) hi
  obtain ⟨ns, Kn, hn1, hn2, hn3⟩ := implAround_ev a b s hG _ hfr
  have loop : ∀ (e j : Nat) (best : Int), j + e = q.length → -1 ≤ best → best ≤ ((d + 1 : Nat) : Int) → Bst (fun x y => y = x ∨ Adj a s x y) p q t j best → ∃ (v : Int) (K : Nat), -1 ≤ v ∧ v ≤ ((d + 1 : Nat) : Int) ∧ Bst (fun x y => y = x ∨ Adj a s x y) p q t q.length v ∧ ∀ k, K ≤ k → impl_matched.l0 k p q t (t.length : Int) best q (q.length : Int) (j : Int) a b s = some v := by
   intro e
   induction e with
   | zero =>
    intro j best hj hb1 hb2 hB
    refine ⟨best, 1, hb1, hb2, (by rw [show q.length = j by omega]; exact hB), fun k hk => ?_⟩
    obtain ⟨k, rfl⟩ : ∃ m, k = m + 1 := ⟨k - 1, by omega⟩
    rw [impl_matched.l0, if_neg (by omega)]
   | succ e ih =>
    intro j best hj hb1 hb2 hB
    have hjq : (j : Int) < (q.length : Int) := by omega
    have hj0 : (0 : Int) ≤ (j : Int) := by omega
    have hjl : j < q.length := by omega
    have hjm : rd q (j : Int) ∈ q := by rw [rd_get q j hjl]; exact List.getElem_mem _
    have e9 : wrap64 ((j : Int) + 1) = ((j + 1 : Nat) : Int) := w64 (by omega) (by omega)
    obtain ⟨z, fl, hz, hfl, hzz⟩ := impl_sw p q hp3 hq3 hpa t t.length hi rfl (rd q (j : Int))
    obtain ⟨r, K1, hr1, hr2, hrB, hr⟩ := hrec (rd q (j : Int))
    have hI2 : ∀ k, p.length < k → impl_matched.j1 (k + 1) p q t (t.length : Int) best (rd q (j : Int)) q (q.length : Int) (j : Int) false a b s = impl_matched.j2 k p q t (t.length : Int) best (rd q (j : Int)) q (q.length : Int) (j : Int) fl a b s := fun k hk => by
     rw [impl_matched.j1, if_neg (by decide), if_pos e3, if_pos e5, Int.toNat_natCast, hz k hk, Option.bind_some]
     rcases hzz with ⟨z1, z2⟩ | ⟨z1, z2, z3⟩
     ·rw [if_neg (by omega), z2]
     ·rw [if_pos z1, if_pos z1, if_pos z2, if_pos e4, z3]
    have hcon := fun k hk => contains_eq t (rd q (j : Int)) (by omega) k hk
    have hcon2 := fun k hk => contains_eq ns (rd q (j : Int)) (by omega) k hk
    have outI : ∀ k, t.length + Kn + 10 < k → impl_matched.l0 (k + 1) p q t (t.length : Int) best q (q.length : Int) (j : Int) a b s = (if (decide (rd q (j : Int) ∈ t)) = true then (impl_matched.j1 k p q t (t.length : Int) best (rd q (j : Int)) q (q.length : Int) (j : Int) true a b s) else (if (rd q (j : Int)) = (rd p (t.length : Int)) then (impl_matched.j1 k p q t (t.length : Int) best (rd q (j : Int)) q (q.length : Int) (j : Int) false a b s) else (impl_matched.j1 k p q t (t.length : Int) best (rd q (j : Int)) q (q.length : Int) (j : Int) (!(decide (rd q (j : Int) ∈ ns))) a b s))) := fun k hk => by
     rw [impl_matched.l0, if_pos hjq, if_pos hj0, if_pos hjq, hcon k (by omega), Option.bind_some, if_pos e3, if_pos e4, hn1 k (by omega), Option.bind_some, hcon2 k (by omega), Option.bind_some]
    by_cases hno : ∀ r, ¬ Okr (fun x y => y = x ∨ Adj a s x y) p q t (rd q (j : Int) :: r)
    ·-- a cell that is passed over
     obtain ⟨v0, K0, hv1, hv2, hv3, h0⟩ := ih (j + 1) best (by omega) hb1 hb2 (bst_skip hjl hB hno)
     have hskip : ∀ k, K0 + 1 ≤ k → impl_matched.j1 k p q t (t.length : Int) best (rd q (j : Int)) q (q.length : Int) (j : Int) true a b s = some v0 := fun k hk => by
      obtain ⟨k, rfl⟩ : ∃ m, k = m + 1 := ⟨k - 1, by omega⟩
      rw [impl_matched.j1, if_pos rfl, e9]
      exact h0 k (by omega)
     have htry : (rd q (j : Int) ∉ t) → (rd q (j : Int) = rd p (t.length : Int) ∨ Adj a s (rd p (t.length : Int)) (rd q (j : Int))) → ∀ k, K0 + K1 + p.length + 4 ≤ k → impl_matched.j1 k p q t (t.length : Int) best (rd q (j : Int)) q (q.length : Int) (j : Int) false a b s = some v0 := fun c1 c2 k hk => by
      obtain ⟨m, rfl⟩ : ∃ m, k = m + 2 := ⟨k - 2, by omega⟩
      rw [hI2 (m + 1) (by omega)]
      cases hf : fl with
      | true =>
       rw [impl_matched.j2, if_pos rfl, e9]
       exact h0 m (by omega)
      | false =>
       have hnz : (rd p (t.length : Int), rd q (j : Int)) ∉ t.zip p := fun h => absurd (hfl.mpr h) (by rw [hf]; decide)
       have hr0 : r < 0 := by
        rcases hrB with ⟨q1, _⟩ | ⟨_, ⟨r', q2, _⟩, _⟩
        ·omega
        ·exact absurd ⟨hi, hjm, c1, c2, hnz, q2⟩ (hno r')
       rw [impl_matched.j2, if_neg (by decide)]
       unfold slices_Clone_int_int.f
       rw [if_pos htl, Option.bind_some, Option.bind_some, if_pos (by simpa using htl2), hr m (by omega), Option.bind_some, if_pos hr0, e9]
       exact h0 m (by omega)
     refine ⟨v0, K0 + K1 + Kn + p.length + t.length + 20, hv1, hv2, hv3, fun k hk => ?_⟩
     obtain ⟨k, rfl⟩ : ∃ m, k = m + 1 := ⟨k - 1, by omega⟩
     rw [outI k (by omega)]
     by_cases c1 : rd q (j : Int) ∈ t
     ·rw [if_pos (decide_eq_true c1)]
      exact hskip k (by omega)
     ·rw [if_neg (by simpa using c1)]
      by_cases c2 : rd q (j : Int) = rd p (t.length : Int)
      ·rw [if_pos c2]
       exact htry c1 (.inl c2) k (by omega)
      ·rw [if_neg c2]
       by_cases c3 : rd q (j : Int) ∈ ns
       ·rw [decide_eq_true c3]
        exact htry c1 (.inr ((hn2 _).mp c3)) k (by omega)
       ·rw [decide_eq_false c3]
        exact hskip k (by omega)
    ·-- a cell that can be gone to
     obtain ⟨r0, hr0⟩ : ∃ r, Okr (fun x y => y = x ∨ Adj a s x y) p q t (rd q (j : Int) :: r) := Classical.byContradiction fun h => hno fun r hr => h ⟨r, hr⟩
     obtain ⟨_, _, c1, c2, hnz, hr0⟩ := hr0
     have hf : fl = false := by
      cases hf : fl with
      | false => rfl
      | true => exact absurd (hfl.mp hf) hnz
     rcases hrB with ⟨_, q1⟩ | ⟨hr3, ⟨r', q2, q3⟩, q4⟩
     ·exact absurd hr0 (q1 r0)
     ·have hn := neq_ok (rd q (j : Int)) (rd p (t.length : Int))
      have hcs : ∀ r, cs p t (rd q (j : Int) :: r) = neq (rd q (j : Int)) (rd p (t.length : Int)) + cs p (t ++ [rd q (j : Int)]) r := fun _ => rfl
      have hB2 := bst_step (w := neq (rd q (j : Int)) (rd p (t.length : Int)) + r) hjl hB (by omega) ⟨r', ⟨hi, hjm, c1, c2, hnz, q2⟩, by rw [hcs, q3]⟩ (fun r2 h2 => by have := q4 r2 h2.2.2.2.2.2; rw [hcs]; omega)
      have hbk := best_ok best (neq (rd q (j : Int)) (rd p (t.length : Int)) + r) ((d + 1 : Nat) : Int) hb1 hb2 (by omega) (by omega)
      obtain ⟨v0, K0, hv1, hv2, hv3, h0⟩ := ih (j + 1) _ (by omega) hbk.1 hbk.2 hB2
      have htry : ∀ k, K0 + K1 + p.length + 4 ≤ k → impl_matched.j1 k p q t (t.length : Int) best (rd q (j : Int)) q (q.length : Int) (j : Int) false a b s = some v0 := fun k hk => by
       obtain ⟨m, rfl⟩ : ∃ m, k = m + 2 := ⟨k - 2, by omega⟩
       rw [hI2 (m + 1) (by omega), hf, impl_matched.j2, if_neg (by decide)]
       unfold slices_Clone_int_int.f
       rw [if_pos htl, Option.bind_some, Option.bind_some, if_pos (by simpa using htl2), hr m (by omega), Option.bind_some, if_neg (by omega), if_pos e3, if_pos e4]
       have hk1 := h0 m (by omega)
       by_cases c3 : rd q (j : Int) = rd p (t.length : Int)
       ·rw [if_pos c3, e9]
        rw [hn.2.2.mpr c3, Int.zero_add] at hk1
        by_cases d1 : best < 0
        ·rw [if_pos d1] at hk1 ⊢; exact hk1
        ·rw [if_neg d1] at hk1 ⊢
         by_cases d2 : r < best
         ·rw [if_pos d2] at hk1 ⊢; exact hk1
         ·rw [if_neg d2] at hk1 ⊢; exact hk1
       ·have hn1 : neq (rd q (j : Int)) (rd p (t.length : Int)) = 1 := by
         have : neq (rd q (j : Int)) (rd p (t.length : Int)) ≠ 0 := fun h => c3 (hn.2.2.mp h)
         omega
        have er : wrap64 (r + 1) = r + 1 := w64 (by omega) (by omega)
        rw [if_neg c3, e9, er]
        rw [hn1, Int.add_comm 1 r] at hk1
        by_cases d1 : best < 0
        ·rw [if_pos d1] at hk1 ⊢; exact hk1
        ·rw [if_neg d1] at hk1 ⊢
         by_cases d2 : r + 1 < best
         ·rw [if_pos d2] at hk1 ⊢; exact hk1
         ·rw [if_neg d2] at hk1 ⊢; exact hk1
      refine ⟨v0, K0 + K1 + Kn + p.length + t.length + 20, hv1, hv2, hv3, fun k hk => ?_⟩
      obtain ⟨k, rfl⟩ : ∃ m, k = m + 1 := ⟨k - 1, by omega⟩
      rw [outI k (by omega), if_neg (by simpa using c1)]
      by_cases c3 : rd q (j : Int) = rd p (t.length : Int)
      ·rw [if_pos c3]
       exact htry k (by omega)
      ·rw [if_neg c3, decide_eq_true ((hn2 _).mpr (c2.resolve_left c3))]
       exact htry k (by omega)
  obtain ⟨v, K, hv1, hv2, hv3, h⟩ := loop q.length 0 (-1) (by omega) (by omega) (by omega) (.inl ⟨rfl, fun x r hx => by simp at hx⟩)
  refine ⟨v, K + 1, hv1, hv2, ?_, fun k hk => ?_⟩
  ·rw [Bst, List.take_length] at hv3
   have hcons : ∀ r, Okr (fun x y => y = x ∨ Adj a s x y) p q t r → ∃ x r', r = x :: r' ∧ x ∈ q := fun r hr => by
    cases r with
    | nil => exact absurd (show t.length = p.length from hr) (by omega)
    | cons x r => exact ⟨x, r, rfl, hr.2.1⟩
   rcases hv3 with ⟨h1, h2⟩ | ⟨h1, ⟨x, r, _, h3, h4⟩, h5⟩
   ·refine .inl ⟨h1, fun r hr => ?_⟩
    obtain ⟨x, r', rfl, hx⟩ := hcons r hr
    exact h2 x r' hx hr
   ·refine .inr ⟨h1, ⟨_, h3, h4⟩, fun r hr => ?_⟩
    obtain ⟨x, r', rfl, hx⟩ := hcons r hr
    exact h5 x r' hx hr
  ·obtain ⟨k, rfl⟩ : ∃ m, k = m + 1 := ⟨k - 1, by omega⟩
   rw [impl_matched.f, if_neg (by omega)]
   have := h k (by omega)
   rw [show ((0 : Nat) : Int) = 0 from rfl] at this
   exact this
end
end Go.Proofs.Ytooofofeihkpcaa.Pure
/- A joint step is taken back with as many moves; to stay takes none; none moves only where all stay. -/
namespace Go.Proofs.Ytooofofeihkpcaa.Pure
open Go.RowKit Go.Proofs.Ytooofofeihkpcaa.Q Go.Proofs.YtooofofeihkpcaaW.PrintWords Go.Proofs.YtooofofeihkpcaaW.PrintLast Go.Proofs.YtooofofeihkpcaaW.PrintMore
theorem len1 : ∀ {l : List Int}, l.length = 1 → ∃ x, l = [x]
 | [x], _ => ⟨x, rfl⟩
theorem len2 : ∀ {l : List Int}, l.length = 2 → ∃ x y, l = [x, y]
 | [x, y], _ => ⟨x, y, rfl⟩
theorem len3 : ∀ {l : List Int}, l.length = 3 → ∃ x y z, l = [x, y, z]
 | [x, y, z], _ => ⟨x, y, z, rfl⟩
theorem Okr_len {E : Int → Int → Prop} {p q : List Int} : ∀ (r t : List Int), Okr E p q t r → t.length + r.length = p.length
 | [], t, h => h
 | x :: r, t, h => by
  have := Okr_len r (t ++ [x]) h.2.2.2.2.2
  rw [List.length_append, List.length_singleton] at this
  rw [List.length_cons]
  omega
section
variable {E : Int → Int → Prop} {Q : List Int} {p0 p1 p2 u v w : Int}
theorem flat1 : Okr E [p0] Q [] [u] ↔ u ∈ Q ∧ E p0 u := by
 constructor
 ·rintro ⟨_, a1, _, a2, _, _⟩
  exact ⟨a1, a2⟩
 ·rintro ⟨a1, a2⟩
  exact ⟨Nat.zero_lt_one, a1, List.not_mem_nil, a2, List.not_mem_nil, rfl⟩
theorem flat2 : Okr E [p0, p1] Q [] [u, v] ↔ (u ∈ Q ∧ v ∈ Q) ∧ v ≠ u ∧ (E p0 u ∧ E p1 v) ∧ ¬ (p1 = u ∧ v = p0) := by
 constructor
 ·rintro ⟨_, a1, _, a2, _, _, b1, b2, b3, b4, _⟩
  have b2 : v ∉ [u] := b2
  have b4 : (p1, v) ∉ [(u, p0)] := b4
  exact ⟨⟨a1, b1⟩, fun e => b2 (by simp [e]), ⟨a2, b3⟩, fun e => b4 (by simp [e.1, e.2])⟩
 ·rintro ⟨⟨a1, b1⟩, b2, ⟨a2, b3⟩, b4⟩
  have b2 : v ∉ [u] := fun h => b2 (List.mem_singleton.mp h)
  have b4 : (p1, v) ∉ [(u, p0)] := fun h => b4 (by simpa using h)
  exact ⟨Nat.zero_lt_succ _, a1, List.not_mem_nil, a2, List.not_mem_nil, (by decide : (1 : Nat) < 2), b1, b2, b3, b4, rfl⟩
theorem flat3 : Okr E [p0, p1, p2] Q [] [u, v, w] ↔ (u ∈ Q ∧ v ∈ Q ∧ w ∈ Q) ∧ (v ≠ u ∧ w ≠ u ∧ w ≠ v) ∧ (E p0 u ∧ E p1 v ∧ E p2 w) ∧ ¬ (p1 = u ∧ v = p0) ∧ ¬ (p2 = u ∧ w = p0) ∧ ¬ (p2 = v ∧ w = p1) := by
 constructor
 ·rintro ⟨_, a1, _, a2, _, _, b1, b2, b3, b4, _, c1, c2, c3, c4, _⟩
  have b2 : v ∉ [u] := b2
  have b4 : (p1, v) ∉ [(u, p0)] := b4
  have c2 : w ∉ [u, v] := c2
  have c4 : (p2, w) ∉ [(u, p0), (v, p1)] := c4
  exact ⟨⟨a1, b1, c1⟩, ⟨fun e => b2 (by simp [e]), fun e => c2 (by simp [e]), fun e => c2 (by simp [e])⟩, ⟨a2, b3, c3⟩, fun e => b4 (by simp [e.1, e.2]), fun e => c4 (by simp [e.1, e.2]), fun e => c4 (by simp [e.1, e.2])⟩
 ·rintro ⟨⟨a1, b1, c1⟩, ⟨b2, c2, c2'⟩, ⟨a2, b3, c3⟩, b4, c4, c4'⟩
  have b2 : v ∉ [u] := fun h => b2 (List.mem_singleton.mp h)
  have b4 : (p1, v) ∉ [(u, p0)] := fun h => b4 (by simpa using h)
  have c2 : w ∉ [u, v] := fun h => by
   simp only [List.mem_cons, List.not_mem_nil, or_false] at h
   exact h.elim c2 c2'
  have c4 : (p2, w) ∉ [(u, p0), (v, p1)] := fun h => by
   simp only [List.mem_cons, List.not_mem_nil, or_false, Prod.mk.injEq] at h
   exact h.elim c4 c4'
  exact ⟨Nat.zero_lt_succ _, a1, List.not_mem_nil, a2, List.not_mem_nil, (by decide : (1 : Nat) < 3), b1, b2, b3, b4, (by decide : (2 : Nat) < 3), c1, c2, c3, c4, rfl⟩
end
section
variable (E : Int → Int → Prop) (hE : ∀ x y, E x y → E y x)
include hE
theorem sym1 (p0 q0 u : Int) (h : Okr E [p0] [q0] [] [u]) : ∃ r, Okr E [q0] [p0] [] r ∧ cs [q0] [] r = cs [p0] [] [u] := by
 obtain ⟨h1, h2⟩ := flat1.mp h
 obtain rfl := List.mem_singleton.mp h1
 refine ⟨[p0], flat1.mpr ⟨by simp, hE _ _ h2⟩, ?_⟩
 show neq p0 u + 0 = neq u p0 + 0
 rw [neq_comm]
theorem sym2 (p0 p1 q0 q1 u v : Int) (hp : p0 < p1) (hq : q0 < q1) (h : Okr E [p0, p1] [q0, q1] [] [u, v]) : ∃ r, Okr E [q0, q1] [p0, p1] [] r ∧ cs [q0, q1] [] r = cs [p0, p1] [] [u, v] := by
 obtain ⟨⟨h1, h2⟩, h3, ⟨h4, h5⟩, h6⟩ := flat2.mp h
 have h4 := hE _ _ h4
 have h5 := hE _ _ h5
 simp only [List.mem_cons, List.not_mem_nil, or_false] at h1 h2
 show ∃ r, Okr E [q0, q1] [p0, p1] [] r ∧ cs [q0, q1] [] r = neq u p0 + (neq v p1 + 0)
 have mk : ∀ x y, x ∈ [p0, p1] → y ∈ [p0, p1] → y ≠ x → E q0 x → E q1 y → ¬ (q1 = x ∧ y = q0) → neq x q0 + (neq y q1 + 0) = neq u p0 + (neq v p1 + 0) → ∃ r, Okr E [q0, q1] [p0, p1] [] r ∧ cs [q0, q1] [] r = neq u p0 + (neq v p1 + 0) :=
  fun x y a1 a2 a3 a4 a5 a6 a7 => ⟨[x, y], flat2.mpr ⟨⟨a1, a2⟩, a3, ⟨a4, a5⟩, a6⟩, a7⟩
 rcases h1 with rfl | rfl <;> rcases h2 with rfl | rfl
 ·exact absurd rfl h3
 ·refine mk p0 p1 (by simp) (by simp) (by omega) h4 h5 (by omega) ?_
  rw [neq_comm p0, neq_comm p1]
 ·refine mk p1 p0 (by simp) (by simp) (by omega) h5 h4 (by omega) ?_
  rw [neq_comm p0, neq_comm p1]; omega
 ·exact absurd rfl h3
theorem sym3 (p0 p1 p2 q0 q1 q2 u v w : Int) (hp : p0 < p1) (hp' : p1 < p2) (hq : q0 < q1) (hq' : q1 < q2) (h : Okr E [p0, p1, p2] [q0, q1, q2] [] [u, v, w]) : ∃ r, Okr E [q0, q1, q2] [p0, p1, p2] [] r ∧ cs [q0, q1, q2] [] r = cs [p0, p1, p2] [] [u, v, w] := by
 obtain ⟨⟨h1, h2, h3⟩, ⟨h4, h5, h6⟩, ⟨e0, e1, e2⟩, h7, h8, h9⟩ := flat3.mp h
 have e0 := hE _ _ e0
 have e1 := hE _ _ e1
 have e2 := hE _ _ e2
 simp only [List.mem_cons, List.not_mem_nil, or_false] at h1 h2 h3
 show ∃ r, Okr E [q0, q1, q2] [p0, p1, p2] [] r ∧ cs [q0, q1, q2] [] r = neq u p0 + (neq v p1 + (neq w p2 + 0))
 have mk : ∀ x y z, x ∈ [p0, p1, p2] → y ∈ [p0, p1, p2] → z ∈ [p0, p1, p2] → (y ≠ x ∧ z ≠ x ∧ z ≠ y) → E q0 x → E q1 y → E q2 z → ¬ (q1 = x ∧ y = q0) ∧ ¬ (q2 = x ∧ z = q0) ∧ ¬ (q2 = y ∧ z = q1) → neq x q0 + (neq y q1 + (neq z q2 + 0)) = neq u p0 + (neq v p1 + (neq w p2 + 0)) → ∃ r, Okr E [q0, q1, q2] [p0, p1, p2] [] r ∧ cs [q0, q1, q2] [] r = neq u p0 + (neq v p1 + (neq w p2 + 0)) :=
  fun x y z a1 a2 a3 a4 a5 a6 a7 a8 a9 => ⟨[x, y, z], flat3.mpr ⟨⟨a1, a2, a3⟩, a4, ⟨a5, a6, a7⟩, a8⟩, a9⟩
 rcases h1 with rfl | rfl | rfl <;> rcases h2 with rfl | rfl | rfl <;> first | exact absurd rfl h4 | (rcases h3 with rfl | rfl | rfl <;> first | exact absurd rfl h5 | exact absurd rfl h6 | skip)
 ·exact mk p0 p1 p2 (by simp) (by simp) (by simp) (by omega) e0 e1 e2 (by omega) (by rw [neq_comm p0, neq_comm p1, neq_comm p2])
 ·exact mk p0 p2 p1 (by simp) (by simp) (by simp) (by omega) e0 e2 e1 (by omega) (by rw [neq_comm p0, neq_comm p1, neq_comm p2]; omega)
 ·exact mk p1 p0 p2 (by simp) (by simp) (by simp) (by omega) e1 e0 e2 (by omega) (by rw [neq_comm p0, neq_comm p1, neq_comm p2]; omega)
 ·exact mk p2 p0 p1 (by simp) (by simp) (by simp) (by omega) e2 e0 e1 (by omega) (by rw [neq_comm p0, neq_comm p1, neq_comm p2]; omega)
 ·exact mk p1 p2 p0 (by simp) (by simp) (by simp) (by omega) e1 e2 e0 (by omega) (by rw [neq_comm p0, neq_comm p1, neq_comm p2]; omega)
 ·exact mk p2 p1 p0 (by simp) (by simp) (by simp) (by omega) e2 e1 e0 (by omega) (by rw [neq_comm p0, neq_comm p1, neq_comm p2]; omega)
variable (p q : List Int) (h1 : 1 ≤ p.length) (h3 : p.length ≤ 3) (hl : p.length = q.length) (hp : AscFrom p 0) (hq : AscFrom q 0)
include h1 h3 hl hp hq
theorem Okr_sym (r : List Int) (h : Okr E p q [] r) : ∃ r', Okr E q p [] r' ∧ cs q [] r' = cs p [] r := by
 have hr := Okr_len r [] h
 rw [List.length_nil, Nat.zero_add] at hr
 rcases (by omega : p.length = 1 ∨ p.length = 2 ∨ p.length = 3) with e | e | e
 ·obtain ⟨p0, rfl⟩ := len1 e
  obtain ⟨q0, rfl⟩ := len1 (hl.symm.trans e)
  obtain ⟨u, rfl⟩ := len1 (hr.trans e)
  exact sym1 E hE p0 q0 u h
 ·obtain ⟨p0, p1, rfl⟩ := len2 e
  obtain ⟨q0, q1, rfl⟩ := len2 (hl.symm.trans e)
  obtain ⟨u, v, rfl⟩ := len2 (hr.trans e)
  exact sym2 E hE p0 p1 q0 q1 u v (asc_lt _ hp 0 0 (by simp)) (asc_lt _ hq 0 0 (by simp)) h
 ·obtain ⟨p0, p1, p2, rfl⟩ := len3 e
  obtain ⟨q0, q1, q2, rfl⟩ := len3 (hl.symm.trans e)
  obtain ⟨u, v, w, rfl⟩ := len3 (hr.trans e)
  exact sym3 E hE p0 p1 p2 q0 q1 q2 u v w (asc_lt _ hp 0 0 (by simp)) (asc_lt _ hp 0 1 (by simp)) (asc_lt _ hq 0 0 (by simp)) (asc_lt _ hq 0 1 (by simp)) h
theorem best_sym {v1 v2 : Int} (g1 : Best E p q [] v1) (g2 : Best E q p [] v2) : v1 = v2 := by
 have s1 := Okr_sym E hE p q h1 h3 hl hp hq
 have s2 := Okr_sym E hE q p (by omega) (by omega) hl.symm hq hp
 rcases g1 with ⟨a1, a2⟩ | ⟨a1, ⟨r, a2, a3⟩, a4⟩ <;> rcases g2 with ⟨b1, b2⟩ | ⟨b1, ⟨t, b2, b3⟩, b4⟩
 ·omega
 ·obtain ⟨r', c1, _⟩ := s2 t b2
  exact absurd c1 (a2 r')
 ·obtain ⟨r', c1, _⟩ := s1 r a2
  exact absurd c1 (b2 r')
 ·obtain ⟨r', c1, c2⟩ := s1 r a2
  obtain ⟨t', d1, d2⟩ := s2 t b2
  have := b4 r' c1
  have := a4 t' d1
  omega
omit hE in
theorem best_zero (g : Best E p q [] 0) : p = q := by
 rcases g with ⟨a1, _⟩ | ⟨_, ⟨r, a2, a3⟩, _⟩
 ·omega
 have hr := Okr_len r [] a2
 rw [List.length_nil, Nat.zero_add] at hr
 rcases (by omega : p.length = 1 ∨ p.length = 2 ∨ p.length = 3) with e | e | e
 ·obtain ⟨p0, rfl⟩ := len1 e
  obtain ⟨q0, rfl⟩ := len1 (hl.symm.trans e)
  obtain ⟨u, rfl⟩ := len1 (hr.trans e)
  have a3 : neq u p0 + 0 = 0 := a3
  have n0 := neq_ok u p0
  have m0 := (flat1.mp a2).1
  simp only [List.mem_cons, List.not_mem_nil, or_false] at m0
  obtain rfl : p0 = q0 := by rw [← m0]; exact (n0.2.2.mp (by omega)).symm
  rfl
 ·obtain ⟨p0, p1, rfl⟩ := len2 e
  obtain ⟨q0, q1, rfl⟩ := len2 (hl.symm.trans e)
  obtain ⟨u, v, rfl⟩ := len2 (hr.trans e)
  have a3 : neq u p0 + (neq v p1 + 0) = 0 := a3
  have n0 := neq_ok u p0
  have n1 := neq_ok v p1
  obtain ⟨⟨m0, m1⟩, _⟩ := flat2.mp a2
  simp only [List.mem_cons, List.not_mem_nil, or_false] at m0 m1
  have o1 : p0 < p1 := asc_lt _ hp 0 0 (by simp)
  have o2 : q0 < q1 := asc_lt _ hq 0 0 (by simp)
  have f0 : u = p0 := n0.2.2.mp (by omega)
  have f1 : v = p1 := n1.2.2.mp (by omega)
  obtain rfl : p0 = q0 := by omega
  obtain rfl : p1 = q1 := by omega
  rfl
 ·obtain ⟨p0, p1, p2, rfl⟩ := len3 e
  obtain ⟨q0, q1, q2, rfl⟩ := len3 (hl.symm.trans e)
  obtain ⟨u, v, w, rfl⟩ := len3 (hr.trans e)
  have a3 : neq u p0 + (neq v p1 + (neq w p2 + 0)) = 0 := a3
  have n0 := neq_ok u p0
  have n1 := neq_ok v p1
  have n2 := neq_ok w p2
  obtain ⟨⟨m0, m1, m2⟩, _⟩ := flat3.mp a2
  simp only [List.mem_cons, List.not_mem_nil, or_false] at m0 m1 m2
  have o1 : p0 < p1 := asc_lt _ hp 0 0 (by simp)
  have o2 : q0 < q1 := asc_lt _ hq 0 0 (by simp)
  have o3 : p1 < p2 := asc_lt _ hp 0 1 (by simp)
  have o4 : q1 < q2 := asc_lt _ hq 0 1 (by simp)
  have f0 : u = p0 := n0.2.2.mp (by omega)
  have f1 : v = p1 := n1.2.2.mp (by omega)
  have f2 : w = p2 := n2.2.2.mp (by omega)
  obtain rfl : p0 = q0 := by omega
  obtain rfl : p1 = q1 := by omega
  obtain rfl : p2 = q2 := by omega
  rfl
end
theorem best_self (E : Int → Int → Prop) (hr : ∀ x, E x x) (p : List Int) (h1 : 1 ≤ p.length) (h3 : p.length ≤ 3) (hp : AscFrom p 0) {v : Int} (g : Best E p p [] v) : v = 0 := by
 have hz : ∀ x, neq x x = 0 := fun x => (neq_ok x x).2.2.mpr rfl
 have ho : Okr E p p [] p ∧ cs p [] p = 0 := by
  rcases (by omega : p.length = 1 ∨ p.length = 2 ∨ p.length = 3) with e | e | e
  ·obtain ⟨p0, rfl⟩ := len1 e
   refine ⟨flat1.mpr ⟨by simp, hr _⟩, ?_⟩
   show neq p0 p0 + 0 = 0
   rw [hz]; rfl
  ·obtain ⟨p0, p1, rfl⟩ := len2 e
   have o1 : p0 < p1 := asc_lt _ hp 0 0 (by simp)
   refine ⟨flat2.mpr ⟨⟨by simp, by simp⟩, by omega, ⟨hr _, hr _⟩, by omega⟩, ?_⟩
   show neq p0 p0 + (neq p1 p1 + 0) = 0
   rw [hz, hz]; rfl
  ·obtain ⟨p0, p1, p2, rfl⟩ := len3 e
   have o1 : p0 < p1 := asc_lt _ hp 0 0 (by simp)
   have o3 : p1 < p2 := asc_lt _ hp 0 1 (by simp)
   refine ⟨flat3.mpr ⟨⟨by simp, by simp, by simp⟩, ⟨by omega, by omega, by omega⟩, ⟨hr _, hr _, hr _⟩, by omega, by omega, by omega⟩, ?_⟩
   show neq p0 p0 + (neq p1 p1 + (neq p2 p2 + 0)) = 0
   rw [hz, hz, hz]; rfl
 rcases g with ⟨_, a2⟩ | ⟨a1, _, a4⟩
 ·exact absurd ho.1 (a2 p)
 ·have := a4 p ho.1
  omega
theorem adj_sym (a b : Int) (s : ByteArray) (hG : Gok a b s) (x y : Int) (h : y = x ∨ Adj a s x y) : x = y ∨ Adj a s y x := by
 rcases h with h | ⟨h1, h2, h3⟩
 ·exact .inl h.symm
 ·refine .inr ⟨h2, h1, ?_⟩
  have := hG.1
  have := hG.2.1
  have := h1.1
  have := h2.1
  rcases (by omega : a = 1 ∨ a = 2 ∨ a = 3 ∨ a = 4 ∨ a = 5 ∨ a = 6 ∨ a = 7 ∨ a = 8) with rfl | rfl | rfl | rfl | rfl | rfl | rfl | rfl <;> omega
end Go.Proofs.Ytooofofeihkpcaa.Pure
/- A stand is one of all stands; the joint step between two stands. -/
namespace Go.Proofs.Ytooofofeihkpcaa.Pure
open Go.RowKit Go.Proofs.Ytooofofeihkpcaa.Q Go.Proofs.YtooofofeihkpcaaW.PrintWords Go.Proofs.YtooofofeihkpcaaW.PrintLast Go.Proofs.YtooofofeihkpcaaW.PrintMore
theorem asc1 (x : Int) : AscFrom [x] 0 := fun j _ h2 h3 => by simp at h2; omega
theorem asc2 (x y : Int) (h : x < y) : AscFrom [x, y] 0 := fun j _ h2 h3 => by
 obtain rfl : j = 1 := by simp at h2; omega
 simpa [rd] using h
theorem asc3 (x y z : Int) (h : x < y) (h' : y < z) : AscFrom [x, y, z] 0 := fun j _ h2 h3 => by
 rcases (by simp at h2; omega : j = 1 ∨ j = 2) with rfl | rfl
 ·simpa [rd] using h
 ·simpa [rd] using h'
theorem standsF_ok (F : List Int) (n : Nat) (h1 : 1 ≤ n) (h3 : n ≤ 3) : ∀ l ∈ standsF F n, l.length = n ∧ (∀ x ∈ l, x ∈ F) ∧ AscFrom l 0 := by
 intro l hl
 unfold standsF at hl
 split at hl
 ·rename_i e
  obtain ⟨c, hc, rfl⟩ := List.mem_map.mp hl
  exact ⟨by simp [e], fun x hx => by rw [List.mem_singleton.mp hx]; exact hc, asc1 c⟩
 ·split at hl
  ·rename_i e
   obtain ⟨x, hx, hl⟩ := List.mem_flatMap.mp hl
   unfold G2 gt at hl
   obtain ⟨y, hy, rfl⟩ := List.mem_map.mp hl
   obtain ⟨hy1, hy2⟩ := List.mem_filter.mp hy
   have hy2 := of_decide_eq_true hy2
   refine ⟨by simp [e], fun z hz => ?_, asc2 x y hy2⟩
   simp only [List.mem_cons, List.not_mem_nil, or_false] at hz
   rcases hz with rfl | rfl
   ·exact hx
   ·exact hy1
  ·obtain ⟨x, hx, hl⟩ := List.mem_flatMap.mp hl
   unfold G3 gt at hl
   obtain ⟨y, hy, hl⟩ := List.mem_flatMap.mp hl
   unfold G3a gt at hl
   obtain ⟨z, hz, rfl⟩ := List.mem_map.mp hl
   obtain ⟨hy1, hy2⟩ := List.mem_filter.mp hy
   obtain ⟨hz1, hz2⟩ := List.mem_filter.mp hz
   have hy2 := of_decide_eq_true hy2
   have hz2 := of_decide_eq_true hz2
   refine ⟨by simp; omega, fun u hu => ?_, asc3 x y z hy2 hz2⟩
   simp only [List.mem_cons, List.not_mem_nil, or_false] at hu
   rcases hu with rfl | rfl | rfl
   ·exact hx
   ·exact hy1
   ·exact hz1
theorem standsF_has (F l : List Int) (n : Nat) (h1 : 1 ≤ n) (h3 : n ≤ 3) (hl : l.length = n) (hF : ∀ x ∈ l, x ∈ F) (hA : AscFrom l 0) : l ∈ standsF F n := by
 rcases (by omega : n = 1 ∨ n = 2 ∨ n = 3) with rfl | rfl | rfl
 ·obtain ⟨x, rfl⟩ := len1 hl
  show [x] ∈ F.map (fun c => [c])
  exact List.mem_map.mpr ⟨x, hF x (by simp), rfl⟩
 ·obtain ⟨x, y, rfl⟩ := len2 hl
  have o : x < y := asc_lt _ hA 0 0 (by simp)
  show [x, y] ∈ F.flatMap (G2 F)
  exact List.mem_flatMap.mpr ⟨x, hF x (by simp), List.mem_map.mpr ⟨y, List.mem_filter.mpr ⟨hF y (by simp), decide_eq_true o⟩, rfl⟩⟩
 ·obtain ⟨x, y, z, rfl⟩ := len3 hl
  have o : x < y := asc_lt _ hA 0 0 (by simp)
  have o' : y < z := asc_lt _ hA 0 1 (by simp)
  show [x, y, z] ∈ F.flatMap (G3 F)
  exact List.mem_flatMap.mpr ⟨x, hF x (by simp), List.mem_flatMap.mpr ⟨y, List.mem_filter.mpr ⟨hF y (by simp), decide_eq_true o⟩, List.mem_map.mpr ⟨z, List.mem_filter.mpr ⟨hF z (by simp), decide_eq_true o'⟩, rfl⟩⟩⟩
theorem stands_evI (a b : Int) (s : ByteArray) (hs : s.size ≤ 1048576) (m : Nat) (c0 : (frees a b s).length ≤ 9) (m1 : 1 ≤ m) (m3 : m ≤ 3) : ∃ (K : Nat), ∀ k, K ≤ k → impl_StandsOf.f k a b s (m : Int) = some (standsF (frees a b s) m) := by
 obtain ⟨K2, h2⟩ := implFree_ev a b s hs
 have c := c0
 clear c0
 generalize frees a b s = F at *
 obtain ⟨K3, h3⟩ := st_l0 F c m [[]] (by omega) (by
  have : 9 ^ m ≤ 9 ^ 3 := Nat.pow_le_pow_right (by omega) (by omega)
  simpa using this) (fun l hl => by rw [List.mem_singleton.mp hl]; simp; omega)
 rw [iter_stands F m (by omega) (by omega)] at h3
 refine ⟨K2 + K3 + 2, fun k hk => ?_⟩
 obtain ⟨k, rfl⟩ : ∃ m, k = m + 1 := ⟨k - 1, by omega⟩
 have d1 : ¬ (F.length : Int) > 9 := by omega
 have d2 : ¬ (m : Int) < 1 := by omega
 unfold impl_StandsOf.f
 rw [h2 _ (by omega), Option.bind_some, if_neg d1, if_neg d2, decide_eq_false (by omega), impl_StandsOf.j0, if_neg (by decide)]
 exact h3 k (by omega)
def Stand (a b : Int) (s : ByteArray) (l : List Int) : Prop := 1 ≤ l.length ∧ l.length ≤ 3 ∧ Gok a b s ∧ FrFrom s l 0 ∧ AscFrom l 0
theorem isStand_ev (a b : Int) (s : ByteArray) (hs : s.size ≤ 1048576) (l : List Int) (hl : l.length ≤ 1048576) : ∃ g K, (∀ k, K ≤ k → impl_isStand.f k a b s l = some g) ∧ (g = true ↔ Stand a b s l) := by
 obtain ⟨f, K1, h1, hf⟩ := areFree_ev a b s hs l
 obtain ⟨g, K2, h2, hg⟩ := implAsc_ev l hl
 by_cases c1 : 1 ≤ l.length
 ·by_cases c2 : l.length ≤ 3
  ·cases f with
   | true =>
    refine ⟨g, K1 + K2, fun k hk => ?_, ?_⟩
    ·unfold impl_isStand.f
     rw [if_pos (by omega), if_pos (by omega), h1 k (by omega), Option.bind_some, if_pos rfl, h2 k (by omega)]; rfl
    ·rw [hg]
     have := hf.mp rfl
     exact ⟨fun h => ⟨c1, c2, this.1, this.2, h⟩, fun h => h.2.2.2.2⟩
   | false =>
    refine ⟨false, K1, fun k hk => ?_, ⟨fun h => (by cases h), fun h => (by have := hf.mpr ⟨h.2.2.1, h.2.2.2.1⟩; cases this)⟩⟩
    unfold impl_isStand.f
    rw [if_pos (by omega), if_pos (by omega), h1 k (by omega), Option.bind_some, if_neg (by decide)]
  ·refine ⟨false, 0, fun k hk => ?_, ⟨fun h => (by cases h), fun h => absurd h.2.1 c2⟩⟩
   unfold impl_isStand.f
   rw [if_pos (by omega), if_neg (by omega)]
 ·refine ⟨false, 0, fun k hk => ?_, ⟨fun h => (by cases h), fun h => absurd h.1 c1⟩⟩
  unfold impl_isStand.f
  rw [if_neg (by omega)]
theorem stand_of (a b : Int) (s : ByteArray) (hG : Gok a b s) (l : List Int) (h1 : 1 ≤ l.length) (h3 : l.length ≤ 3) (hF : ∀ x ∈ l, x ∈ frees a b s) (hA : AscFrom l 0) : Stand a b s l :=
 ⟨h1, h3, hG, fun j _ hj => by
  rw [rd_get l j hj]
  exact ((frees_mem a b s _).mp (hF _ (List.getElem_mem _))).2, hA⟩
theorem jstep_ev (a b : Int) (s : ByteArray) (hs : s.size ≤ 1048576) (p q : List Int) (hp : Stand a b s p) (hq : Stand a b s q) (hl : p.length = q.length) : ∃ (v : Int) (K : Nat), Best (fun x y => y = x ∨ Adj a s x y) p q [] v ∧ ∀ k, K ≤ k → impl_JointStep.f k a b s p q = some v := by
 have hp3 := hp.2.1
 have hq3 := hq.2.1
 obtain ⟨g1, K1, h1, e1⟩ := isStand_ev a b s hs p (by omega)
 obtain ⟨g2, K2, h2, e2⟩ := isStand_ev a b s hs q (by omega)
 obtain rfl := e1.mpr hp
 obtain rfl := e2.mpr hq
 obtain ⟨v, K3, _, _, hB, h3⟩ := mt_f a b s hp.2.2.1 p q hp3 hq3 hp.2.2.2.1 hp.2.2.2.2 p.length [] (by simp)
 refine ⟨v, K1 + K2 + K3, hB, fun k hk => ?_⟩
 unfold impl_JointStep.f
 rw [h1 k (by omega), Option.bind_some, if_pos rfl, h2 k (by omega), Option.bind_some, if_pos rfl, if_pos (by omega), h3 k (by omega), Option.bind_some]
end Go.Proofs.Ytooofofeihkpcaa.Pure
/- What is drawn from bytes: a byte, a number below another, once in so many. -/
namespace Go.Proofs.Ytooofofeihkpcaa.Pure
open Go.RowKit Go.Proofs.Ytooofofeihkpcaa.Q Go.Proofs.YtooofofeihkpcaaW.PrintWords Go.Proofs.YtooofofeihkpcaaW.PrintLast
theorem and255 (n : Int) : Go.bits .and .i64 n 255 = n % 256 := by
 have h255 : (BitVec.ofInt 64 255).toNat = 2 ^ 8 - 1 := by decide
 have key : (BitVec.ofInt 64 n &&& BitVec.ofInt 64 255).toNat = (n % ((2 ^ 64 : Nat) : Int)).toNat % 2 ^ 8 := by
  rw [BitVec.toNat_and, BitVec.toNat_ofInt, h255, Nat.and_two_pow_sub_one_eq_mod]
 show IntKind.i64.wrap ((BitVec.ofInt 64 n &&& BitVec.ofInt 64 255).toNat : Nat) = n % 256
 rw [key, IntKind.wrap_i64]
 omega
theorem and255_range (n : Int) : 0 ≤ Go.bits .and .i64 n 255 ∧ Go.bits .and .i64 n 255 ≤ 255 := by rw [and255]; omega
section
variable (s : List Int) (hs : s.length ≤ 1048576)
include hs
theorem byte_ev (i h : Int) (hi : 0 ≤ i) : ∃ v i' h', spec_l01Byte.f s i h = some (v, i', h') ∧ 0 ≤ v ∧ v ≤ 255 ∧ 0 ≤ i' := by
 unfold spec_l01Byte.f
 by_cases c : i < (s.length : Int)
 ·rw [if_pos c, if_pos hi]
  refine ⟨_, _, _, rfl, (and255_range _).1, (and255_range _).2, ?_⟩
  rw [w64 (by omega) (by omega)]; omega
 ·rw [if_neg c]
  exact ⟨_, _, _, rfl, (and255_range _).1, (and255_range _).2, hi⟩
theorem below_ev (i h n : Int) (hi : 0 ≤ i) (hn : 1 ≤ n) (hn2 : n ≤ 256) : ∃ v i' h', spec_l01Below.f s i h n = some (v, i', h') ∧ 0 ≤ v ∧ v < n ∧ 0 ≤ i' := by
 obtain ⟨v, i', h', e, h0, h1, h2⟩ := byte_ev s hs i h hi
 refine ⟨Int.tmod v n, i', h', ?_, ?_, ?_, h2⟩
 ·unfold spec_l01Below.f
  rw [if_neg (by omega), if_pos hn2, e, Option.bind_some]
  simp only
  rw [if_neg (by omega)]
 ·rw [Int.tmod_eq_emod_of_nonneg h0]; exact Int.emod_nonneg _ (by omega)
 ·rw [Int.tmod_eq_emod_of_nonneg h0]; exact Int.emod_lt_of_pos _ (by omega)
theorem below4_ev (i h n : Int) (hi : 0 ≤ i) (hn : 256 < n) : ∃ v i' h', spec_l01Below.f s i h n = some (v, i', h') ∧ 0 ≤ v ∧ v < n ∧ 0 ≤ i' := by
 obtain ⟨v1, i1, h1, e1, a1, b1, c1⟩ := byte_ev s hs i h hi
 obtain ⟨v2, i2, h2, e2, a2, b2, c2⟩ := byte_ev s hs i1 h1 c1
 obtain ⟨v3, i3, h3, e3, a3, b3, c3⟩ := byte_ev s hs i2 h2 c2
 obtain ⟨v4, i4, h4, e4, a4, b4, c4⟩ := byte_ev s hs i3 h3 c3
 have hv : wrap64 ((wrap64 ((wrap64 ((wrap64 (v1 * 16777216)) + (wrap64 (v2 * 65536)))) + (wrap64 (v3 * 256)))) + v4) = v1 * 16777216 + v2 * 65536 + v3 * 256 + v4 := by
  rw [w64 (x := v1 * 16777216) (by omega) (by omega), w64 (x := v2 * 65536) (by omega) (by omega), w64 (x := v3 * 256) (by omega) (by omega), w64 (x := v1 * 16777216 + v2 * 65536) (by omega) (by omega), w64 (x := v1 * 16777216 + v2 * 65536 + v3 * 256) (by omega) (by omega), w64 (by omega) (by omega)]
 have hv0 : 0 ≤ v1 * 16777216 + v2 * 65536 + v3 * 256 + v4 := by omega
 refine ⟨Int.tmod (v1 * 16777216 + v2 * 65536 + v3 * 256 + v4) n, i4, h4, ?_, ?_, ?_, c4⟩
 ·unfold spec_l01Below.f
  rw [if_neg (by omega), if_neg (by omega), e1]
  simp only [Option.bind_some]
  rw [e2]
  simp only [Option.bind_some]
  rw [e3]
  simp only [Option.bind_some]
  rw [e4]
  simp only [Option.bind_some]
  rw [if_neg (by omega), hv]
 ·rw [Int.tmod_eq_emod_of_nonneg hv0]; exact Int.emod_nonneg _ (by omega)
 ·rw [Int.tmod_eq_emod_of_nonneg hv0]; exact Int.emod_lt_of_pos _ (by omega)
theorem new_l0 : ∀ (d i : Nat) (h : Int), i + d = min s.length 4000 → ∃ h' K, ∀ k, K ≤ k → spec_l01New.l0 k s h (i : Int) = some (s, 0, h')
 | 0, i, h, hi => by
  refine ⟨h, 1, fun k hk => ?_⟩
  obtain ⟨k, rfl⟩ : ∃ m, k = m + 1 := ⟨k - 1, by omega⟩
  simp only [spec_l01New.l0]
  by_cases c : (i : Int) < (s.length : Int)
  ·rw [if_pos c, if_neg (by omega)]
  ·rw [if_neg c]
 | d + 1, i, h, hi => by
  obtain ⟨h', K, hh⟩ := new_l0 d (i + 1) (Go.bits .and .i64 (wrap64 ((wrap64 ((wrap64 (h * 131)) + (wrap64 (rd s (i : Int))))) + 7)) 1073741823) (by omega)
  refine ⟨h', K + 1, fun k hk => ?_⟩
  obtain ⟨k, rfl⟩ : ∃ m, k = m + 1 := ⟨k - 1, by omega⟩
  simp only [spec_l01New.l0]
  rw [if_pos (by omega), if_pos (by omega), if_pos (by omega), w64 (x := (i : Int) + 1) (by omega) (by omega), show ((i : Int) + 1) = ((i + 1 : Nat) : Int) by omega]
  exact hh k (by omega)
theorem new_ev : ∃ h K, ∀ k, K ≤ k → spec_l01New.f k s = some (s, 0, h) := by
 obtain ⟨h, K, hh⟩ := new_l0 s hs (min s.length 4000) 0 (wrap64 (94701 + (s.length : Int))) (by omega)
 exact ⟨h, K, fun k hk => hh k hk⟩
end
end Go.Proofs.Ytooofofeihkpcaa.Pure
/- A map of a drawn size. -/
namespace Go.Proofs.Ytooofofeihkpcaa.Pure
open Go.RowKit Go.Proofs.Ytooofofeihkpcaa.Q Go.Proofs.YtooofofeihkpcaaW.PrintWords Go.Proofs.YtooofofeihkpcaaW.PrintLast
theorem strOfNums_bt (l : List Int) (h : ∀ x ∈ l, 0 ≤ x ∧ x < 256) (i : Nat) (hi : i < l.length) : bt (strOfNums l) (i : Int) = rd l (i : Int) := by
 have hx := h l[i] (List.getElem_mem hi)
 unfold bt
 rw [dif_pos (by rw [strOfNums_size]; simpa using hi), rd_get l i hi]
 have e : (strOfNums l)[(i : Int).toNat]'(by rw [strOfNums_size]; simpa using hi) = UInt8.ofNat (l[i].toNat) := by
  show ((l.map fun n => UInt8.ofNat n.toNat).toArray)[(i : Int).toNat]'(by simpa using hi) = _
  simp
 rw [e, UInt8.toNat_ofNat']
 omega
theorem Kind_byte {x : Int} (h : Kind x) : 0 ≤ x ∧ x < 256 := by
 unfold Kind at h
 omega
section
variable (s : List Int) (hs : s.length ≤ 1048576)
include hs
theorem sized_j1 (w hh : Int) (l : List Int) (n : Nat) (hn : n ≤ 64) (hl : l.length = n) (v : Int) (b : Bool) (i h : Int) (hi : 0 ≤ i) : ∃ x i2 h2, Kind x ∧ 0 ≤ i2 ∧ ∀ k, spec_l02Sized.j1 (k + 1) w hh l (n : Int) v b s i h = spec_l02Sized.l0 k w hh (l ++ [x]) ((n + 1 : Nat) : Int) s i2 h2 := by
 have hll : l.length < 140737488355328 := by omega
 cases b with
 | true =>
  obtain ⟨u, i1, h1, e1, a1, b1, c1⟩ := below_ev s hs i h 3 hi (by omega) (by omega)
  refine ⟨65 + u, i1, h1, .inr (.inr (.inr ⟨by omega, by omega⟩)), c1, fun k => ?_⟩
  rw [spec_l02Sized.j1, if_pos rfl, e1, Option.bind_some]
  simp only
  rw [if_pos hll, show wrap64 ((n : Int) + 1) = ((n + 1 : Nat) : Int) from w64 (by omega) (by omega), show wrap64 (65 + u) = 65 + u from w64 (by omega) (by omega), Int.emod_eq_of_lt (by omega) (by omega)]
 | false =>
  by_cases c3 : v = 3
  ·obtain ⟨u, i1, h1, e1, a1, b1, c1⟩ := below_ev s hs i h 6 hi (by omega) (by omega)
   refine ⟨97 + u, i1, h1, .inr (.inr (.inl ⟨by omega, by omega⟩)), c1, fun k => ?_⟩
   rw [spec_l02Sized.j1, if_neg (by decide), if_pos c3, e1, Option.bind_some]
   simp only
   rw [if_pos hll, show wrap64 ((n : Int) + 1) = ((n + 1 : Nat) : Int) from w64 (by omega) (by omega), show wrap64 (97 + u) = 97 + u from w64 (by omega) (by omega), Int.emod_eq_of_lt (by omega) (by omega)]
  ·refine ⟨46, i, h, .inl rfl, hi, fun k => ?_⟩
   rw [spec_l02Sized.j1, if_neg (by decide), if_neg c3, if_pos hll, show wrap64 ((n : Int) + 1) = ((n + 1 : Nat) : Int) from w64 (by omega) (by omega)]
theorem sized_l0 (w hh : Int) (m : Nat) (hm : m ≤ 64) (hwm : wrap64 (w * hh) = (m : Int)) : ∀ (d n : Nat) (l : List Int) (i h : Int), n + d = m → l.length = n → (∀ x ∈ l, Kind x) → 0 ≤ i → ∃ g i' h' K, (∀ k, K ≤ k → spec_l02Sized.l0 k w hh l (n : Int) s i h = some (w, hh, strOfNums g, i', h')) ∧ g.length = m ∧ (∀ x ∈ g, Kind x) ∧ 0 ≤ i'
 | 0, n, l, i, h, hn, hl, hk, hi => by
  refine ⟨l, i, h, 1, fun k hk => ?_, by omega, hk, hi⟩
  obtain ⟨k, rfl⟩ : ∃ m, k = m + 1 := ⟨k - 1, by omega⟩
  rw [spec_l02Sized.l0, hwm, if_neg (by omega)]
 | d + 1, n, l, i, h, hn, hl, hk, hi => by
  obtain ⟨v, i1, h1, e1, a1, b1, c1⟩ := below_ev s hs i h 8 hi (by omega) (by omega)
  have hll : l.length < 140737488355328 := by omega
  have hnext : ∃ x i2 h2, Kind x ∧ 0 ≤ i2 ∧ ∀ k, spec_l02Sized.l0 (k + 2) w hh l (n : Int) s i h = spec_l02Sized.l0 k w hh (l ++ [x]) ((n + 1 : Nat) : Int) s i2 h2 ∨ spec_l02Sized.l0 (k + 2) w hh l (n : Int) s i h = spec_l02Sized.l0 (k + 1) w hh (l ++ [x]) ((n + 1 : Nat) : Int) s i2 h2 := by
   by_cases c0 : v = 0
   ·refine ⟨35, i1, h1, .inr (.inl rfl), c1, fun k => .inr ?_⟩
    rw [spec_l02Sized.l0, hwm, if_pos (by omega), e1, Option.bind_some]
    simp only
    rw [if_pos c0, if_pos hll, show wrap64 ((n : Int) + 1) = ((n + 1 : Nat) : Int) from w64 (by omega) (by omega)]
   ·by_cases c2 : v = 1
    ·obtain ⟨x, i2, h2, q1, q2, q3⟩ := sized_j1 s hs w hh l n (by omega) hl v (v == 1) i1 h1 c1
     refine ⟨x, i2, h2, q1, q2, fun k => .inl ?_⟩
     rw [spec_l02Sized.l0, hwm, if_pos (by omega), e1, Option.bind_some]
     simp only
     rw [if_neg c0, if_pos c2]
     exact q3 k
    ·obtain ⟨x, i2, h2, q1, q2, q3⟩ := sized_j1 s hs w hh l n (by omega) hl v (v == 2) i1 h1 c1
     refine ⟨x, i2, h2, q1, q2, fun k => .inl ?_⟩
     rw [spec_l02Sized.l0, hwm, if_pos (by omega), e1, Option.bind_some]
     simp only
     rw [if_neg c0, if_neg c2]
     exact q3 k
  obtain ⟨x, i2, h2, q1, q2, q3⟩ := hnext
  obtain ⟨g, i', h', K, r1, r2, r3, r4⟩ := sized_l0 w hh m hm hwm d (n + 1) (l ++ [x]) i2 h2 (by omega) (by simp [hl]) (fun y hy => by
   rcases List.mem_append.mp hy with e | e
   ·exact hk y e
   ·rw [List.mem_singleton.mp e]; exact q1) q2
  refine ⟨g, i', h', K + 2, fun k hk => ?_, r2, r3, r4⟩
  obtain ⟨k, rfl⟩ : ∃ m, k = m + 2 := ⟨k - 2, by omega⟩
  rcases q3 k with e | e
  ·rw [e]; exact r1 k (by omega)
  ·rw [e]; exact r1 (k + 1) (by omega)
end
end Go.Proofs.Ytooofofeihkpcaa.Pure
/- The reference's free cells. -/
namespace Go.Proofs.Ytooofofeihkpcaa.Pure
open Go.RowKit Go.Proofs.Ytooofofeihkpcaa.Q Go.Proofs.YtooofofeihkpcaaW.PrintWords Go.Proofs.YtooofofeihkpcaaW.PrintLast
theorem specFree_l0 (a b : Int) (s : ByteArray) (hs : s.size ≤ 1048576) : ∀ (d i : Nat) (acc : List Int), i + d = min s.size 64 → acc.length ≤ i → ∃ v K, (∀ k, K ≤ k → spec_FreeCells.l0 k acc (i : Int) a b s = some v) ∧ (Gok a b s → v = acc ++ fr s d i) ∧ (¬ Gok a b s → v = acc)
 | 0, i, acc, hi, ha => by
  refine ⟨acc, 2, fun k hk => ?_, by simp [fr], fun _ => rfl⟩
  obtain ⟨k, rfl⟩ : ∃ m, k = m + 2 := ⟨k - 2, by omega⟩
  simp only [spec_FreeCells.l0]
  by_cases c : (i : Int) < (s.size : Int)
  ·rw [if_pos c, decide_eq_false (by omega)]
   simp only [spec_FreeCells.j1, Bool.false_eq_true, reduceIte]
  ·rw [if_neg c]
   simp only [spec_FreeCells.j1, Bool.false_eq_true, reduceIte]
 | d + 1, i, acc, hi, ha => by
  obtain ⟨g, K1, h1, hg⟩ := specFreeAt_ev a b s hs (i : Int)
  have e1 : (i : Int) < (s.size : Int) := by omega
  have e2 : decide ((i : Int) < 64) = true := decide_eq_true (by omega)
  have e9 : wrap64 ((i : Int) + 1) = ((i + 1 : Nat) : Int) := by rw [w64 (by omega) (by omega)]; rfl
  cases g with
  | true =>
   obtain ⟨v, K, h, hv, hw⟩ := specFree_l0 a b s hs d (i + 1) (acc ++ [(i : Int)]) (by omega) (by simp; omega)
   refine ⟨v, K + K1 + 2, fun k hk => ?_, fun hG => ?_, fun hG => absurd (hg.mp rfl).1 hG⟩
   ·obtain ⟨k, rfl⟩ : ∃ m, k = m + 2 := ⟨k - 2, by omega⟩
    simp only [spec_FreeCells.l0]
    rw [if_pos e1, e2]
    simp only [spec_FreeCells.j1, reduceIte]
    rw [h1 k (by omega), Option.bind_some, if_pos rfl, if_pos (by omega), e9]
    exact h k (by omega)
   ·rw [hv hG, fr, if_pos (hg.mp rfl).2]; simp
  | false =>
   obtain ⟨v, K, h, hv, hw⟩ := specFree_l0 a b s hs d (i + 1) acc (by omega) (by omega)
   refine ⟨v, K + K1 + 2, fun k hk => ?_, fun hG => ?_, hw⟩
   ·obtain ⟨k, rfl⟩ : ∃ m, k = m + 2 := ⟨k - 2, by omega⟩
    simp only [spec_FreeCells.l0]
    rw [if_pos e1, e2]
    simp only [spec_FreeCells.j1, reduceIte]
    rw [h1 k (by omega), Option.bind_some, if_neg (by decide), e9]
    exact h k (by omega)
   ·rw [hv hG, fr, if_neg (fun h => absurd (hg.mpr ⟨hG, h⟩) (by decide))]
theorem specFree_ev (a b : Int) (s : ByteArray) (hs : s.size ≤ 1048576) : ∃ K, ∀ k, K ≤ k → spec_FreeCells.f k a b s = some (frees a b s) := by
 obtain ⟨v, K, h, hv, hw⟩ := specFree_l0 a b s hs (min s.size 64) 0 [] (by omega) (by simp)
 refine ⟨K, fun k hk => ?_⟩
 unfold spec_FreeCells.f frees
 have := h k hk
 by_cases hG : Gok a b s
 ·rw [if_pos hG]
  have hsz := Gok_size hG
  rw [hv hG, show min s.size 64 = s.size by omega] at this
  simpa using this
 ·rw [if_neg hG]
  rw [hw hG] at this
  exact this
end Go.Proofs.Ytooofofeihkpcaa.Pure
/- Whether a list holds a number: what the reference answers. -/
namespace Go.Proofs.Ytooofofeihkpcaa.Pure
open Go.RowKit Go.Proofs.Ytooofofeihkpcaa.Q Go.Proofs.YtooofofeihkpcaaW.PrintWords Go.Proofs.YtooofofeihkpcaaW.PrintLast
theorem has_l0 (l : List Int) (c : Int) (hn : l.length ≤ 9223372036854775807) : ∀ (d i k : Nat), i + d = l.length → d < k → spec_l03Has.l0 k l c (i : Int) = some (decide (c ∈ l.drop i))
 | 0, i, k, hi, hk => by
  obtain ⟨k, rfl⟩ : ∃ m, k = m + 1 := ⟨k - 1, by omega⟩
  simp only [spec_l03Has.l0]
  rw [if_neg (by omega), List.drop_of_length_le (by omega)]
  simp
 | d + 1, i, k, hi, hk => by
  obtain ⟨k, rfl⟩ : ∃ m, k = m + 1 := ⟨k - 1, by omega⟩
  simp only [spec_l03Has.l0]
  rw [if_pos (by omega), if_pos (by omega), rd_get l i (by omega), drop_cons l i (by omega)]
  by_cases e : l[i]'(by omega) = c
  ·rw [if_pos e, decide_eq_true (by simp [e])]
  ·rw [if_neg e, w64 (by omega) (by omega), show ((i : Int) + 1) = ((i + 1 : Nat) : Int) by omega, has_l0 l c hn d (i + 1) k (by omega) (by omega)]
   congr 1
   exact decide_eq_decide.mpr (by simp only [List.mem_cons, Ne.symm e, false_or])
theorem has_eq (l : List Int) (c : Int) (hn : l.length ≤ 9223372036854775807) (k : Nat) (hk : l.length < k) : spec_l03Has.f k l c = some (decide (c ∈ l)) := by
 have := has_l0 l c hn l.length 0 k (by omega) hk
 simpa [spec_l03Has.f] using this
end Go.Proofs.Ytooofofeihkpcaa.Pure
/- A small map is drawn, and some of its free cells: a stand. -/
namespace Go.Proofs.Ytooofofeihkpcaa.Pure
open Go.RowKit Go.Proofs.Ytooofofeihkpcaa.Q Go.Proofs.YtooofofeihkpcaaW.PrintWords Go.Proofs.YtooofofeihkpcaaW.PrintLast Go.Proofs.YtooofofeihkpcaaW.PrintMore
theorem bytesOf_rd (s : ByteArray) (j : Nat) (hj : j < s.size) : rd (bytesOf s) (j : Int) = bt s (j : Int) := by
 have h1 : j < (bytesOf s).length := by rw [bytesOf_length]; exact hj
 unfold bt
 rw [rd_get (bytesOf s) j h1, dif_pos (by simpa using hj)]
 simp [bytesOf]
 rfl
theorem asc_pw (l : List Int) (h : l.Pairwise (· < ·)) : AscFrom l 0 := fun j _ h2 h3 => by
 rw [show (j : Int) - 1 = ((j - 1 : Nat) : Int) by omega, rd_get l (j - 1) (by omega), rd_get l j h2]
 exact List.pairwise_iff_getElem.mp h (j - 1) j (by omega) h2 (by omega)
theorem len_le : ∀ (l m : List Int), l.Pairwise (· < ·) → (∀ x ∈ l, x ∈ m) → l.length ≤ m.length
 | [], m, _, _ => Nat.zero_le _
 | x :: l, m, h, hs => by
  have hx : x ∈ m := hs x (by simp)
  have h0 := List.pairwise_cons.mp h
  have h1 := len_le l (m.erase x) h0.2 (fun y hy => (List.mem_erase_of_ne (by have := h0.1 y hy; omega)).mpr (hs y (by simp [hy])))
  rw [List.length_erase_of_mem hx] at h1
  have : 0 < m.length := List.length_pos_of_mem hx
  rw [List.length_cons]
  omega
section
variable (s : List Int) (hs : s.length ≤ 1048576)
theorem somes_l1 (fr pk : List Int) (hf : fr.length ≤ 64) (hp : pk.length ≤ 64) (i h : Int) : ∀ (d j : Nat) (acc : List Int), j + d = fr.length → acc.length ≤ j → ∃ K, ∀ k, K ≤ k → spec_l04Some.l1 k fr pk acc (j : Int) s i h = some (acc ++ (fr.drop j).filter (fun c => decide (c ∈ pk)), i, h)
 | 0, j, acc, hj, ha => by
  refine ⟨1, fun k hk => ?_⟩
  obtain ⟨k, rfl⟩ : ∃ m, k = m + 1 := ⟨k - 1, by omega⟩
  rw [spec_l04Some.l1, if_neg (by omega), List.drop_of_length_le (by omega)]
  simp
 | d + 1, j, acc, hj, ha => by
  have e9 : wrap64 ((j : Int) + 1) = ((j + 1 : Nat) : Int) := w64 (by omega) (by omega)
  have hal : acc.length < 17592186044416 := by omega
  have hjl : j < fr.length := by omega
  have hhas := fun k hk => has_eq pk (rd fr (j : Int)) (by omega) k hk
  rw [drop_cons fr j hjl]
  rw [rd_get fr j hjl] at hhas
  by_cases c : fr[j] ∈ pk
  ·obtain ⟨K, r1⟩ := somes_l1 fr pk hf hp i h d (j + 1) (acc ++ [fr[j]]) (by omega) (by simp; omega)
   refine ⟨K + pk.length + 2, fun k hk => ?_⟩
   obtain ⟨k, rfl⟩ : ∃ m, k = m + 1 := ⟨k - 1, by omega⟩
   rw [spec_l04Some.l1, if_pos (by omega), if_pos (by omega), rd_get fr j hjl, hhas k (by omega), Option.bind_some, decide_eq_true c, if_pos rfl, if_pos hal, e9, r1 k (by omega), List.filter_cons, if_pos (by simpa using c)]
   simp
  ·obtain ⟨K, r1⟩ := somes_l1 fr pk hf hp i h d (j + 1) acc (by omega) (by omega)
   refine ⟨K + pk.length + 2, fun k hk => ?_⟩
   obtain ⟨k, rfl⟩ : ∃ m, k = m + 1 := ⟨k - 1, by omega⟩
   rw [spec_l04Some.l1, if_pos (by omega), if_pos (by omega), rd_get fr j hjl, hhas k (by omega), Option.bind_some, decide_eq_false c, if_neg (by decide), e9, r1 k (by omega), List.filter_cons, if_neg (by simpa using c)]
include hs
theorem somes_l0 (n : Int) (hn : 0 ≤ n ∧ n ≤ 6) (fr : List Int) (hf : fr.length ≤ 64) (hne : 1 ≤ fr.length) : ∀ (d m : Nat) (pk : List Int) (i h : Int), (m : Int) + d = n → pk.length = m → (∀ x ∈ pk, x ∈ fr) → 0 ≤ i → ∃ (pk' : List Int) (i' h' : Int) (K : Nat), (∀ k, K ≤ k → spec_l04Some.l0 k n fr pk (m : Int) s i h = some (fr.filter (fun c => decide (c ∈ pk')), i', h')) ∧ (pk'.length : Int) = n ∧ (∀ x ∈ pk', x ∈ fr) ∧ 0 ≤ i'
 | 0, m, pk, i, h, hm, hp, hx, hi => by
  obtain ⟨K, r1⟩ := somes_l1 s fr pk hf (by omega) i h fr.length 0 [] (by omega) (by simp)
  refine ⟨pk, i, h, K + 2, fun k hk => ?_, by omega, hx, hi⟩
  obtain ⟨k, rfl⟩ : ∃ m, k = m + 2 := ⟨k - 2, by omega⟩
  have := r1 k (by omega)
  rw [List.drop_zero, List.nil_append] at this
  rw [spec_l04Some.l0, if_neg (by omega), spec_l04Some.j1]
  exact this
 | d + 1, m, pk, i, h, hm, hp, hx, hi => by
  obtain ⟨u, i1, h1, e1, a1, b1, c1⟩ := below_ev s hs i h (fr.length : Int) hi (by omega) (by omega)
  obtain ⟨U, rfl⟩ := Int.eq_ofNat_of_zero_le a1
  have hU : rd fr (U : Int) ∈ fr := by rw [rd_get fr U (by omega)]; exact List.getElem_mem _
  obtain ⟨pk', i', h', K2, q1, q2, q3, q4⟩ := somes_l0 n hn fr hf hne d (m + 1) (pk ++ [rd fr (U : Int)]) i1 h1 (by omega) (by simp [hp]) (fun x hm => by
   rcases List.mem_append.mp hm with e | e
   ·exact hx x e
   ·rw [List.mem_singleton.mp e]; exact hU) c1
  refine ⟨pk', i', h', K2 + 1, fun k hk => ?_, q2, q3, q4⟩
  obtain ⟨k, rfl⟩ : ∃ m, k = m + 1 := ⟨k - 1, by omega⟩
  rw [spec_l04Some.l0, if_pos (by omega), if_pos (by omega), e1, Option.bind_some]
  simp only
  rw [if_pos a1, if_pos b1, if_pos (by omega), show wrap64 ((m : Int) + 1) = ((m + 1 : Nat) : Int) from w64 (by omega) (by omega)]
  exact q1 k (by omega)
theorem somes_ev (a b : Int) (g : ByteArray) (hg : g.size ≤ 64) (hne : 1 ≤ (frees a b g).length) (n i h : Int) (hn : 1 ≤ n ∧ n ≤ 3) (hi : 0 ≤ i) : ∃ (v : List Int) (i' h' : Int) (K : Nat), (∀ k, K ≤ k → spec_l04Some.f k s i h a b g n = some (v, i', h')) ∧ 1 ≤ v.length ∧ v.length ≤ 3 ∧ (∀ x ∈ v, x ∈ frees a b g) ∧ AscFrom v 0 ∧ 0 ≤ i' := by
 obtain ⟨K1, h1⟩ := specFree_ev a b g (by omega)
 obtain ⟨m, rfl⟩ := Int.eq_ofNat_of_zero_le (show 0 ≤ n by omega)
 obtain ⟨pk, i', h', K2, q1, q2, q3, q4⟩ := somes_l0 s hs (m : Int) ⟨by omega, by omega⟩ (frees a b g) (frees_len a b g) hne m 0 [] i h (by omega) rfl (fun x hx => by cases hx) hi
 have hA := frees_asc a b g
 have hP : ((frees a b g).filter (fun c => decide (c ∈ pk))).Pairwise (· < ·) := hA.filter _
 refine ⟨(frees a b g).filter (fun c => decide (c ∈ pk)), i', h', K1 + K2, fun k hk => ?_, ?_, ?_, fun x hx => (List.mem_filter.mp hx).1, asc_pw _ hP, q4⟩
 ·unfold spec_l04Some.f
  rw [h1 k (by omega), Option.bind_some]
  exact q1 k (by omega)
 ·cases pk with
  | nil => simp at q2; omega
  | cons x pk => exact List.length_pos_of_mem (List.mem_filter.mpr ⟨q3 x (by simp), by simp⟩)
 ·have := len_le _ pk hP (fun x hx => by simpa using (List.mem_filter.mp hx).2)
  omega
theorem dots_ev (i h : Int) (hi : 0 ≤ i) (g : ByteArray) (hk : ∀ j : Nat, j < g.size → Kind (bt g (j : Int))) (h1 : 1 ≤ g.size) (h2 : g.size ≤ 64) : ∃ g' i' h', l16_dots.f s i h g = some (g', i', h') ∧ g'.size = g.size ∧ (∀ j : Nat, j < g'.size → Kind (bt g' (j : Int))) ∧ (∃ c : Nat, c < g'.size ∧ bt g' (c : Int) = 46) ∧ 0 ≤ i' := by
 obtain ⟨v, i1, h1', e1, a1, b1, c1⟩ := below_ev s hs i h (g.size : Int) hi (by omega) (by omega)
 obtain ⟨V, rfl⟩ := Int.eq_ofNat_of_zero_le a1
 have hl : ((bytesOf g).set V 46).length = g.size := by rw [List.length_set, bytesOf_length]
 have hr : ∀ j : Nat, j < g.size → rd ((bytesOf g).set V 46) (j : Int) = if V = j then 46 else bt g (j : Int) := fun j hj => by
  rw [rd_get _ j (by omega), List.getElem_set]
  split
  ·rfl
  ·rw [← rd_get (bytesOf g) j (by rw [bytesOf_length]; exact hj), bytesOf_rd g j hj]
 have hkd : ∀ j : Nat, j < g.size → Kind (rd ((bytesOf g).set V 46) (j : Int)) := fun j hj => by
  rw [hr j hj]
  split
  ·exact .inl rfl
  ·exact hk j hj
 have hb : ∀ x ∈ (bytesOf g).set V 46, 0 ≤ x ∧ x < 256 := fun x hx => by
  obtain ⟨j, hj, rfl⟩ := List.getElem_of_mem hx
  rw [← rd_get _ j hj]
  exact Kind_byte (hkd j (by omega))
 have hsz : (strOfNums ((bytesOf g).set V 46)).size = g.size := by rw [strOfNums_size]; exact hl
 refine ⟨strOfNums ((bytesOf g).set V 46), i1, h1', ?_, hsz, fun j hj => ?_, ⟨V, by omega, ?_⟩, c1⟩
 ·unfold l16_dots.f
  rw [if_pos (by omega), e1, Option.bind_some]
  simp only
  rw [if_pos a1, if_pos b1]
  rfl
 ·rw [strOfNums_bt _ hb j (by omega)]
  exact hkd j (by omega)
 ·rw [strOfNums_bt _ hb V (by omega), hr V (by omega), if_pos rfl]
theorem drawSmall_ev : ∃ (a b : Int) (g : ByteArray) (st w : List Int) (K : Nat), (∀ k, K ≤ k → spec_DrawSmall.f k s = some (a, b, g, st, w)) ∧ Gok a b g ∧ g.size ≤ 9 ∧ 1 ≤ st.length ∧ st.length ≤ 3 ∧ (∀ x ∈ st, x ∈ frees a b g) ∧ AscFrom st 0 := by
 obtain ⟨h0, K0, e0⟩ := new_ev s hs
 obtain ⟨u, i1, h1, e1, a1, b1, c1⟩ := below_ev s hs 0 h0 2 (by omega) (by omega) (by omega)
 obtain ⟨v, i2, h2, e2, a2, b2, c2⟩ := below_ev s hs i1 h1 3 c1 (by omega) (by omega)
 have w1 : wrap64 (2 + u) = 2 + u := w64 (by omega) (by omega)
 have w2 : wrap64 (1 + v) = 1 + v := w64 (by omega) (by omega)
 obtain ⟨m, hm, hm1, hm9⟩ : ∃ m : Nat, (2 + u) * (1 + v) = (m : Int) ∧ 1 ≤ m ∧ m ≤ 9 := by
  rcases (by omega : u = 0 ∨ u = 1) with rfl | rfl <;> rcases (by omega : v = 0 ∨ v = 1 ∨ v = 2) with rfl | rfl | rfl
  ·exact ⟨2, by decide, by omega, by omega⟩
  ·exact ⟨4, by decide, by omega, by omega⟩
  ·exact ⟨6, by decide, by omega, by omega⟩
  ·exact ⟨3, by decide, by omega, by omega⟩
  ·exact ⟨6, by decide, by omega, by omega⟩
  ·exact ⟨9, by decide, by omega, by omega⟩
 obtain ⟨g, i3, h3, K3, q1, q2, q3, q4⟩ := sized_l0 s hs (2 + u) (1 + v) m (by omega) (by rw [hm, w64 (by omega) (by omega)]) m 0 [] i2 h2 (by omega) rfl (fun x hx => by cases hx) c2
 have z1 : (strOfNums g).size = m := by rw [strOfNums_size]; exact q2
 have z2 : ∀ j : Nat, j < (strOfNums g).size → Kind (bt (strOfNums g) (j : Int)) := fun j hj => by
  rw [strOfNums_bt g (fun x hx => Kind_byte (q3 x hx)) j (by omega), rd_get g j (by omega)]
  exact q3 _ (List.getElem_mem _)
 obtain ⟨g2, i4, h4, d1, d2, d3, ⟨c, d4, d5⟩, d6⟩ := dots_ev s hs i3 h3 q4 (strOfNums g) z2 (by omega) (by omega)
 have hG : Gok (2 + u) (1 + v) g2 := ⟨by omega, by omega, by omega, by omega, by rw [d2, z1, hm], d3⟩
 have hne : 1 ≤ (frees (2 + u) (1 + v) g2).length := List.length_pos_of_mem ((frees_mem (2 + u) (1 + v) g2 (c : Int)).mpr ⟨hG, by omega, by omega, by rw [d5]; decide⟩)
 obtain ⟨n1, i5, h5, e5, a5, b5, c5⟩ := below_ev s hs i4 h4 3 d6 (by omega) (by omega)
 have w5 : wrap64 (1 + n1) = 1 + n1 := w64 (by omega) (by omega)
 obtain ⟨st, i6, h6, K6, r1, r2, r3, r4, r5, r6⟩ := somes_ev s hs (2 + u) (1 + v) g2 (by omega) hne (1 + n1) i5 h5 (by omega) c5
 obtain ⟨n2, i7, h7, e7, a7, b7, c7⟩ := below_ev s hs i6 h6 (st.length : Int) r6 (by omega) (by omega)
 have w7 : wrap64 (1 + n2) = 1 + n2 := w64 (by omega) (by omega)
 obtain ⟨wt, i8, h8, K8, t1, _⟩ := somes_ev s hs (2 + u) (1 + v) g2 (by omega) hne (1 + n2) i7 h7 (by omega) c7
 refine ⟨2 + u, 1 + v, g2, st, wt, K0 + K3 + K6 + K8, fun k hk => ?_, hG, by omega, r2, r3, r4, r5⟩
 have f0 := e0 k (by omega)
 have f3 := q1 k (by omega)
 have f6 := r1 k (by omega)
 have f8 := t1 k (by omega)
 rw [show ((0 : Nat) : Int) = 0 from rfl] at f3
 unfold spec_DrawSmall.f spec_l16Right.f spec_l02Sized.f
 simp only [f0, e1, e2, w1, w2, f3, d1, e5, w5, f6, e7, w7, f8, Option.bind_some]
end
end Go.Proofs.Ytooofofeihkpcaa.Pure
/- Twelve numbers are drawn, none below 0. -/
namespace Go.Proofs.Ytooofofeihkpcaa.Pure
open Go.RowKit Go.Proofs.Ytooofofeihkpcaa.Q Go.Proofs.YtooofofeihkpcaaW.PrintWords Go.Proofs.YtooofofeihkpcaaW.PrintLast
theorem places_l0 (s : List Int) (hs : s.length ≤ 1048576) : ∀ (d n : Nat) (i h : Int) (p : List Int), n + d = 12 → 0 ≤ i → p.length = n → (∀ x ∈ p, 0 ≤ x) → ∃ p' K, (∀ k, K ≤ k → spec_DrawPlaces.l0 k p (n : Int) s i h = some p') ∧ p'.length = 12 ∧ ∀ x ∈ p', 0 ≤ x
 | 0, n, i, h, p, hn, hi, hp, hx => by
  refine ⟨p, 1, fun k hk => ?_, by omega, hx⟩
  obtain ⟨k, rfl⟩ : ∃ m, k = m + 1 := ⟨k - 1, by omega⟩
  simp only [spec_DrawPlaces.l0]
  rw [if_neg (by omega)]
 | d + 1, n, i, h, p, hn, hi, hp, hx => by
  obtain ⟨v, i1, h1, e1, a1, b1, c1⟩ := below4_ev s hs i h 10000 hi (by omega)
  obtain ⟨p', K, hh, q1, q2⟩ := places_l0 s hs d (n + 1) i1 h1 (p ++ [v]) (by omega) c1 (by simp; omega) (fun x hm => by
   rcases List.mem_append.mp hm with e | e
   ·exact hx x e
   ·have : x = v := by simpa using e
    omega)
  refine ⟨p', K + 1, fun k hk => ?_, q1, q2⟩
  obtain ⟨k, rfl⟩ : ∃ m, k = m + 1 := ⟨k - 1, by omega⟩
  simp only [spec_DrawPlaces.l0]
  rw [if_pos (by omega), e1]
  simp only [Option.bind_some]
  rw [if_pos (by omega), w64 (x := (n : Int) + 1) (by omega) (by omega), show ((n : Int) + 1) = ((n + 1 : Nat) : Int) by omega]
  exact hh k (by omega)
theorem places_ev (s : List Int) (hs : s.length ≤ 1048576) : ∃ p K, (∀ k, K ≤ k → spec_DrawPlaces.f k s = some p) ∧ p.length = 12 ∧ ∀ x ∈ p, 0 ≤ x := by
 obtain ⟨h, K0, h0⟩ := new_ev s hs
 obtain ⟨v1, i1, h1, e1, a1, b1, c1⟩ := byte_ev s hs 0 h (by omega)
 obtain ⟨p, K, hh, q1, q2⟩ := places_l0 s hs 12 0 i1 h1 [] (by omega) c1 rfl (fun x hx => by cases hx)
 refine ⟨p, K0 + K, fun k hk => ?_, q1, q2⟩
 unfold spec_DrawPlaces.f
 rw [h0 k (by omega)]
 simp only [Option.bind_some]
 rw [e1]
 simp only [Option.bind_some]
 exact hh k (by omega)
end Go.Proofs.Ytooofofeihkpcaa.Pure
