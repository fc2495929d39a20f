/- The plain facts of this claim, in their order. -/
import Derived.Test.YtmdkfmbgddhjcaaQ0
import Derived.Test.YtmdkfmbgddhjcaaQ4
import Derived.Test.YtmdkfmbgddhjcaaQ1
import Derived.Test.YtmdkfmbgddhjcaaQ3
import Derived.Test.YtmdkfmbgddhjcaaQ2
import Derived.Test.YtmdkfmbgddhjcaaQ5
set_option linter.unusedSimpArgs false
set_option linter.unusedSectionVars false
/- Plain facts that all the proofs share. -/
namespace Go.Proofs.Ytmdkfmbgddhjcaa.Pure
open Go.RowKit Go.Proofs.Ytmdkfmbgddhjcaa.Q Go.Proofs.YtmdkfmbgddhjcaaW.PrintWords Go.Proofs.YtmdkfmbgddhjcaaW.PrintLast

theorem w64 {x : Int} (h0 : -9223372036854775808 ≤ x) (h1 : x ≤ 9223372036854775807) : wrap64 x = x := by unfold wrap64; omega
theorem rd_get (l : List Int) (i : Nat) (h : i < l.length) : rd l (i : Int) = l[i] := by simp [rd, h]
theorem drop_cons {α : Type} (l : List α) (i : Nat) (h : i < l.length) : l.drop i = l[i] :: l.drop (i + 1) := List.drop_eq_getElem_cons h
def iota (m : Int) : Nat → List Int
 | 0 => []
 | d + 1 => m :: iota (m + 1) d
theorem iota_length : ∀ (m : Int) (d : Nat), (iota m d).length = d
 | _, 0 => rfl
 | m, d + 1 => by simp [iota, iota_length (m + 1) d]

end Go.Proofs.Ytmdkfmbgddhjcaa.Pure
/- Plain facts about the law's helpers over whole numbers: what comparing answers. -/
namespace Go.Proofs.Ytmdkfmbgddhjcaa.Pure
open Go.RowKit Go.Proofs.Ytmdkfmbgddhjcaa.Q Go.Proofs.YtmdkfmbgddhjcaaW.PrintWords Go.Proofs.YtmdkfmbgddhjcaaW.PrintLast

theorem eqIntS_l0 (a b : List Int) (hl : a.length = b.length) (hn : a.length ≤ 9223372036854775807) : ∀ (d i k : Nat), i + d = a.length → d < k →
  laws_eqIntS.l0 k a b (i : Int) = some (decide (a.drop i = b.drop i))
 | 0, i, k, hi, hk => by
  obtain ⟨k, rfl⟩ : ∃ m, k = m + 1 := ⟨k - 1, by omega⟩
  simp only [laws_eqIntS.l0]
  rw [if_neg (by omega), List.drop_of_length_le (by omega), List.drop_of_length_le (by omega)]
  rfl
 | d + 1, i, k, hi, hk => by
  obtain ⟨k, rfl⟩ : ∃ m, k = m + 1 := ⟨k - 1, by omega⟩
  simp only [laws_eqIntS.l0]
  rw [if_pos (by omega), if_pos (by omega), if_pos (by omega), rd_get a i (by omega), rd_get b i (by omega), drop_cons a i (by omega), drop_cons b i (by omega), w64 (by omega) (by omega)]
  by_cases h : a[i]'(by omega) = b[i]'(by omega)
  ·rw [if_pos h, show ((i : Int) + 1) = ((i + 1 : Nat) : Int) by omega, eqIntS_l0 a b hl hn d (i + 1) k (by omega) (by omega)]
   simp only [h, List.cons.injEq, true_and]
  ·rw [if_neg h]
   simp only [List.cons.injEq, h, false_and, decide_false]
theorem eqIntS_ev (a b : List Int) (hn : a.length ≤ 9223372036854775807) : ∃ K, ∀ k, K ≤ k → laws_eqIntS.f k a b = some (decide (a = b)) := by
 refine ⟨a.length + 1, fun k hk => ?_⟩
 show laws_eqIntS.f k a b = some (decide (a = b))
 unfold laws_eqIntS.f
 by_cases h : a.length = b.length
 ·rw [if_pos (by omega)]
  have := eqIntS_l0 a b h hn a.length 0 k (by omega) (by omega)
  simpa using this
 ·rw [if_neg (by omega), decide_eq_false (fun e => h (by rw [e]))]
end Go.Proofs.Ytmdkfmbgddhjcaa.Pure
/- A number between two others. -/
namespace Go.Proofs.Ytmdkfmbgddhjcaa.Pure
open Go.RowKit Go.Proofs.Ytmdkfmbgddhjcaa.Q Go.Proofs.YtmdkfmbgddhjcaaW.PrintWords Go.Proofs.YtmdkfmbgddhjcaaW.PrintLast
theorem l01In_eq (a b c : Int) : spec_l01In.f a b c = some (decide (b ≤ a ∧ a ≤ c)) := by
 unfold spec_l01In.f
 by_cases h : a ≥ b
 ·rw [if_pos h]; congr 1; exact decide_eq_decide.mpr ⟨fun h2 => ⟨h, h2⟩, fun h2 => h2.2⟩
 ·rw [if_neg h, decide_eq_false (fun h2 => h h2.1)]
end Go.Proofs.Ytmdkfmbgddhjcaa.Pure
/- Grids and their free cells: what the program and the reference answer. -/
namespace Go.Proofs.Ytmdkfmbgddhjcaa.Pure
open Go.RowKit Go.Proofs.Ytmdkfmbgddhjcaa.Q Go.Proofs.YtmdkfmbgddhjcaaW.PrintWords Go.Proofs.YtmdkfmbgddhjcaaW.PrintLast
def Kind (c : Int) : Prop := c = 46 ∨ c = 35 ∨ (97 ≤ c ∧ c ≤ 102) ∨ (65 ≤ c ∧ c ≤ 70)
theorem kind_eq (c : Int) : ∃ b, spec_l02Kind.f c = some b ∧ (b = true ↔ Kind c) := by
 unfold spec_l02Kind.f Kind
 by_cases h1 : c = 46
 ·exact ⟨true, by rw [if_pos h1], by simp [h1]⟩
 ·by_cases h2 : c = 35
  ·exact ⟨true, by rw [if_neg h1, if_pos h2], by simp [h2]⟩
  ·by_cases h3 : c ≥ 97
   ·by_cases h4 : c ≤ 102
    ·exact ⟨true, by rw [if_neg h1, if_neg h2, if_pos h3, if_pos h4], ⟨fun _ => by omega, fun _ => rfl⟩⟩
    ·refine ⟨decide (c ≤ 70), by rw [if_neg h1, if_neg h2, if_pos h3, if_neg h4, if_pos (by omega)], ⟨fun h => (by have := of_decide_eq_true h; omega), fun h => decide_eq_true (by omega)⟩⟩
   ·by_cases h5 : c ≥ 65
    ·exact ⟨decide (c ≤ 70), by rw [if_neg h1, if_neg h2, if_neg h3, if_pos h5], ⟨fun h => (by have := of_decide_eq_true h; omega), fun h => decide_eq_true (by omega)⟩⟩
    ·exact ⟨false, by rw [if_neg h1, if_neg h2, if_neg h3, if_neg h5], ⟨fun h => (by cases h), fun h => (by omega)⟩⟩
def Gok (a b : Int) (s : ByteArray) : Prop := 1 ≤ a ∧ a ≤ 8 ∧ 1 ≤ b ∧ b ≤ 8 ∧ (s.size : Int) = a * b ∧ ∀ i : Nat, i < s.size → Kind (bt s (i : Int))
theorem Gok_size {a b : Int} {s : ByteArray} (h : Gok a b s) : s.size ≤ 64 := by
 obtain ⟨h1, h2, h3, h4, h5, _⟩ := h
 have : a * b ≤ 8 * 8 := Int.mul_le_mul h2 h4 (by omega) (by omega)
 omega
theorem implKind_eq (c : Int) (b : Bool) (hb : b = true ↔ Kind c) (X : Option Bool) : (if c = 46 then X else (if c = 35 then X else (if c < 97 then (if c < 65 then (some false) else (if c > 70 then (some false) else X)) else (if c > 102 then (if c < 65 then (some false) else (if c > 70 then (some false) else X)) else X)))) = (if b = true then X else some false) := by
 unfold Kind at hb
 cases b with
 | true =>
  have h := hb.mp rfl
  rw [if_pos rfl]
  repeat' split
  all_goals first | rfl | (exfalso; omega)
 | false =>
  have h : ¬ (c = 46 ∨ c = 35 ∨ (97 ≤ c ∧ c ≤ 102) ∨ (65 ≤ c ∧ c ≤ 70)) := fun h => absurd (hb.mpr h) Bool.false_ne_true
  rw [if_neg Bool.false_ne_true]
  repeat' split
  all_goals first | rfl | (exfalso; omega)
theorem gridOk_l0 (a b : Int) (s : ByteArray) (hs : s.size ≤ 1048576) : ∀ (d i : Nat), i + d = s.size → ∃ g K, (∀ k, K ≤ k → spec_GridOk.l0 k (i : Int) a b s = some g ∧ impl_GridOk.l0 k (i : Int) a b s = some g) ∧ (g = true ↔ ∀ j : Nat, i ≤ j → j < s.size → Kind (bt s (j : Int)))
 | 0, i, hi => by
  refine ⟨true, 1, fun k hk => ?_, ⟨fun _ j h1 h2 => by omega, fun _ => rfl⟩⟩
  obtain ⟨k, rfl⟩ : ∃ m, k = m + 1 := ⟨k - 1, by omega⟩
  have e1 : ¬ (i : Int) < (s.size : Int) := by omega
  simp only [spec_GridOk.l0, impl_GridOk.l0, e1, reduceIte, and_self]
 | d + 1, i, hi => by
  obtain ⟨g, K, h, hg⟩ := gridOk_l0 a b s hs d (i + 1) (by omega)
  have e1 : (i : Int) < (s.size : Int) := by omega
  have e2 : (0 : Int) ≤ i := by omega
  have e9 : wrap64 ((i : Int) + 1) = ((i + 1 : Nat) : Int) := by rw [w64 (by omega) (by omega)]; rfl
  obtain ⟨q, hq, hqk⟩ := kind_eq (bt s (i : Int))
  have hstep : (∀ j : Nat, i ≤ j → j < s.size → Kind (bt s (j : Int))) ↔ Kind (bt s (i : Int)) ∧ ∀ j : Nat, i + 1 ≤ j → j < s.size → Kind (bt s (j : Int)) := by
   constructor
   ·exact fun h => ⟨h i (Nat.le_refl _) (by omega), fun j h1 h2 => h j (by omega) h2⟩
   ·rintro ⟨h0, h⟩ j h1 h2
    rcases Nat.eq_or_lt_of_le h1 with e | e
    ·subst e; exact h0
    ·exact h j e h2
  rw [hstep]
  cases q with
  | true =>
   refine ⟨g, K + 1, fun k hk => ?_, by rw [hg]; exact ⟨fun h => ⟨hqk.mp rfl, h⟩, fun h => h.2⟩⟩
   obtain ⟨k, rfl⟩ : ∃ m, k = m + 1 := ⟨k - 1, by omega⟩
   obtain ⟨q1, q2⟩ := h k (by omega)
   simp only [spec_GridOk.l0, impl_GridOk.l0]
   rw [if_pos e1, if_pos e2, if_pos e1, if_pos e2, hq, e9, implKind_eq _ true hqk]
   simp only [Option.bind_some, reduceIte]
   exact ⟨q1, q2⟩
  | false =>
   refine ⟨false, 1, fun k hk => ?_, ⟨fun h => (by cases h), fun h => absurd (hqk.mpr h.1) (by decide)⟩⟩
   obtain ⟨k, rfl⟩ : ∃ m, k = m + 1 := ⟨k - 1, by omega⟩
   simp only [spec_GridOk.l0, impl_GridOk.l0]
   rw [if_pos e1, if_pos e2, if_pos e1, if_pos e2, hq, e9, implKind_eq _ false hqk]
   simp only [Option.bind_some, Bool.false_eq_true, reduceIte, and_self]
theorem gridOk_ev (a b : Int) (s : ByteArray) (hs : s.size ≤ 1048576) : ∃ g K, (∀ k, K ≤ k → spec_GridOk.f k a b s = some g ∧ impl_GridOk.f k a b s = some g) ∧ (g = true ↔ Gok a b s) := by
 obtain ⟨g, K, h, hg⟩ := gridOk_l0 a b s hs s.size 0 (by omega)
 by_cases ha : 1 ≤ a ∧ a ≤ 8
 ·by_cases hb : 1 ≤ b ∧ b ≤ 8
  ·have hm : wrap64 (a * b) = a * b := by
    have h1 : a * b ≤ 8 * 8 := Int.mul_le_mul ha.2 hb.2 (by omega) (by omega)
    have h2 : 0 ≤ a * b := Int.mul_nonneg (by omega) (by omega)
    exact w64 (by omega) (by omega)
   have a1 : ¬ a < 1 := by omega
   have a2 : ¬ a > 8 := by omega
   have b1 : ¬ b < 1 := by omega
   have b2 : ¬ b > 8 := by omega
   by_cases hsz : (s.size : Int) = a * b
   ·have e : ((s.size : Int) != wrap64 (a * b)) = false := by rw [hm]; simp [hsz]
    refine ⟨g, K + 1, fun k hk => ?_, ?_⟩
    ·obtain ⟨k, rfl⟩ : ∃ m, k = m + 1 := ⟨k - 1, by omega⟩
     unfold spec_GridOk.f impl_GridOk.f
     simp only [l01In_eq, ha, hb, a1, a2, b1, b2, e, and_self, decide_true, Option.bind_some, reduceIte]
     simp only [spec_GridOk.j0, impl_GridOk.j0, Bool.false_eq_true, reduceIte]
     exact h k (by omega)
    ·rw [hg]
     exact ⟨fun h => ⟨ha.1, ha.2, hb.1, hb.2, hsz, fun i hi => h i (Nat.zero_le _) hi⟩, fun h j _ hj => h.2.2.2.2.2 j hj⟩
   ·have e : ((s.size : Int) != wrap64 (a * b)) = true := by rw [hm]; simp [hsz]
    refine ⟨false, 1, fun k hk => ?_, ⟨fun h => (by cases h), fun h => absurd h.2.2.2.2.1 hsz⟩⟩
    obtain ⟨k, rfl⟩ : ∃ m, k = m + 1 := ⟨k - 1, by omega⟩
    unfold spec_GridOk.f impl_GridOk.f
    simp only [l01In_eq, ha, hb, a1, a2, b1, b2, e, and_self, decide_true, Option.bind_some, reduceIte]
    simp only [spec_GridOk.j0, impl_GridOk.j0, reduceIte, and_self]
  ·refine ⟨false, 1, fun k hk => ?_, ⟨fun h => (by cases h), fun h => absurd ⟨h.2.2.1, h.2.2.2.1⟩ hb⟩⟩
   obtain ⟨k, rfl⟩ : ∃ m, k = m + 1 := ⟨k - 1, by omega⟩
   have a1 : ¬ a < 1 := by omega
   have a2 : ¬ a > 8 := by omega
   unfold spec_GridOk.f impl_GridOk.f
   simp only [l01In_eq, ha, hb, a1, a2, and_self, decide_true, decide_false, Option.bind_some, Bool.false_eq_true, reduceIte]
   by_cases b1 : b < 1
   ·simp only [b1, spec_GridOk.j0, impl_GridOk.j0, reduceIte, and_self]
   ·have b2 : b > 8 := by omega
    simp only [b1, b2, spec_GridOk.j0, impl_GridOk.j0, reduceIte, and_self]
 ·refine ⟨false, 1, fun k hk => ?_, ⟨fun h => (by cases h), fun h => absurd ⟨h.1, h.2.1⟩ ha⟩⟩
  obtain ⟨k, rfl⟩ : ∃ m, k = m + 1 := ⟨k - 1, by omega⟩
  unfold spec_GridOk.f impl_GridOk.f
  simp only [l01In_eq, ha, decide_false, Option.bind_some, Bool.false_eq_true, reduceIte]
  by_cases a1 : a < 1
  ·simp only [a1, spec_GridOk.j0, impl_GridOk.j0, reduceIte, and_self]
  ·have a2 : a > 8 := by omega
   simp only [a1, a2, spec_GridOk.j0, impl_GridOk.j0, reduceIte, and_self]
def Fr (s : ByteArray) (c : Int) : Prop := 0 ≤ c ∧ c < (s.size : Int) ∧ bt s c ≠ 35
instance (s : ByteArray) (c : Int) : Decidable (Fr s c) := by unfold Fr; exact inferInstance
theorem fr_nest (s : ByteArray) (c : Int) : (if c ≥ 0 then (if c < (s.size : Int) then (if 0 ≤ c then (some ((bt s c) != 35)) else (none)) else (some false)) else (some false)) = some (decide (Fr s c)) := by
 by_cases h1 : c ≥ 0
 ·by_cases h2 : c < (s.size : Int)
  ·rw [if_pos h1, if_pos h2, if_pos h1]
   by_cases h3 : bt s c = 35
   ·rw [decide_eq_false (fun h : Fr s c => h.2.2 h3), h3]; rfl
   ·rw [decide_eq_true (show Fr s c from ⟨h1, h2, h3⟩)]
    congr 1
    simpa using h3
  ·rw [if_pos h1, if_neg h2, decide_eq_false (fun h : Fr s c => h2 h.2.1)]
 ·rw [if_neg h1, decide_eq_false (fun h : Fr s c => h1 h.1)]
theorem isFree_eq (a b : Int) (s : ByteArray) (c : Int) : impl_isFree.f a b s c = some (decide (Fr s c)) := fr_nest s c
theorem specFreeAt_ev (a b : Int) (s : ByteArray) (hs : s.size ≤ 1048576) (c : Int) : ∃ g K, (∀ k, K ≤ k → spec_FreeAt.f k a b s c = some g) ∧ (g = true ↔ Gok a b s ∧ Fr s c) := by
 obtain ⟨g, K, h, hg⟩ := gridOk_ev a b s hs
 cases g with
 | false =>
  refine ⟨false, K, fun k hk => ?_, ⟨fun h => (by cases h), fun h2 => absurd (hg.mpr h2.1) (by decide)⟩⟩
  unfold spec_FreeAt.f
  rw [(h k hk).1]
  rfl
 | true =>
  refine ⟨decide (Fr s c), K, fun k hk => ?_, ⟨fun h => ⟨hg.mp rfl, of_decide_eq_true h⟩, fun h => decide_eq_true h.2⟩⟩
  unfold spec_FreeAt.f
  rw [(h k hk).1]
  simp only [Option.bind_some, reduceIte, isFree_eq]
  exact fr_nest s c
def fr (s : ByteArray) : Nat → Nat → List Int
 | 0, _ => []
 | d + 1, i => if Fr s (i : Int) then (i : Int) :: fr s d (i + 1) else fr s d (i + 1)
theorem fr_mem (s : ByteArray) (c : Int) : ∀ d i, c ∈ fr s d i ↔ (i : Int) ≤ c ∧ c < (i : Int) + d ∧ Fr s c
 | 0, i => by simp [fr]; omega
 | d + 1, i => by
  unfold fr
  by_cases h : Fr s (i : Int)
  ·rw [if_pos h, List.mem_cons, fr_mem s c d (i + 1)]
   constructor
   ·rintro (e | ⟨h1, h2, h3⟩)
    ·subst e; exact ⟨Int.le_refl _, by omega, h⟩
    ·exact ⟨by omega, by omega, h3⟩
   ·rintro ⟨h1, h2, h3⟩
    by_cases e : c = (i : Int)
    ·exact .inl e
    ·exact .inr ⟨by omega, by omega, h3⟩
  ·rw [if_neg h, fr_mem s c d (i + 1)]
   constructor
   ·rintro ⟨h1, h2, h3⟩; exact ⟨by omega, by omega, h3⟩
   ·rintro ⟨h1, h2, h3⟩
    by_cases e : c = (i : Int)
    ·subst e; exact absurd h3 h
    ·exact ⟨by omega, by omega, h3⟩
open Classical in
noncomputable def frees (a b : Int) (s : ByteArray) : List Int := if Gok a b s then fr s s.size 0 else []
theorem implFree_go (a b : Int) (s : ByteArray) (hg : Gok a b s) : ∀ (d i : Nat) (acc : List Int), i + d = s.size → acc.length ≤ i → impl_FreeCells.go a b s d i acc = some (acc ++ fr s d i)
 | 0, i, acc, hi, ha => by simp [impl_FreeCells.go, fr]
 | d + 1, i, acc, hi, ha => by
  have hsz := Gok_size hg
  have hk := hg.2.2.2.2.2 i (by omega)
  have hb : bt s (i : Int) = ((s[i]'(by omega)).toNat : Int) := by
   unfold bt
   rw [dif_pos (by rw [Int.toNat_natCast]; omega)]
   simp
  have hlt : (s[i]'(by omega)).toNat < 128 := by
   unfold Kind at hk
   rw [hb] at hk
   omega
  unfold impl_FreeCells.go fr
  rw [dif_pos (by omega), if_pos hlt, isFree_eq, Option.bind_some]
  by_cases c : Fr s (i : Int)
  ·rw [decide_eq_true c, if_pos rfl, if_pos (by omega), if_pos c, implFree_go a b s hg d (i + 1) _ (by omega) (by simp; omega)]
   simp
  ·rw [decide_eq_false c, if_neg (by decide), if_neg c, implFree_go a b s hg d (i + 1) _ (by omega) (by omega)]
theorem implFree_ev (a b : Int) (s : ByteArray) (hs : s.size ≤ 1048576) : ∃ K, ∀ k, K ≤ k → impl_FreeCells.f k a b s = some (frees a b s) := by
 obtain ⟨g, K, h, hg⟩ := gridOk_ev a b s hs
 refine ⟨K, fun k hk => ?_⟩
 unfold impl_FreeCells.f frees
 rw [(h k hk).2, Option.bind_some]
 cases g with
 | true =>
  have hG := hg.mp rfl
  rw [if_pos rfl, if_pos hG, implFree_go a b s hG s.size 0 [] (by omega) (by simp)]
  simp
 | false =>
  rw [if_neg (by decide), if_neg (fun h => absurd (hg.mpr h) (by decide))]
end Go.Proofs.Ytmdkfmbgddhjcaa.Pure
/- The reference's free cells. -/
namespace Go.Proofs.Ytmdkfmbgddhjcaa.Pure
open Go.RowKit Go.Proofs.Ytmdkfmbgddhjcaa.Q Go.Proofs.YtmdkfmbgddhjcaaW.PrintWords Go.Proofs.YtmdkfmbgddhjcaaW.PrintLast
theorem specFree_l0 (a b : Int) (s : ByteArray) (hs : s.size ≤ 1048576) : ∀ (d i : Nat) (acc : List Int), i + d = min s.size 64 → acc.length ≤ i → ∃ v K, (∀ k, K ≤ k → spec_FreeCells.l0 k acc (i : Int) a b s = some v) ∧ (Gok a b s → v = acc ++ fr s d i) ∧ (¬ Gok a b s → v = acc)
 | 0, i, acc, hi, ha => by
  refine ⟨acc, 2, fun k hk => ?_, by simp [fr], fun _ => rfl⟩
  obtain ⟨k, rfl⟩ : ∃ m, k = m + 2 := ⟨k - 2, by omega⟩
  simp only [spec_FreeCells.l0]
  by_cases c : (i : Int) < (s.size : Int)
  ·rw [if_pos c, decide_eq_false (by omega)]
   simp only [spec_FreeCells.j1, Bool.false_eq_true, reduceIte]
  ·rw [if_neg c]
   simp only [spec_FreeCells.j1, Bool.false_eq_true, reduceIte]
 | d + 1, i, acc, hi, ha => by
  obtain ⟨g, K1, h1, hg⟩ := specFreeAt_ev a b s hs (i : Int)
  have e1 : (i : Int) < (s.size : Int) := by omega
  have e2 : decide ((i : Int) < 64) = true := decide_eq_true (by omega)
  have e9 : wrap64 ((i : Int) + 1) = ((i + 1 : Nat) : Int) := by rw [w64 (by omega) (by omega)]; rfl
  cases g with
  | true =>
   obtain ⟨v, K, h, hv, hw⟩ := specFree_l0 a b s hs d (i + 1) (acc ++ [(i : Int)]) (by omega) (by simp; omega)
   refine ⟨v, K + K1 + 2, fun k hk => ?_, fun hG => ?_, fun hG => absurd (hg.mp rfl).1 hG⟩
   ·obtain ⟨k, rfl⟩ : ∃ m, k = m + 2 := ⟨k - 2, by omega⟩
    simp only [spec_FreeCells.l0]
    rw [if_pos e1, e2]
    simp only [spec_FreeCells.j1, reduceIte]
    rw [h1 k (by omega), Option.bind_some, if_pos rfl, if_pos (by omega), e9]
    exact h k (by omega)
   ·rw [hv hG, fr, if_pos (hg.mp rfl).2]; simp
  | false =>
   obtain ⟨v, K, h, hv, hw⟩ := specFree_l0 a b s hs d (i + 1) acc (by omega) (by omega)
   refine ⟨v, K + K1 + 2, fun k hk => ?_, fun hG => ?_, hw⟩
   ·obtain ⟨k, rfl⟩ : ∃ m, k = m + 2 := ⟨k - 2, by omega⟩
    simp only [spec_FreeCells.l0]
    rw [if_pos e1, e2]
    simp only [spec_FreeCells.j1, reduceIte]
    rw [h1 k (by omega), Option.bind_some, if_neg (by decide), e9]
    exact h k (by omega)
   ·rw [hv hG, fr, if_neg (fun h => absurd (hg.mpr ⟨hG, h⟩) (by decide))]
theorem specFree_ev (a b : Int) (s : ByteArray) (hs : s.size ≤ 1048576) : ∃ K, ∀ k, K ≤ k → spec_FreeCells.f k a b s = some (frees a b s) := by
 obtain ⟨v, K, h, hv, hw⟩ := specFree_l0 a b s hs (min s.size 64) 0 [] (by omega) (by simp)
 refine ⟨K, fun k hk => ?_⟩
 unfold spec_FreeCells.f frees
 have := h k hk
 by_cases hG : Gok a b s
 ·rw [if_pos hG]
  have hsz := Gok_size hG
  rw [hv hG, show min s.size 64 = s.size by omega] at this
  simpa using this
 ·rw [if_neg hG]
  rw [hw hG] at this
  exact this
end Go.Proofs.Ytmdkfmbgddhjcaa.Pure
/- The free cells are ascending. -/
namespace Go.Proofs.Ytmdkfmbgddhjcaa.Pure
open Go.RowKit Go.Proofs.Ytmdkfmbgddhjcaa.Q Go.Proofs.YtmdkfmbgddhjcaaW.PrintWords Go.Proofs.YtmdkfmbgddhjcaaW.PrintLast
theorem fr_asc (s : ByteArray) : ∀ d i, (fr s d i).Pairwise (· < ·)
 | 0, _ => List.Pairwise.nil
 | d + 1, i => by
  have ih := fr_asc s d (i + 1)
  unfold fr
  split
  ·refine List.pairwise_cons.mpr ⟨fun x hx => ?_, ih⟩
   have := (fr_mem s x d (i + 1)).mp hx
   omega
  ·exact ih
theorem frees_asc (a b : Int) (s : ByteArray) : (frees a b s).Pairwise (· < ·) := by
 unfold frees
 split
 ·exact fr_asc s _ _
 ·exact List.Pairwise.nil
end Go.Proofs.Ytmdkfmbgddhjcaa.Pure
/- The stands: the program's rounds and the reference's three loops. -/
namespace Go.Proofs.Ytmdkfmbgddhjcaa.Pure
open Go.RowKit Go.Proofs.Ytmdkfmbgddhjcaa.Q Go.Proofs.YtmdkfmbgddhjcaaW.PrintWords Go.Proofs.YtmdkfmbgddhjcaaW.PrintLast
def ext1 (F l : List Int) : List (List Int) := (F.filter fun c => decide (l.length = 0) || decide (rd l ((l.length - 1 : Nat) : Int) < c)).map fun c => l ++ [c]
def extL (F : List Int) (L : List (List Int)) : List (List Int) := L.flatMap (ext1 F)
def iterL (F : List Int) : Nat → List (List Int) → List (List Int)
 | 0, L => L
 | n + 1, L => iterL F n (extL F L)
theorem ext1_len (F l : List Int) : (ext1 F l).length ≤ F.length := by
 unfold ext1
 rw [List.length_map]
 exact List.length_filter_le _ _
theorem extL_len (F : List Int) : ∀ L : List (List Int), (extL F L).length ≤ L.length * F.length
 | [] => by simp [extL]
 | l :: L => by
  have h1 := extL_len F L
  have h2 := ext1_len F l
  unfold extL at h1 ⊢
  rw [List.flatMap_cons, List.length_append, List.length_cons, Nat.succ_mul]
  omega
theorem ext1_mem {F l x : List Int} (h : x ∈ ext1 F l) : x.length = l.length + 1 := by
 unfold ext1 at h
 obtain ⟨c, _, rfl⟩ := List.mem_map.mp h
 simp
theorem extL_mem {F : List Int} {L : List (List Int)} {m : Nat} (hL : ∀ l ∈ L, l.length ≤ m) : ∀ x ∈ extL F L, x.length ≤ m + 1 := by
 intro x hx
 obtain ⟨l, hl, hx⟩ := List.mem_flatMap.mp hx
 have := hL l hl
 have := ext1_mem hx
 omega
section
variable (F : List Int) (hF : F.length ≤ 9)
include hF
theorem st_l2 (n : Int) (l : List Int) (hl : l.length ≤ 100) (L : List (List Int)) (li : Int) : ∀ (d i : Nat) (acc : List (List Int)) (k : Nat), i + d = F.length → acc.length + d ≤ 1000000 → impl_StandsOf.l2 (k + d + 1) n F acc l L (L.length : Int) li F (F.length : Int) (i : Int) = impl_StandsOf.l2 (k + 1) n F (acc ++ ((F.drop i).filter fun c => decide (l.length = 0) || decide (rd l ((l.length - 1 : Nat) : Int) < c)).map fun c => l ++ [c]) l L (L.length : Int) li F (F.length : Int) (F.length : Int)
 | 0, i, acc, k, hi, ha => by
  obtain rfl : i = F.length := by omega
  simp
 | d + 1, i, acc, k, hi, ha => by
  have hil : i < F.length := by omega
  have e1 : (i : Int) < (F.length : Int) := by omega
  have e2 : (0 : Int) ≤ (i : Int) := by omega
  have e9 : wrap64 ((i : Int) + 1) = ((i + 1 : Nat) : Int) := w64 (by omega) (by omega)
  have hc : slices_Clone_int_int.f l = some l := by unfold slices_Clone_int_int.f; rw [if_pos (by omega)]
  rw [drop_cons F i hil, List.filter_cons, show k + (d + 1) + 1 = (k + d + 1) + 1 by omega, impl_StandsOf.l2, if_pos e1, if_pos e2, if_pos e1, e9, rd_get F i hil]
  by_cases c0 : l.length = 0
  ·rw [if_pos (show (l.length : Int) = 0 by omega), hc, Option.bind_some, if_pos (by omega), if_pos (by omega), decide_eq_true c0, Bool.true_or, if_pos rfl, st_l2 n l hl L li d (i + 1) (acc ++ [l ++ [F[i]]]) k (by omega) (by simp; omega), List.append_assoc, List.map_cons, List.singleton_append]
   simp only [c0, decide_true, Bool.true_or]
  ·have w1 : wrap64 ((l.length : Int) - 1) = ((l.length - 1 : Nat) : Int) := by rw [w64 (by omega) (by omega)]; omega
   rw [if_neg (show ¬ (l.length : Int) = 0 by omega), w1, if_pos (show (0 : Int) ≤ ((l.length - 1 : Nat) : Int) by omega), if_pos (show ((l.length - 1 : Nat) : Int) < (l.length : Int) by omega), decide_eq_false c0, Bool.false_or]
   by_cases c1 : rd l ((l.length - 1 : Nat) : Int) < F[i]
   ·rw [if_pos c1, hc, Option.bind_some, if_pos (by omega), if_pos (by omega), decide_eq_true c1, if_pos rfl, st_l2 n l hl L li d (i + 1) (acc ++ [l ++ [F[i]]]) k (by omega) (by simp; omega), List.append_assoc, List.map_cons, List.singleton_append]
    simp only [c0, decide_false, Bool.false_or]
   ·rw [if_neg c1, decide_eq_false c1, if_neg (by decide), st_l2 n l hl L li d (i + 1) acc k (by omega) (by omega)]
    simp only [c0, decide_false, Bool.false_or]
theorem st_l1 (n : Int) (L : List (List Int)) (hL : L.length ≤ 10000) (hm : ∀ l ∈ L, l.length ≤ 100) (v : List (List Int)) : ∀ (d i : Nat) (acc : List (List Int)), i + d = L.length → acc.length + 9 * d ≤ 900000 → (∃ K, ∀ k, K ≤ k → impl_StandsOf.l0 k (wrap64 (n - 1)) F (acc ++ extL F (L.drop i)) = some v) → ∃ K, ∀ k, K ≤ k → impl_StandsOf.l1 k n F acc L (L.length : Int) (i : Int) = some v
 | 0, i, acc, hi, ha, hc => by
  obtain ⟨K, h⟩ := hc
  rw [List.drop_of_length_le (by omega)] at h
  refine ⟨K + 1, fun k hk => ?_⟩
  obtain ⟨k, rfl⟩ : ∃ m, k = m + 1 := ⟨k - 1, by omega⟩
  have := h k (by omega)
  rw [impl_StandsOf.l1, if_neg (by omega)]
  simpa [extL] using this
 | d + 1, i, acc, hi, ha, hc => by
  have hil : i < L.length := by omega
  have e1 : (i : Int) < (L.length : Int) := by omega
  have e2 : (0 : Int) ≤ (i : Int) := by omega
  have e9 : wrap64 ((i : Int) + 1) = ((i + 1 : Nat) : Int) := w64 (by omega) (by omega)
  have hr : rd_L1 L (i : Int) = L[i] := by simp [rd_L1, hil]
  have hlen := ext1_len F L[i]
  obtain ⟨K, h⟩ := st_l1 n L hL hm v d (i + 1) (acc ++ ext1 F L[i]) (by omega) (by rw [List.length_append]; omega) (by
   obtain ⟨K, h⟩ := hc
   refine ⟨K, fun k hk => ?_⟩
   have := h k hk
   rw [drop_cons L i hil] at this
   rw [List.append_assoc]
   exact this)
  refine ⟨K + F.length + 2, fun k hk => ?_⟩
  obtain ⟨k, rfl⟩ : ∃ m, k = (m + F.length + 1) + 1 := ⟨k - F.length - 2, by omega⟩
  have h2 := st_l2 F hF n L[i] (hm _ (List.getElem_mem hil)) L (i : Int) F.length 0 acc k (by omega) (by omega)
  rw [show ((0 : Nat) : Int) = 0 from rfl, List.drop_zero] at h2
  rw [impl_StandsOf.l1, if_pos e1, if_pos e2, if_pos e1, hr, h2, impl_StandsOf.l2, if_neg (by omega), e9]
  exact h k (by omega)
theorem st_l0 : ∀ (n : Nat) (L : List (List Int)), n ≤ 3 → L.length * 9 ^ n ≤ 729 → (∀ l ∈ L, l.length + n ≤ 3) → ∃ K, ∀ k, K ≤ k → impl_StandsOf.l0 k (n : Int) F L = some (iterL F n L)
 | 0, L, _, _, _ => by
  refine ⟨1, fun k hk => ?_⟩
  obtain ⟨k, rfl⟩ : ∃ m, k = m + 1 := ⟨k - 1, by omega⟩
  rw [impl_StandsOf.l0, if_neg (by omega)]
  rfl
 | n + 1, L, hn, hL, hm => by
  have hb : L.length * 9 ^ (n + 1) = (L.length * 9) * 9 ^ n := by rw [Nat.pow_succ, Nat.mul_comm (9 ^ n) 9, Nat.mul_assoc]
  have hpos : 1 ≤ 9 ^ n := Nat.one_le_pow _ _ (by omega)
  have hl81 : L.length * 9 ≤ 729 := by
   have : L.length * 9 * 1 ≤ L.length * 9 * 9 ^ n := Nat.mul_le_mul_left _ hpos
   omega
  have he := extL_len F L
  have he2 : (extL F L).length ≤ L.length * 9 := Nat.le_trans he (Nat.mul_le_mul_left _ hF)
  obtain ⟨K, h⟩ := st_l0 n (extL F L) (by omega) (by
   have : (extL F L).length * 9 ^ n ≤ L.length * 9 * 9 ^ n := Nat.mul_le_mul_right _ he2
   omega) (fun x hx => by
   have := extL_mem (F := F) (m := 2 - n) (fun l hl => by have := hm l hl; omega) x hx
   omega)
  obtain ⟨K2, h2⟩ := st_l1 F hF ((n + 1 : Nat) : Int) L (by omega) (fun l hl => by have := hm l hl; omega) (iterL F n (extL F L)) L.length 0 [] (by omega) (by simp; omega) ⟨K, fun k hk => by
   rw [show wrap64 (((n + 1 : Nat) : Int) - 1) = (n : Int) by rw [w64 (by omega) (by omega)]; omega, List.nil_append, List.drop_zero]
   exact h k hk⟩
  rw [show ((0 : Nat) : Int) = 0 from rfl] at h2
  refine ⟨K2 + 1, fun k hk => ?_⟩
  obtain ⟨k, rfl⟩ : ∃ m, k = m + 1 := ⟨k - 1, by omega⟩
  rw [impl_StandsOf.l0, if_pos (by omega)]
  exact h2 k (by omega)
end
def gt (F : List Int) (x : Int) : List Int := F.filter fun c => decide (x < c)
def G2 (F : List Int) (x : Int) : List (List Int) := (gt F x).map fun y => [x, y]
def G3a (F : List Int) (x y : Int) : List (List Int) := (gt F y).map fun z => [x, y, z]
def G3 (F : List Int) (x : Int) : List (List Int) := (gt F x).flatMap (G3a F x)
theorem gt_len (F : List Int) (x : Int) : (gt F x).length ≤ F.length := List.length_filter_le _ _
theorem flatMap_len {α β : Type} (g : α → List β) (m : Nat) (h : ∀ x, (g x).length ≤ m) : ∀ l : List α, (l.flatMap g).length ≤ l.length * m
 | [] => by simp
 | x :: l => by
  have h1 := flatMap_len g m h l
  have h2 := h x
  rw [List.flatMap_cons, List.length_append, List.length_cons, Nat.succ_mul]
  omega
def standsF (F : List Int) (n : Nat) : List (List Int) := if n = 1 then F.map (fun c => [c]) else if n = 2 then F.flatMap (G2 F) else F.flatMap (G3 F)
theorem ext_nil (F : List Int) : extL F [[]] = F.map (fun c => [c]) := by
 unfold extL ext1
 simp only [List.flatMap_cons, List.flatMap_nil, List.append_nil, List.length_nil, decide_true, Bool.true_or, List.nil_append]
 rw [List.filter_eq_self.mpr (fun _ _ => rfl)]
theorem ext_one (F : List Int) (x : Int) : ext1 F [x] = G2 F x := by
 simp [ext1, G2, gt, rd]
theorem ext_two (F : List Int) (x y : Int) : ext1 F [x, y] = G3a F x y := by
 simp [ext1, G3a, gt, rd]
theorem iter_stands (F : List Int) (n : Nat) (h1 : 1 ≤ n) (h3 : n ≤ 3) : iterL F n [[]] = standsF F n := by
 have e2 : extL F (F.map fun c => [c]) = F.flatMap (G2 F) := by
  unfold extL
  rw [List.flatMap_map]
  exact congrArg (fun g => F.flatMap g) (funext fun x => ext_one F x)
 have e3 : extL F (F.flatMap (G2 F)) = F.flatMap (G3 F) := by
  unfold extL
  rw [List.flatMap_assoc]
  refine congrArg (fun g => F.flatMap g) (funext fun x => ?_)
  unfold G2 G3
  rw [List.flatMap_map]
  exact congrArg (fun g => (gt F x).flatMap g) (funext fun y => ext_two F x y)
 rcases (by omega : n = 1 ∨ n = 2 ∨ n = 3) with rfl | rfl | rfl
 ·simp only [iterL, ext_nil]; rfl
 ·simp only [iterL, ext_nil, e2]; rfl
 ·simp only [iterL, ext_nil, e2, e3]; rfl
section
variable (F : List Int) (hF : F.length ≤ 9) (hA : F.Pairwise (· < ·))
include hA
theorem gt_drop (i : Nat) (hi : i < F.length) : gt F (rd F (i : Int)) = F.drop (i + 1) := by
 unfold gt
 rw [rd_get F i hi]
 have h0 : ∀ x : Int, F.filter (fun c => decide (x < c)) = (F.take (i + 1)).filter (fun c => decide (x < c)) ++ (F.drop (i + 1)).filter (fun c => decide (x < c)) := fun x => by
  rw [← List.filter_append, List.take_append_drop]
 rw [h0]
 have h1 : (F.take (i + 1)).filter (fun c => decide (F[i] < c)) = [] := by
  rw [List.filter_eq_nil_iff]
  intro x hx
  obtain ⟨j, hj, rfl⟩ := List.getElem_of_mem hx
  rw [List.length_take] at hj
  rw [List.getElem_take]
  by_cases e : j = i
  ·subst e; simp
  ·have := List.pairwise_iff_getElem.mp hA j i (by omega) hi (by omega)
   simp
   omega
 have h2 : (F.drop (i + 1)).filter (fun c => decide (F[i] < c)) = F.drop (i + 1) := by
  rw [List.filter_eq_self]
  intro x hx
  obtain ⟨j, hj, rfl⟩ := List.getElem_of_mem hx
  rw [List.length_drop] at hj
  rw [List.getElem_drop]
  exact decide_eq_true (List.pairwise_iff_getElem.mp hA i (i + 1 + j) hi (by omega) (by omega))
 rw [h1, h2, List.nil_append]
include hF
theorem sp1_l0 : ∀ (d i : Nat) (acc : List (List Int)), i + d = F.length → (acc ++ (F.drop i).map fun c => [c]).length ≤ 100000 → ∃ K, ∀ k, K ≤ k → spec_StandsOf.l0 k 1 acc F (i : Int) = some (acc ++ (F.drop i).map fun c => [c])
 | 0, i, acc, hi, hb => by
  refine ⟨1, fun k hk => ?_⟩
  obtain ⟨k, rfl⟩ : ∃ m, k = m + 1 := ⟨k - 1, by omega⟩
  rw [spec_StandsOf.l0, if_neg (by omega), List.drop_of_length_le (by omega)]
  simp
 | d + 1, i, acc, hi, hb => by
  have hil : i < F.length := by omega
  have e9 : wrap64 ((i : Int) + 1) = ((i + 1 : Nat) : Int) := w64 (by omega) (by omega)
  rw [drop_cons F i hil, List.map_cons] at hb ⊢
  obtain ⟨K, h⟩ := sp1_l0 d (i + 1) (acc ++ [[F[i]]]) (by omega) (by simpa using hb)
  rw [List.append_assoc, List.singleton_append] at h
  refine ⟨K + 4, fun k hk => ?_⟩
  obtain ⟨k, rfl⟩ : ∃ m, k = m + 4 := ⟨k - 4, by omega⟩
  have hal : acc.length < 5864062014805 := by rw [List.length_append] at hb; omega
  rw [spec_StandsOf.l0, if_pos (by omega), if_pos rfl, if_pos (by omega), if_pos hal, spec_StandsOf.j2, spec_StandsOf.l1, e9, rd_get F i hil, decide_eq_false (show ¬ (1 : Int) > 1 by omega), ite_self, spec_StandsOf.j4, if_neg (by decide), e9]
  exact h k (by omega)
theorem sp2_l1 (i : Nat) (hi : i < F.length) (v : List (List Int)) : ∀ (e j : Nat) (acc : List (List Int)), j + e = F.length → (acc ++ (F.drop j).map fun y => [rd F (i : Int), y]).length ≤ 100000 → (∃ K, ∀ k, K ≤ k → spec_StandsOf.l0 k 2 (acc ++ (F.drop j).map fun y => [rd F (i : Int), y]) F ((i + 1 : Nat) : Int) = some v) → ∃ K, ∀ k, K ≤ k → spec_StandsOf.l1 k 2 acc F (i : Int) (j : Int) = some v
 | 0, j, acc, hj, hb, hc => by
  obtain ⟨K, h⟩ := hc
  rw [List.drop_of_length_le (by omega)] at h
  refine ⟨K + 2, fun k hk => ?_⟩
  obtain ⟨k, rfl⟩ : ∃ m, k = m + 2 := ⟨k - 2, by omega⟩
  rw [spec_StandsOf.l1, if_neg (by omega), spec_StandsOf.j4, if_neg (by decide), show wrap64 ((i : Int) + 1) = ((i + 1 : Nat) : Int) from w64 (by omega) (by omega)]
  have := h k (by omega)
  simpa using this
 | e + 1, j, acc, hj, hb, hc => by
  have hjl : j < F.length := by omega
  have e9 : wrap64 ((j : Int) + 1) = ((j + 1 : Nat) : Int) := w64 (by omega) (by omega)
  rw [drop_cons F j hjl, List.map_cons] at hb hc
  obtain ⟨K, h⟩ := sp2_l1 i hi v e (j + 1) (acc ++ [[rd F (i : Int), F[j]]]) (by omega) (by simpa using hb) (by rw [List.append_assoc, List.singleton_append]; exact hc)
  refine ⟨K + 4, fun k hk => ?_⟩
  obtain ⟨k, rfl⟩ : ∃ m, k = m + 4 := ⟨k - 4, by omega⟩
  have hal : acc.length < 5864062014805 := by rw [List.length_append] at hb; omega
  have hx : spec_StandsOf.l2 (k + 1) 2 (acc ++ [[rd F (i : Int), F[j]]]) F (i : Int) (j : Int) ((j + 1 : Nat) : Int) = spec_StandsOf.l1 k 2 (acc ++ [[rd F (i : Int), F[j]]]) F (i : Int) ((j + 1 : Nat) : Int) := by
   rw [spec_StandsOf.l2, if_neg (show ¬ (2 : Int) > 2 by omega), ite_self, e9]
  rw [spec_StandsOf.l1, if_pos (by omega), decide_eq_true (show (2 : Int) > 1 by omega), spec_StandsOf.j4, if_pos rfl, if_pos rfl, if_pos (by omega), if_pos (by omega), if_pos (by omega), if_pos (by omega), if_pos hal, spec_StandsOf.j5, rd_get F j hjl, e9, hx]
  exact h k (by omega)
theorem sp2_l0 : ∀ (d i : Nat) (acc : List (List Int)), i + d = F.length → (acc ++ (F.drop i).flatMap (G2 F)).length ≤ 100000 → ∃ K, ∀ k, K ≤ k → spec_StandsOf.l0 k 2 acc F (i : Int) = some (acc ++ (F.drop i).flatMap (G2 F))
 | 0, i, acc, hi, hb => by
  refine ⟨1, fun k hk => ?_⟩
  obtain ⟨k, rfl⟩ : ∃ m, k = m + 1 := ⟨k - 1, by omega⟩
  rw [spec_StandsOf.l0, if_neg (by omega), List.drop_of_length_le (by omega)]
  simp
 | d + 1, i, acc, hi, hb => by
  have hil : i < F.length := by omega
  have e9 : wrap64 ((i : Int) + 1) = ((i + 1 : Nat) : Int) := w64 (by omega) (by omega)
  have hg : G2 F F[i] = (F.drop (i + 1)).map fun y => [rd F (i : Int), y] := by
   unfold G2
   rw [← rd_get F i hil, gt_drop F hA i hil]
  rw [drop_cons F i hil, List.flatMap_cons, hg, ← List.append_assoc] at hb ⊢
  obtain ⟨K, h⟩ := sp2_l0 d (i + 1) (acc ++ (F.drop (i + 1)).map fun y => [rd F (i : Int), y]) (by omega) hb
  obtain ⟨K2, h2⟩ := sp2_l1 F hF hA i hil _ d (i + 1) acc (by omega) (by rw [List.length_append] at hb; omega) ⟨K, h⟩
  refine ⟨K2 + 2, fun k hk => ?_⟩
  obtain ⟨k, rfl⟩ : ∃ m, k = m + 2 := ⟨k - 2, by omega⟩
  rw [spec_StandsOf.l0, if_pos (by omega), if_neg (by decide), spec_StandsOf.j2, e9]
  exact h2 k (by omega)
theorem sp3_l2 (i j : Nat) (hi : i < F.length) (hj : j < F.length) (v : List (List Int)) : ∀ (e m : Nat) (acc : List (List Int)), m + e = F.length → (acc ++ (F.drop m).map fun z => [rd F (i : Int), rd F (j : Int), z]).length ≤ 100000 → (∃ K, ∀ k, K ≤ k → spec_StandsOf.l1 k 3 (acc ++ (F.drop m).map fun z => [rd F (i : Int), rd F (j : Int), z]) F (i : Int) ((j + 1 : Nat) : Int) = some v) → ∃ K, ∀ k, K ≤ k → spec_StandsOf.l2 k 3 acc F (i : Int) (j : Int) (m : Int) = some v
 | 0, m, acc, hm, hb, hc => by
  obtain ⟨K, h⟩ := hc
  rw [List.drop_of_length_le (by omega)] at h
  refine ⟨K + 1, fun k hk => ?_⟩
  obtain ⟨k, rfl⟩ : ∃ m, k = m + 1 := ⟨k - 1, by omega⟩
  rw [spec_StandsOf.l2, if_neg (by omega), show wrap64 ((j : Int) + 1) = ((j + 1 : Nat) : Int) from w64 (by omega) (by omega)]
  have := h k (by omega)
  simpa using this
 | e + 1, m, acc, hm, hb, hc => by
  have hml : m < F.length := by omega
  have e9 : wrap64 ((m : Int) + 1) = ((m + 1 : Nat) : Int) := w64 (by omega) (by omega)
  rw [drop_cons F m hml, List.map_cons] at hb hc
  obtain ⟨K, h⟩ := sp3_l2 i j hi hj v e (m + 1) (acc ++ [[rd F (i : Int), rd F (j : Int), F[m]]]) (by omega) (by simpa using hb) (by rw [List.append_assoc, List.singleton_append]; exact hc)
  refine ⟨K + 1, fun k hk => ?_⟩
  obtain ⟨k, rfl⟩ : ∃ m, k = m + 1 := ⟨k - 1, by omega⟩
  have hal : acc.length < 5864062014805 := by rw [List.length_append] at hb; omega
  rw [spec_StandsOf.l2, if_pos (by omega), if_pos (show (3 : Int) > 2 by omega), if_pos (by omega), if_pos (by omega), if_pos (by omega), if_pos (by omega), if_pos (by omega), if_pos hal, rd_get F m hml, e9]
  exact h k (by omega)
theorem sp3_l1 (i : Nat) (hi : i < F.length) (v : List (List Int)) : ∀ (e j : Nat) (acc : List (List Int)), j + e = F.length → (acc ++ (F.drop j).flatMap (G3a F (rd F (i : Int)))).length ≤ 100000 → (∃ K, ∀ k, K ≤ k → spec_StandsOf.l0 k 3 (acc ++ (F.drop j).flatMap (G3a F (rd F (i : Int)))) F ((i + 1 : Nat) : Int) = some v) → ∃ K, ∀ k, K ≤ k → spec_StandsOf.l1 k 3 acc F (i : Int) (j : Int) = some v
 | 0, j, acc, hj, hb, hc => by
  obtain ⟨K, h⟩ := hc
  rw [List.drop_of_length_le (by omega)] at h
  refine ⟨K + 2, fun k hk => ?_⟩
  obtain ⟨k, rfl⟩ : ∃ m, k = m + 2 := ⟨k - 2, by omega⟩
  rw [spec_StandsOf.l1, if_neg (by omega), spec_StandsOf.j4, if_neg (by decide), show wrap64 ((i : Int) + 1) = ((i + 1 : Nat) : Int) from w64 (by omega) (by omega)]
  have := h k (by omega)
  simpa using this
 | e + 1, j, acc, hj, hb, hc => by
  have hjl : j < F.length := by omega
  have e9 : wrap64 ((j : Int) + 1) = ((j + 1 : Nat) : Int) := w64 (by omega) (by omega)
  have hg : G3a F (rd F (i : Int)) F[j] = (F.drop (j + 1)).map fun z => [rd F (i : Int), rd F (j : Int), z] := by
   unfold G3a
   rw [← rd_get F j hjl, gt_drop F hA j hjl]
  rw [drop_cons F j hjl, List.flatMap_cons, hg, ← List.append_assoc] at hb hc
  obtain ⟨K, h⟩ := sp3_l1 i hi v e (j + 1) (acc ++ (F.drop (j + 1)).map fun z => [rd F (i : Int), rd F (j : Int), z]) (by omega) hb hc
  obtain ⟨K2, h2⟩ := sp3_l2 F hF hA i j hi hjl v e (j + 1) acc (by omega) (by rw [List.length_append] at hb; omega) ⟨K, h⟩
  refine ⟨K2 + 3, fun k hk => ?_⟩
  obtain ⟨k, rfl⟩ : ∃ m, k = m + 3 := ⟨k - 3, by omega⟩
  rw [spec_StandsOf.l1, if_pos (by omega), decide_eq_true (show (3 : Int) > 1 by omega), spec_StandsOf.j4, if_pos rfl, if_neg (by decide), spec_StandsOf.j5, e9]
  exact h2 k (by omega)
theorem sp3_l0 : ∀ (d i : Nat) (acc : List (List Int)), i + d = F.length → (acc ++ (F.drop i).flatMap (G3 F)).length ≤ 100000 → ∃ K, ∀ k, K ≤ k → spec_StandsOf.l0 k 3 acc F (i : Int) = some (acc ++ (F.drop i).flatMap (G3 F))
 | 0, i, acc, hi, hb => by
  refine ⟨1, fun k hk => ?_⟩
  obtain ⟨k, rfl⟩ : ∃ m, k = m + 1 := ⟨k - 1, by omega⟩
  rw [spec_StandsOf.l0, if_neg (by omega), List.drop_of_length_le (by omega)]
  simp
 | d + 1, i, acc, hi, hb => by
  have hil : i < F.length := by omega
  have e9 : wrap64 ((i : Int) + 1) = ((i + 1 : Nat) : Int) := w64 (by omega) (by omega)
  have hg : G3 F F[i] = (F.drop (i + 1)).flatMap (G3a F (rd F (i : Int))) := by
   unfold G3
   rw [← rd_get F i hil, gt_drop F hA i hil]
  rw [drop_cons F i hil, List.flatMap_cons, hg, ← List.append_assoc] at hb ⊢
  obtain ⟨K, h⟩ := sp3_l0 d (i + 1) (acc ++ (F.drop (i + 1)).flatMap (G3a F (rd F (i : Int)))) (by omega) hb
  obtain ⟨K2, h2⟩ := sp3_l1 F hF hA i hil _ d (i + 1) acc (by omega) (by rw [List.length_append] at hb; omega) ⟨K, h⟩
  refine ⟨K2 + 2, fun k hk => ?_⟩
  obtain ⟨k, rfl⟩ : ∃ m, k = m + 2 := ⟨k - 2, by omega⟩
  rw [spec_StandsOf.l0, if_pos (by omega), if_neg (by decide), spec_StandsOf.j2, e9]
  exact h2 k (by omega)
end
theorem standsF_len (F : List Int) (hF : F.length ≤ 9) (n : Nat) : (standsF F n).length ≤ 729 := by
 have g2 : ∀ x, (G2 F x).length ≤ 9 := fun x => by unfold G2; rw [List.length_map]; have := gt_len F x; omega
 have g3a : ∀ x y, (G3a F x y).length ≤ 9 := fun x y => by unfold G3a; rw [List.length_map]; have := gt_len F y; omega
 have g3 : ∀ x, (G3 F x).length ≤ 81 := fun x => by
  have h1 := flatMap_len (G3a F x) 9 (g3a x) (gt F x)
  have h2 := gt_len F x
  unfold G3
  omega
 unfold standsF
 split
 ·rw [List.length_map]; omega
 ·split
  ·have := flatMap_len (G2 F) 9 g2 F; omega
  ·have := flatMap_len (G3 F) 81 g3 F; omega
theorem standsF_mem (F : List Int) (n : Nat) : ∀ l ∈ standsF F n, l.length ≤ 3 := by
 intro l hl
 unfold standsF at hl
 split at hl
 ·obtain ⟨c, _, rfl⟩ := List.mem_map.mp hl; simp
 ·split at hl
  ·obtain ⟨x, _, hx⟩ := List.mem_flatMap.mp hl
   unfold G2 at hx
   obtain ⟨y, _, rfl⟩ := List.mem_map.mp hx
   simp
  ·obtain ⟨x, _, hx⟩ := List.mem_flatMap.mp hl
   unfold G3 at hx
   obtain ⟨y, _, hy⟩ := List.mem_flatMap.mp hx
   unfold G3a at hy
   obtain ⟨z, _, rfl⟩ := List.mem_map.mp hy
   simp
theorem stands_ev (a b : Int) (s : ByteArray) (hs : s.size ≤ 1048576) (n : Int) : ∃ (v : List (List Int)) (K : Nat), v.length ≤ 729 ∧ (∀ l ∈ v, l.length ≤ 3) ∧ ∀ k, K ≤ k → spec_StandsOf.f k a b s n = some v ∧ impl_StandsOf.f k a b s n = some v := by
 obtain ⟨K1, h1⟩ := specFree_ev a b s hs
 obtain ⟨K2, h2⟩ := implFree_ev a b s hs
 have hA := frees_asc a b s
 have jS : ∀ k F, spec_StandsOf.j0 (k + 1) n [] F true = some [] := fun k F => by rw [spec_StandsOf.j0, if_pos rfl]
 have jI : ∀ k F, impl_StandsOf.j0 (k + 1) n F true = some [] := fun k F => by rw [impl_StandsOf.j0, if_pos rfl]
 generalize frees a b s = F at *
 by_cases c : F.length ≤ 9
 ·by_cases cn : 1 ≤ n ∧ n ≤ 3
  ·obtain ⟨m, rfl⟩ := Int.eq_ofNat_of_zero_le (show 0 ≤ n by omega)
   obtain ⟨K3, h3⟩ := st_l0 F c m [[]] (by omega) (by
    have : 9 ^ m ≤ 9 ^ 3 := Nat.pow_le_pow_right (by omega) (by omega)
    simpa using this) (fun l hl => by rw [List.mem_singleton.mp hl]; simp; omega)
   rw [iter_stands F m (by omega) (by omega)] at h3
   have hlen := standsF_len F c m
   obtain ⟨K4, h4⟩ : ∃ K, ∀ k, K ≤ k → spec_StandsOf.l0 k (m : Int) [] F 0 = some (standsF F m) := by
    rcases (by omega : m = 1 ∨ m = 2 ∨ m = 3) with rfl | rfl | rfl
    ·obtain ⟨K, h⟩ := sp1_l0 F c hA F.length 0 [] (by omega) (by simp; omega)
     exact ⟨K, fun k hk => by simpa [standsF] using h k hk⟩
    ·obtain ⟨K, h⟩ := sp2_l0 F c hA F.length 0 [] (by omega) (by
      have : standsF F 2 = F.flatMap (G2 F) := rfl
      rw [List.nil_append, List.drop_zero, ← this]; omega)
     exact ⟨K, fun k hk => by simpa [standsF] using h k hk⟩
    ·obtain ⟨K, h⟩ := sp3_l0 F c hA F.length 0 [] (by omega) (by
      have : standsF F 3 = F.flatMap (G3 F) := rfl
      rw [List.nil_append, List.drop_zero, ← this]; omega)
     exact ⟨K, fun k hk => by simpa [standsF] using h k hk⟩
   refine ⟨standsF F m, K1 + K2 + K3 + K4 + 2, hlen, standsF_mem F m, fun k hk => ?_⟩
   obtain ⟨k, rfl⟩ : ∃ m, k = m + 1 := ⟨k - 1, by omega⟩
   have d1 : ¬ (F.length : Int) > 9 := by omega
   have d2 : ¬ (m : Int) < 1 := by omega
   constructor
   ·unfold spec_StandsOf.f
    rw [Option.bind_some, h1 _ (by omega), Option.bind_some, if_neg d1, l01In_eq, Option.bind_some, decide_eq_true cn, Bool.not_true, spec_StandsOf.j0, if_neg (by decide)]
    exact h4 k (by omega)
   ·unfold impl_StandsOf.f
    rw [h2 _ (by omega), Option.bind_some, if_neg d1, if_neg d2, decide_eq_false (by omega), impl_StandsOf.j0, if_neg (by decide)]
    exact h3 k (by omega)
  ·refine ⟨[], K1 + K2 + 2, by simp, fun l hl => (by cases hl), fun k hk => ?_⟩
   obtain ⟨k, rfl⟩ : ∃ m, k = m + 1 := ⟨k - 1, by omega⟩
   have d1 : ¬ (F.length : Int) > 9 := by omega
   constructor
   ·unfold spec_StandsOf.f
    rw [Option.bind_some, h1 _ (by omega), Option.bind_some, if_neg d1, l01In_eq, Option.bind_some, decide_eq_false cn, Bool.not_false]
    exact jS k F
   ·unfold impl_StandsOf.f
    rw [h2 _ (by omega), Option.bind_some, if_neg d1]
    by_cases c1 : n < 1
    ·rw [if_pos c1]; exact jI k F
    ·rw [if_neg c1, decide_eq_true (by omega)]; exact jI k F
 ·refine ⟨[], K1 + K2 + 2, by simp, fun l hl => (by cases hl), fun k hk => ?_⟩
  obtain ⟨k, rfl⟩ : ∃ m, k = m + 1 := ⟨k - 1, by omega⟩
  have d1 : (F.length : Int) > 9 := by omega
  constructor
  ·unfold spec_StandsOf.f
   rw [Option.bind_some, h1 _ (by omega), Option.bind_some, if_pos d1]
   exact jS k F
  ·unfold impl_StandsOf.f
   rw [h2 _ (by omega), Option.bind_some, if_pos d1]
   exact jI k F
end Go.Proofs.Ytmdkfmbgddhjcaa.Pure
/- What a grid weighs. -/
namespace Go.Proofs.Ytmdkfmbgddhjcaa.Pure
open Go.RowKit Go.Proofs.Ytmdkfmbgddhjcaa.Q Go.Proofs.YtmdkfmbgddhjcaaW.PrintWords Go.Proofs.YtmdkfmbgddhjcaaW.PrintLast
theorem szGrid_eq (a b : Int) (s : ByteArray) (hs : s.size ≤ maxLen) (m : Int) (hm0 : 0 ≤ m) (hm : m ≤ 1048576) : laws_szGrid.f a b s m = some (if (s.size : Int) ≤ m then m - (s.size : Int) else -1) := by
 unfold laws_szGrid.f
 unfold maxLen at hs
 rw [w64 (by omega) (by omega)]
 by_cases h : (s.size : Int) ≤ m
 ·rw [if_neg (by omega), if_pos h]
 ·rw [if_pos (by omega), if_neg h]
end Go.Proofs.Ytmdkfmbgddhjcaa.Pure
/- Plain facts about the law's helpers over whole numbers: what marking and holding answer. -/
namespace Go.Proofs.Ytmdkfmbgddhjcaa.Pure
open Go.RowKit Go.Proofs.Ytmdkfmbgddhjcaa.Q Go.Proofs.YtmdkfmbgddhjcaaW.PrintWords Go.Proofs.YtmdkfmbgddhjcaaW.PrintLast

theorem heldIntS_l0 (l : List Int) (hn : l.length ≤ 9223372036854775807) : ∀ (d i k : Nat) (q : Int), i + d = l.length → l.drop i = iota q d → 0 ≤ q → q + d ≤ 9223372036854775807 → d < k →
  laws_heldIntS.l0 k l q (i : Int) = some (q + d)
 | 0, i, k, q, hi, he, h0, hm, hk => by
  obtain ⟨k, rfl⟩ : ∃ m, k = m + 1 := ⟨k - 1, by omega⟩
  simp only [laws_heldIntS.l0]
  rw [if_neg (by omega)]
  simp
 | d + 1, i, k, q, hi, he, h0, hm, hk => by
  obtain ⟨k, rfl⟩ : ∃ m, k = m + 1 := ⟨k - 1, by omega⟩
  rw [drop_cons l i (by omega), iota] at he
  injection he with he1 he2
  simp only [laws_heldIntS.l0]
  rw [if_pos (by omega), if_pos (by omega), rd_get l i (by omega), if_pos he1, w64 (by omega) (by omega), w64 (by omega) (by omega), show ((i : Int) + 1) = ((i + 1 : Nat) : Int) by omega,
   heldIntS_l0 l hn d (i + 1) k (q + 1) (by omega) he2 (by omega) (by omega) (by omega)]
  congr 1
  omega
theorem heldIntS_ev (n : Nat) (q : Int) (hn : n ≤ 9223372036854775807) (h0 : 0 ≤ q) (hm : q + n ≤ 9223372036854775807) : ∃ K, ∀ k, K ≤ k → laws_heldIntS.f k (iota q n) q = some (q + n) := by
 refine ⟨n + 1, fun k hk => ?_⟩
 have := heldIntS_l0 (iota q n) (by rw [iota_length]; exact hn) n 0 k q (by rw [iota_length]; omega) rfl h0 hm (by omega)
 simpa [laws_heldIntS.f] using this
end Go.Proofs.Ytmdkfmbgddhjcaa.Pure
