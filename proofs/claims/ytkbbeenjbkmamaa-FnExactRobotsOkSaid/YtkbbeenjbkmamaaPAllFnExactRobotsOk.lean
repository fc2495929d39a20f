/- The plain facts of this claim, in their order. -/
import Derived.Test.YtkbbeenjbkmamaaQ0
import Derived.Test.YtkbbeenjbkmamaaQ1
import Derived.Test.YtkbbeenjbkmamaaQ2
import Derived.Test.YtkbbeenjbkmamaaQ5
import Derived.Test.YtkbbeenjbkmamaaQ6
import Derived.Test.YtkbbeenjbkmamaaQ3
import Derived.Test.YtkbbeenjbkmamaaQ4
import Derived.Test.YtkbbeenjbkmamaaQ8
import Derived.Test.YtkbbeenjbkmamaaQ7
set_option linter.unusedSimpArgs false
set_option linter.unusedSectionVars false
/- Plain facts that all the proofs share. -/
namespace Go.Proofs.Ytkbbeenjbkmamaa.Pure
open Go.RowKit Go.Proofs.Ytkbbeenjbkmamaa.Q Go.Proofs.YtkbbeenjbkmamaaW.PrintWords Go.Proofs.YtkbbeenjbkmamaaW.PrintLast

theorem w64 {x : Int} (h0 : -9223372036854775808 ≤ x) (h1 : x ≤ 9223372036854775807) : wrap64 x = x := by unfold wrap64; omega
theorem rd_get (l : List Int) (i : Nat) (h : i < l.length) : rd l (i : Int) = l[i] := by simp [rd, h]
theorem drop_cons {α : Type} (l : List α) (i : Nat) (h : i < l.length) : l.drop i = l[i] :: l.drop (i + 1) := List.drop_eq_getElem_cons h
def iota (m : Int) : Nat → List Int
 | 0 => []
 | d + 1 => m :: iota (m + 1) d
end Go.Proofs.Ytkbbeenjbkmamaa.Pure
/- Plain facts about lists of robots: the law's helpers. -/
namespace Go.Proofs.Ytkbbeenjbkmamaa.Pure
open Go.RowKit Go.Proofs.Ytkbbeenjbkmamaa.Q Go.Proofs.YtkbbeenjbkmamaaW.PrintWords Go.Proofs.YtkbbeenjbkmamaaW.PrintLast
abbrev RI := S42
abbrev RL := S44
def toR (x : RL) : RI := ⟨x.f0, x.f1, x.f2, x.f3⟩
theorem rdI_get (l : List RI) (i : Nat) (h : i < l.length) : rd_T42 l (i : Int) = l[i] := by simp [rd_T42, h]
theorem rdL_get (l : List RL) (i : Nat) (h : i < l.length) : rd_T44 l (i : Int) = l[i] := by simp [rd_T44, h]
theorem toRobotS_l0 (l : List RL) (hn : l.length ≤ 1048576) : ∀ (d i k : Nat) (out : List RI), out.length = l.length → i + d = l.length → (∀ j, j < i → out[j]? = (l.map toR)[j]?) → d < k →
  laws_toRobotS.l0 k l out (i : Int) = some (l.map toR)
 | 0, i, k, out, ho, hi, hj, hk => by
  obtain ⟨k, rfl⟩ : ∃ m, k = m + 1 := ⟨k - 1, by omega⟩
  simp only [laws_toRobotS.l0]
  rw [if_neg (by omega)]
  congr 1
  apply List.ext_getElem?
  intro j
  rcases Nat.lt_or_ge j l.length with h | h
  ·exact hj j (by omega)
  ·rw [List.getElem?_eq_none (by omega), List.getElem?_eq_none (by simp; omega)]
 | d + 1, i, k, out, ho, hi, hj, hk => by
  obtain ⟨k, rfl⟩ : ∃ m, k = m + 1 := ⟨k - 1, by omega⟩
  simp only [laws_toRobotS.l0, laws_toRobot.f, Option.bind_some]
  rw [if_pos (by omega), if_pos (by omega), if_pos (by omega), w64 (by omega) (by omega), show ((i : Int) + 1) = ((i + 1 : Nat) : Int) by omega]
  refine toRobotS_l0 l hn d (i + 1) k _ (by simpa using ho) (by omega) (fun j hji => ?_) (by omega)
  rw [Int.toNat_natCast, rdL_get l i (by omega), List.getElem?_set]
  by_cases e : i = j
  ·subst e
   rw [if_pos rfl, if_pos (by omega), List.getElem?_map, List.getElem?_eq_getElem (by omega)]
   rfl
  ·rw [if_neg e]
   exact hj j (by omega)
theorem toRobotS_ev (l : List RL) (hn : l.length ≤ 1048576) : ∃ K, ∀ k, K ≤ k → laws_toRobotS.f k l = some (l.map toR) := by
 refine ⟨l.length + 1, fun k hk => ?_⟩
 unfold laws_toRobotS.f
 rw [if_pos (by omega), if_pos (by omega)]
 exact toRobotS_l0 l hn l.length 0 k _ (by simp) (by omega) (fun j hj => absurd hj (Nat.not_lt_zero _)) (by omega)
theorem eqRobotS_l0 (a : List RI) (hn : a.length ≤ 9223372036854775807) : ∀ (d i k : Nat), i + d = a.length → d < k → laws_eqRobotS.l0 k a a (i : Int) = some true
 | 0, i, k, hi, hk => by
  obtain ⟨k, rfl⟩ : ∃ m, k = m + 1 := ⟨k - 1, by omega⟩
  simp only [laws_eqRobotS.l0]
  rw [if_neg (by omega)]
 | d + 1, i, k, hi, hk => by
  obtain ⟨k, rfl⟩ : ∃ m, k = m + 1 := ⟨k - 1, by omega⟩
  simp only [laws_eqRobotS.l0, laws_eqRobot.f]
  rw [if_pos (by omega), if_pos (by omega), if_pos (by omega), w64 (by omega) (by omega), show ((i : Int) + 1) = ((i + 1 : Nat) : Int) by omega]
  simp only [bne_self_eq_false, Bool.false_eq_true, if_true, if_false, Option.bind_some]
  exact eqRobotS_l0 a hn d (i + 1) k (by omega) (by omega)
theorem eqRobotS_ev (a : List RI) (hn : a.length ≤ 9223372036854775807) : ∃ K, ∀ k, K ≤ k → laws_eqRobotS.f k a a = some true := by
 refine ⟨a.length + 1, fun k hk => ?_⟩
 unfold laws_eqRobotS.f
 rw [if_pos rfl]
 exact eqRobotS_l0 a hn a.length 0 k (by omega) (by omega)
end Go.Proofs.Ytkbbeenjbkmamaa.Pure
/- The number of the first robot that holds a cell: the reference. -/
namespace Go.Proofs.Ytkbbeenjbkmamaa.Pure
open Go.RowKit Go.Proofs.Ytkbbeenjbkmamaa.Q Go.Proofs.YtkbbeenjbkmamaaW.PrintWords Go.Proofs.YtkbbeenjbkmamaaW.PrintLast
def holder (c : Int) : List RI → Int
 | [] => -1
 | x :: xs => if 0 ≤ c ∧ (x.f1 = c ∨ x.f2 = c) then x.f0 else holder c xs
theorem holder_neg (c : Int) (h : ¬ 0 ≤ c) : ∀ l : List RI, holder c l = -1
 | [] => rfl
 | x :: xs => by unfold holder; rw [if_neg (fun e => h e.1)]; exact holder_neg c h xs
theorem specHolder_l0 (l : List RI) (c : Int) (hn : l.length ≤ 9223372036854775807) : ∀ (d i k : Nat), i + d = l.length → 2 * d + 1 < k → spec_HolderOf.l0 k l c (i : Int) = some (holder c (l.drop i))
 | 0, i, k, hi, hk => by
  obtain ⟨k, rfl⟩ : ∃ m, k = m + 2 := ⟨k - 2, by omega⟩
  simp only [spec_HolderOf.l0, spec_HolderOf.j1]
  rw [if_neg (by omega), List.drop_of_length_le (by omega)]
  rfl
 | d + 1, i, k, hi, hk => by
  obtain ⟨k, rfl⟩ : ∃ m, k = m + 2 := ⟨k - 2, by omega⟩
  simp only [spec_HolderOf.l0, spec_HolderOf.j1]
  rw [if_pos (by omega)]
  by_cases hc : 0 ≤ c
  ·rw [if_pos (by simpa using hc), if_pos (by omega), if_pos (by omega), rdI_get l i (by omega), drop_cons l i (by omega), holder]
   by_cases e1 : (l[i]'(by omega)).f1 = c
   ·rw [if_pos e1, if_pos ⟨hc, .inl e1⟩]
   ·rw [if_neg e1]
    by_cases e2 : (l[i]'(by omega)).f2 = c
    ·rw [if_pos e2, if_pos ⟨hc, .inr e2⟩]
    ·rw [if_neg e2, if_neg (fun e => e.2.elim e1 e2), w64 (by omega) (by omega), show ((i : Int) + 1) = ((i + 1 : Nat) : Int) by omega, specHolder_l0 l c hn d (i + 1) k (by omega) (by omega)]
  ·rw [if_neg (by simpa using hc), holder_neg c hc]
end Go.Proofs.Ytkbbeenjbkmamaa.Pure
/- A number between two others. -/
namespace Go.Proofs.Ytkbbeenjbkmamaa.Pure
open Go.RowKit Go.Proofs.Ytkbbeenjbkmamaa.Q Go.Proofs.YtkbbeenjbkmamaaW.PrintWords Go.Proofs.YtkbbeenjbkmamaaW.PrintLast
theorem l01In_eq (a b c : Int) : spec_l01In.f a b c = some (decide (b ≤ a ∧ a ≤ c)) := by
 unfold spec_l01In.f
 by_cases h : a ≥ b
 ·rw [if_pos h]; congr 1; exact decide_eq_decide.mpr ⟨fun h2 => ⟨h, h2⟩, fun h2 => h2.2⟩
 ·rw [if_neg h, decide_eq_false (fun h2 => h h2.1)]
end Go.Proofs.Ytkbbeenjbkmamaa.Pure
/- Grids: what the program and the reference call right, and a free cell. -/
namespace Go.Proofs.Ytkbbeenjbkmamaa.Pure
open Go.RowKit Go.Proofs.Ytkbbeenjbkmamaa.Q Go.Proofs.YtkbbeenjbkmamaaW.PrintWords Go.Proofs.YtkbbeenjbkmamaaW.PrintLast
def Kind (c : Int) : Prop := c = 46 ∨ c = 35 ∨ (97 ≤ c ∧ c ≤ 102) ∨ (65 ≤ c ∧ c ≤ 70)
theorem kind_eq (c : Int) : ∃ b, spec_l02Kind.f c = some b ∧ (b = true ↔ Kind c) := by
 unfold spec_l02Kind.f Kind
 by_cases h1 : c = 46
 ·exact ⟨true, by rw [if_pos h1], by simp [h1]⟩
 ·by_cases h2 : c = 35
  ·exact ⟨true, by rw [if_neg h1, if_pos h2], by simp [h2]⟩
  ·by_cases h3 : c ≥ 97
   ·by_cases h4 : c ≤ 102
    ·exact ⟨true, by rw [if_neg h1, if_neg h2, if_pos h3, if_pos h4], ⟨fun _ => by omega, fun _ => rfl⟩⟩
    ·refine ⟨decide (c ≤ 70), by rw [if_neg h1, if_neg h2, if_pos h3, if_neg h4, if_pos (by omega)], ⟨fun h => (by have := of_decide_eq_true h; omega), fun h => decide_eq_true (by omega)⟩⟩
   ·by_cases h5 : c ≥ 65
    ·exact ⟨decide (c ≤ 70), by rw [if_neg h1, if_neg h2, if_neg h3, if_pos h5], ⟨fun h => (by have := of_decide_eq_true h; omega), fun h => decide_eq_true (by omega)⟩⟩
    ·exact ⟨false, by rw [if_neg h1, if_neg h2, if_neg h3, if_neg h5], ⟨fun h => (by cases h), fun h => (by omega)⟩⟩
def Gok (a b : Int) (s : ByteArray) : Prop := 1 ≤ a ∧ a ≤ 8 ∧ 1 ≤ b ∧ b ≤ 8 ∧ (s.size : Int) = a * b ∧ ∀ i : Nat, i < s.size → Kind (bt s (i : Int))
theorem Gok_size {a b : Int} {s : ByteArray} (h : Gok a b s) : s.size ≤ 64 := by
 obtain ⟨h1, h2, h3, h4, h5, _⟩ := h
 have : a * b ≤ 8 * 8 := Int.mul_le_mul h2 h4 (by omega) (by omega)
 omega
theorem implKind_eq (c : Int) (b : Bool) (hb : b = true ↔ Kind c) (X : Option Bool) : (if c = 46 then X else (if c = 35 then X else (if c < 97 then (if c < 65 then (some false) else (if c > 70 then (some false) else X)) else (if c > 102 then (if c < 65 then (some false) else (if c > 70 then (some false) else X)) else X)))) = (if b = true then X else some false) := by
 unfold Kind at hb
 cases b with
 | true =>
  have h := hb.mp rfl
  rw [if_pos rfl]
  repeat' split
  all_goals first | rfl | (exfalso; omega)
 | false =>
  have h : ¬ (c = 46 ∨ c = 35 ∨ (97 ≤ c ∧ c ≤ 102) ∨ (65 ≤ c ∧ c ≤ 70)) := fun h => absurd (hb.mpr h) Bool.false_ne_true
  rw [if_neg Bool.false_ne_true]
  repeat' split
  all_goals first | rfl | (exfalso; omega)
theorem gridOk_l0 (a b : Int) (s : ByteArray) (hs : s.size ≤ 1048576) : ∀ (d i : Nat), i + d = s.size → ∃ g K, (∀ k, K ≤ k → spec_GridOk.l0 k (i : Int) a b s = some g ∧ impl_GridOk.l0 k (i : Int) a b s = some g) ∧ (g = true ↔ ∀ j : Nat, i ≤ j → j < s.size → Kind (bt s (j : Int)))
 | 0, i, hi => by
  refine ⟨true, 1, fun k hk => ?_, ⟨fun _ j h1 h2 => by omega, fun _ => rfl⟩⟩
  obtain ⟨k, rfl⟩ : ∃ m, k = m + 1 := ⟨k - 1, by omega⟩
  have e1 : ¬ (i : Int) < (s.size : Int) := by omega
  simp only [spec_GridOk.l0, impl_GridOk.l0, e1, reduceIte, and_self]
 | d + 1, i, hi => by
  obtain ⟨g, K, h, hg⟩ := gridOk_l0 a b s hs d (i + 1) (by omega)
  have e1 : (i : Int) < (s.size : Int) := by omega
  have e2 : (0 : Int) ≤ i := by omega
  have e9 : wrap64 ((i : Int) + 1) = ((i + 1 : Nat) : Int) := by rw [w64 (by omega) (by omega)]; rfl
  obtain ⟨q, hq, hqk⟩ := kind_eq (bt s (i : Int))
  have hstep : (∀ j : Nat, i ≤ j → j < s.size → Kind (bt s (j : Int))) ↔ Kind (bt s (i : Int)) ∧ ∀ j : Nat, i + 1 ≤ j → j < s.size → Kind (bt s (j : Int)) := by
   constructor
   ·exact fun h => ⟨h i (Nat.le_refl _) (by omega), fun j h1 h2 => h j (by omega) h2⟩
   ·rintro ⟨h0, h⟩ j h1 h2
    rcases Nat.eq_or_lt_of_le h1 with e | e
    ·subst e; exact h0
    ·exact h j e h2
  rw [hstep]
  cases q with
  | true =>
   refine ⟨g, K + 1, fun k hk => ?_, by rw [hg]; exact ⟨fun h => ⟨hqk.mp rfl, h⟩, fun h => h.2⟩⟩
   obtain ⟨k, rfl⟩ : ∃ m, k = m + 1 := ⟨k - 1, by omega⟩
   obtain ⟨q1, q2⟩ := h k (by omega)
   simp only [spec_GridOk.l0, impl_GridOk.l0]
   rw [if_pos e1, if_pos e2, if_pos e1, if_pos e2, hq, e9, implKind_eq _ true hqk]
   simp only [Option.bind_some, reduceIte]
   exact ⟨q1, q2⟩
  | false =>
   refine ⟨false, 1, fun k hk => ?_, ⟨fun h => (by cases h), fun h => absurd (hqk.mpr h.1) (by decide)⟩⟩
   obtain ⟨k, rfl⟩ : ∃ m, k = m + 1 := ⟨k - 1, by omega⟩
   simp only [spec_GridOk.l0, impl_GridOk.l0]
   rw [if_pos e1, if_pos e2, if_pos e1, if_pos e2, hq, e9, implKind_eq _ false hqk]
   simp only [Option.bind_some, Bool.false_eq_true, reduceIte, and_self]
theorem gridOk_ev (a b : Int) (s : ByteArray) (hs : s.size ≤ 1048576) : ∃ g K, (∀ k, K ≤ k → spec_GridOk.f k a b s = some g ∧ impl_GridOk.f k a b s = some g) ∧ (g = true ↔ Gok a b s) := by
 obtain ⟨g, K, h, hg⟩ := gridOk_l0 a b s hs s.size 0 (by omega)
 by_cases ha : 1 ≤ a ∧ a ≤ 8
 ·by_cases hb : 1 ≤ b ∧ b ≤ 8
  ·have hm : wrap64 (a * b) = a * b := by
    have h1 : a * b ≤ 8 * 8 := Int.mul_le_mul ha.2 hb.2 (by omega) (by omega)
    have h2 : 0 ≤ a * b := Int.mul_nonneg (by omega) (by omega)
    exact w64 (by omega) (by omega)
   have a1 : ¬ a < 1 := by omega
   have a2 : ¬ a > 8 := by omega
   have b1 : ¬ b < 1 := by omega
   have b2 : ¬ b > 8 := by omega
   by_cases hsz : (s.size : Int) = a * b
   ·have e : ((s.size : Int) != wrap64 (a * b)) = false := by rw [hm]; simp [hsz]
    refine ⟨g, K + 1, fun k hk => ?_, ?_⟩
    ·obtain ⟨k, rfl⟩ : ∃ m, k = m + 1 := ⟨k - 1, by omega⟩
     unfold spec_GridOk.f impl_GridOk.f
     simp only [l01In_eq, ha, hb, a1, a2, b1, b2, e, and_self, decide_true, Option.bind_some, reduceIte]
     simp only [spec_GridOk.j0, impl_GridOk.j0, Bool.false_eq_true, reduceIte]
     exact h k (by omega)
    ·rw [hg]
     exact ⟨fun h => ⟨ha.1, ha.2, hb.1, hb.2, hsz, fun i hi => h i (Nat.zero_le _) hi⟩, fun h j _ hj => h.2.2.2.2.2 j hj⟩
   ·have e : ((s.size : Int) != wrap64 (a * b)) = true := by rw [hm]; simp [hsz]
    refine ⟨false, 1, fun k hk => ?_, ⟨fun h => (by cases h), fun h => absurd h.2.2.2.2.1 hsz⟩⟩
    obtain ⟨k, rfl⟩ : ∃ m, k = m + 1 := ⟨k - 1, by omega⟩
    unfold spec_GridOk.f impl_GridOk.f
    simp only [l01In_eq, ha, hb, a1, a2, b1, b2, e, and_self, decide_true, Option.bind_some, reduceIte]
    simp only [spec_GridOk.j0, impl_GridOk.j0, reduceIte, and_self]
  ·refine ⟨false, 1, fun k hk => ?_, ⟨fun h => (by cases h), fun h => absurd ⟨h.2.2.1, h.2.2.2.1⟩ hb⟩⟩
   obtain ⟨k, rfl⟩ : ∃ m, k = m + 1 := ⟨k - 1, by omega⟩
   have a1 : ¬ a < 1 := by omega
   have a2 : ¬ a > 8 := by omega
   unfold spec_GridOk.f impl_GridOk.f
   simp only [l01In_eq, ha, hb, a1, a2, and_self, decide_true, decide_false, Option.bind_some, Bool.false_eq_true, reduceIte]
   by_cases b1 : b < 1
   ·simp only [b1, spec_GridOk.j0, impl_GridOk.j0, reduceIte, and_self]
   ·have b2 : b > 8 := by omega
    simp only [b1, b2, spec_GridOk.j0, impl_GridOk.j0, reduceIte, and_self]
 ·refine ⟨false, 1, fun k hk => ?_, ⟨fun h => (by cases h), fun h => absurd ⟨h.1, h.2.1⟩ ha⟩⟩
  obtain ⟨k, rfl⟩ : ∃ m, k = m + 1 := ⟨k - 1, by omega⟩
  unfold spec_GridOk.f impl_GridOk.f
  simp only [l01In_eq, ha, decide_false, Option.bind_some, Bool.false_eq_true, reduceIte]
  by_cases a1 : a < 1
  ·simp only [a1, spec_GridOk.j0, impl_GridOk.j0, reduceIte, and_self]
  ·have a2 : a > 8 := by omega
   simp only [a1, a2, spec_GridOk.j0, impl_GridOk.j0, reduceIte, and_self]
def Fr (s : ByteArray) (c : Int) : Prop := 0 ≤ c ∧ c < (s.size : Int) ∧ bt s c ≠ 35
instance (s : ByteArray) (c : Int) : Decidable (Fr s c) := by unfold Fr; exact inferInstance
theorem fr_nest (s : ByteArray) (c : Int) : (if c ≥ 0 then (if c < (s.size : Int) then (if 0 ≤ c then (some ((bt s c) != 35)) else (none)) else (some false)) else (some false)) = some (decide (Fr s c)) := by
 by_cases h1 : c ≥ 0
 ·by_cases h2 : c < (s.size : Int)
  ·rw [if_pos h1, if_pos h2, if_pos h1]
   by_cases h3 : bt s c = 35
   ·rw [decide_eq_false (fun h : Fr s c => h.2.2 h3), h3]; rfl
   ·rw [decide_eq_true (show Fr s c from ⟨h1, h2, h3⟩)]
    congr 1
    simpa using h3
  ·rw [if_pos h1, if_neg h2, decide_eq_false (fun h : Fr s c => h2 h.2.1)]
 ·rw [if_neg h1, decide_eq_false (fun h : Fr s c => h1 h.1)]
theorem isFree_eq (a b : Int) (s : ByteArray) (c : Int) : impl_isFree.f a b s c = some (decide (Fr s c)) := fr_nest s c
theorem specFreeAt_ev (a b : Int) (s : ByteArray) (hs : s.size ≤ 1048576) (c : Int) : ∃ g K, (∀ k, K ≤ k → spec_FreeAt.f k a b s c = some g) ∧ (g = true ↔ Gok a b s ∧ Fr s c) := by
 obtain ⟨g, K, h, hg⟩ := gridOk_ev a b s hs
 cases g with
 | false =>
  refine ⟨false, K, fun k hk => ?_, ⟨fun h => (by cases h), fun h2 => absurd (hg.mpr h2.1) (by decide)⟩⟩
  unfold spec_FreeAt.f
  rw [(h k hk).1]
  rfl
 | true =>
  refine ⟨decide (Fr s c), K, fun k hk => ?_, ⟨fun h => ⟨hg.mp rfl, of_decide_eq_true h⟩, fun h => decide_eq_true h.2⟩⟩
  unfold spec_FreeAt.f
  rw [(h k hk).1]
  simp only [Option.bind_some, reduceIte, isFree_eq]
  exact fr_nest s c
end Go.Proofs.Ytkbbeenjbkmamaa.Pure
/- The cells around a cell: what the program's and the reference's lists hold. -/
namespace Go.Proofs.Ytkbbeenjbkmamaa.Pure
open Go.RowKit Go.Proofs.Ytkbbeenjbkmamaa.Q Go.Proofs.YtkbbeenjbkmamaaW.PrintWords Go.Proofs.YtkbbeenjbkmamaaW.PrintLast
def Adj (a : Int) (s : ByteArray) (c x : Int) : Prop := Fr s c ∧ Fr s x ∧ (x = c - a ∨ (x = c - 1 ∧ 0 < c % a) ∨ (x = c + 1 ∧ c % a < a - 1) ∨ x = c + a)
theorem Fr_lt {s : ByteArray} {c : Int} (h : Fr s c) : 0 ≤ c ∧ c < (s.size : Int) := ⟨h.1, h.2.1⟩
theorem around_j3 (a b : Int) (s : ByteArray) (c : Int) (l : List Int) (t : Bool) (hc : 0 ≤ c) (hc1 : c ≤ 64) (ha : 1 ≤ a) (ha1 : a ≤ 8) (hl : l.length ≤ 10) (k : Nat) :
  impl_around.j3 (k + 1) c l t a b s = some (l ++ (if t = true then [c + 1] else []) ++ (if Fr s (c + a) then [c + a] else [])) := by
 have e1 : wrap64 (c + 1) = c + 1 := w64 (by omega) (by omega)
 have e2 : wrap64 (c + a) = c + a := w64 (by omega) (by omega)
 cases t with
 | true =>
  simp only [impl_around.j3, if_pos, e1, e2, isFree_eq, Option.bind_some, if_pos (show l.length < 17592186044416 by omega)]
  by_cases h : Fr s (c + a)
  ·rw [decide_eq_true h, if_pos rfl, if_pos h, if_pos (by simp; omega)]
  ·rw [decide_eq_false h, if_neg h]; simp
 | false =>
  simp only [impl_around.j3, Bool.false_eq_true, if_false, e1, e2, isFree_eq, Option.bind_some]
  by_cases h : Fr s (c + a)
  ·rw [decide_eq_true h, if_pos rfl, if_pos h, if_pos (by omega)]; simp
  ·rw [decide_eq_false h, if_neg h]; simp
theorem around_j2 (a b : Int) (s : ByteArray) (c : Int) (l : List Int) (hc : 0 ≤ c) (hc1 : c ≤ 64) (ha : 1 ≤ a) (ha1 : a ≤ 8) (hl : l.length ≤ 10) (k : Nat) :
  impl_around.j2 (k + 2) c l a b s = some (l ++ (if c % a < a - 1 ∧ Fr s (c + 1) then [c + 1] else []) ++ (if Fr s (c + a) then [c + a] else [])) := by
 have e1 : wrap64 (c + 1) = c + 1 := w64 (by omega) (by omega)
 have e2 : wrap64 (a - 1) = a - 1 := w64 (by omega) (by omega)
 have e3 : Int.tmod c a = c % a := Int.tmod_eq_emod_of_nonneg hc
 rw [impl_around.j2, if_neg (by omega), e1, e2, e3]
 by_cases h : c % a < a - 1
 ·rw [if_pos h, isFree_eq, Option.bind_some, around_j3 a b s c l _ hc hc1 ha ha1 hl]
  simp [h]
 ·rw [if_neg h, around_j3 a b s c l _ hc hc1 ha ha1 hl]
  simp [h]
theorem around_j1 (a b : Int) (s : ByteArray) (c : Int) (l : List Int) (t : Bool) (hc : 0 ≤ c) (hc1 : c ≤ 64) (ha : 1 ≤ a) (ha1 : a ≤ 8) (hl : l.length ≤ 4) (k : Nat) :
  impl_around.j1 (k + 3) c l t a b s = some (l ++ (if t = true then [c - 1] else []) ++ (if c % a < a - 1 ∧ Fr s (c + 1) then [c + 1] else []) ++ (if Fr s (c + a) then [c + a] else [])) := by
 have e1 : wrap64 (c - 1) = c - 1 := w64 (by omega) (by omega)
 rw [impl_around.j1, e1]
 cases t with
 | true =>
  rw [if_pos rfl, if_pos (by omega), around_j2 a b s c _ hc hc1 ha ha1 (by simp; omega)]
  simp
 | false =>
  rw [if_neg (by decide), around_j2 a b s c _ hc hc1 ha ha1 (by omega)]
  simp
theorem around_j0 (a b : Int) (s : ByteArray) (c : Int) (l : List Int) (hc : 0 ≤ c) (hc1 : c ≤ 64) (ha : 1 ≤ a) (ha1 : a ≤ 8) (hl : l.length ≤ 4) (k : Nat) :
  impl_around.j0 (k + 4) c l a b s = some (l ++ (if 0 < c % a ∧ Fr s (c - 1) then [c - 1] else []) ++ (if c % a < a - 1 ∧ Fr s (c + 1) then [c + 1] else []) ++ (if Fr s (c + a) then [c + a] else [])) := by
 have e1 : wrap64 (c - 1) = c - 1 := w64 (by omega) (by omega)
 have e3 : Int.tmod c a = c % a := Int.tmod_eq_emod_of_nonneg hc
 rw [impl_around.j0, if_neg (by omega), e1, e3]
 by_cases h : c % a > 0
 ·rw [if_pos h, isFree_eq, Option.bind_some, around_j1 a b s c l _ hc hc1 ha ha1 hl]
  simp [h]
 ·rw [if_neg h, around_j1 a b s c l _ hc hc1 ha ha1 hl]
  simp [show ¬ 0 < c % a from h]
theorem mem_opt {x y : Int} (p : Prop) [Decidable p] : x ∈ (if p then [y] else []) ↔ p ∧ x = y := by
 by_cases h : p <;> simp [h]
theorem implAround_ev (a b : Int) (s : ByteArray) (hG : Gok a b s) (c : Int) (hc : Fr s c) : ∃ ns K, (∀ k, K ≤ k → impl_around.f k a b s c = some ns) ∧ (∀ x, x ∈ ns ↔ Adj a s c x) ∧ ns.length ≤ 4 := by
 have hs := Gok_size hG
 obtain ⟨a0, a1, b0, b1, hab, _⟩ := hG
 obtain ⟨c0, c1⟩ := Fr_lt hc
 have e1 : wrap64 (c - a) = c - a := w64 (by omega) (by omega)
 refine ⟨(if Fr s (c - a) then [c - a] else []) ++ (if 0 < c % a ∧ Fr s (c - 1) then [c - 1] else []) ++ (if c % a < a - 1 ∧ Fr s (c + 1) then [c + 1] else []) ++ (if Fr s (c + a) then [c + a] else []), 4, fun k hk => ?_, fun x => ?_, ?_⟩
 ·obtain ⟨k, rfl⟩ : ∃ m, k = m + 4 := ⟨k - 4, by omega⟩
  unfold impl_around.f
  rw [isFree_eq, Option.bind_some, decide_eq_true hc, if_pos rfl, e1, isFree_eq, Option.bind_some]
  by_cases h : Fr s (c - a)
  ·rw [decide_eq_true h, if_pos rfl, if_pos (by simp), around_j0 a b s c _ c0 (by omega) a0 a1 (by simp), if_pos h]; simp
  ·rw [decide_eq_false h, if_neg (by decide), around_j0 a b s c _ c0 (by omega) a0 a1 (by simp), if_neg h]
 ·simp only [List.mem_append, mem_opt]
  unfold Adj
  constructor
  ·rintro (((⟨h, rfl⟩ | ⟨⟨h1, h⟩, rfl⟩) | ⟨⟨h1, h⟩, rfl⟩) | ⟨h, rfl⟩)
   ·exact ⟨hc, h, .inl rfl⟩
   ·exact ⟨hc, h, .inr (.inl ⟨rfl, h1⟩)⟩
   ·exact ⟨hc, h, .inr (.inr (.inl ⟨rfl, h1⟩))⟩
   ·exact ⟨hc, h, .inr (.inr (.inr rfl))⟩
  ·rintro ⟨_, h, (rfl | ⟨rfl, h1⟩ | ⟨rfl, h1⟩ | rfl)⟩
   ·exact .inl (.inl (.inl ⟨h, rfl⟩))
   ·exact .inl (.inl (.inr ⟨⟨h1, h⟩, rfl⟩))
   ·exact .inl (.inr ⟨⟨h1, h⟩, rfl⟩)
   ·exact .inr ⟨h, rfl⟩
 ·by_cases h1 : Fr s (c - a) <;> by_cases h2 : 0 < c % a ∧ Fr s (c - 1) <;> by_cases h3 : c % a < a - 1 ∧ Fr s (c + 1) <;> by_cases h4 : Fr s (c + a) <;> simp [h1, h2, h3, h4]
theorem cellAt_ev (a b : Int) (s : ByteArray) (hG : Gok a b s) (x y : Int) (hx : -10 ≤ x ∧ x ≤ 100) (hy : -10 ≤ y ∧ y ≤ 100) : ∃ K, ∀ k, K ≤ k → spec_CellAt.f k a b s x y = some (if (0 ≤ x ∧ x ≤ a - 1) ∧ (0 ≤ y ∧ y ≤ b - 1) then y * a + x else -1) := by
 have hs := Gok_size hG
 obtain ⟨g0, K0, h0, q0⟩ := gridOk_ev a b s (by omega)
 obtain rfl := q0.mpr hG
 obtain ⟨a0, a1, b0, b1, hab, _⟩ := hG
 refine ⟨K0, fun k hk => ?_⟩
 unfold spec_CellAt.f
 rw [(h0 k hk).1, Option.bind_some, if_pos rfl, w64 (by omega) (by omega), w64 (by omega) (by omega), l01In_eq, Option.bind_some]
 by_cases h1 : 0 ≤ x ∧ x ≤ a - 1
 ·rw [decide_eq_true h1, if_pos rfl, l01In_eq, Option.bind_some]
  by_cases h2 : 0 ≤ y ∧ y ≤ b - 1
  ·have hp0 : 0 ≤ y * a := Int.mul_nonneg h2.1 (by omega)
   have hp1 : y * a ≤ 7 * 8 := Int.mul_le_mul (by omega) a1 (by omega) (by omega)
   rw [decide_eq_true h2, if_pos rfl, if_pos ⟨h1, h2⟩, w64 (x := y * a) (by omega) (by omega), w64 (by omega) (by omega)]
  ·rw [decide_eq_false h2, if_neg (by decide), if_neg (fun h => h2 h.2)]
 ·rw [decide_eq_false h1, if_neg (by decide), if_neg (fun h => h1 h.1)]
theorem around_l0 (a b : Int) (s : ByteArray) (hG : Gok a b s) (v : List Int) (hv : v.length = 4) : ∀ (d i : Nat) (acc : List Int), i + d = 4 → acc.length ≤ 10 - d → ∃ K, ∀ k, K ≤ k → spec_Around.l0 k acc v (i : Int) a b s = some (acc ++ (v.drop i).filter (fun x => decide (Fr s x)))
 | 0, i, acc, hi, _ => by
  refine ⟨1, fun k hk => ?_⟩
  obtain ⟨k, rfl⟩ : ∃ m, k = m + 1 := ⟨k - 1, by omega⟩
  rw [spec_Around.l0, if_neg (by omega), List.drop_of_length_le (by omega)]; simp
 | d + 1, i, acc, hi, hl => by
  have hs := Gok_size hG
  obtain ⟨g, K1, h1, q1⟩ := specFreeAt_ev a b s (by omega) (rd v (i : Int))
  have e : wrap64 ((i : Int) + 1) = ((i + 1 : Nat) : Int) := by rw [w64 (by omega) (by omega)]; rfl
  by_cases hf : Fr s (rd v (i : Int))
  ·obtain rfl := q1.mpr ⟨hG, hf⟩
   obtain ⟨K2, h2⟩ := around_l0 a b s hG v hv d (i + 1) (acc ++ [rd v (i : Int)]) (by omega) (by simp; omega)
   refine ⟨K1 + K2 + 1, fun k hk => ?_⟩
   obtain ⟨k, rfl⟩ : ∃ m, k = m + 1 := ⟨k - 1, by omega⟩
   rw [spec_Around.l0, if_pos (by omega), if_pos (by omega), if_pos (by omega), h1 k (by omega), Option.bind_some, if_pos rfl, if_pos (by omega), e, h2 k (by omega), drop_cons v i (by omega), List.filter_cons_of_pos (by rw [← rd_get v i (by omega)]; exact decide_eq_true hf), rd_get v i (by omega)]
   simp
  ·have hg : g = false := by
    cases g with
    | false => rfl
    | true => exact absurd (q1.mp rfl).2 hf
   subst hg
   obtain ⟨K2, h2⟩ := around_l0 a b s hG v hv d (i + 1) acc (by omega) (by omega)
   refine ⟨K1 + K2 + 1, fun k hk => ?_⟩
   obtain ⟨k, rfl⟩ : ∃ m, k = m + 1 := ⟨k - 1, by omega⟩
   rw [spec_Around.l0, if_pos (by omega), if_pos (by omega), if_pos (by omega), h1 k (by omega), Option.bind_some, if_neg (by decide), e, h2 k (by omega), drop_cons v i (by omega), List.filter_cons_of_neg (by rw [← rd_get v i (by omega)]; simpa using hf)]
theorem specAround_ev (a b : Int) (s : ByteArray) (hG : Gok a b s) (c : Int) (hc : Fr s c) : ∃ ns K, (∀ k, K ≤ k → spec_Around.f k a b s c = some ns) ∧ (∀ x, x ∈ ns ↔ Adj a s c x) ∧ ns.length ≤ 4 := by
 have hs := Gok_size hG
 obtain ⟨g0, K0, h0, q0⟩ := gridOk_ev a b s (by omega)
 obtain rfl := q0.mpr hG
 obtain ⟨g1, K1, h1, q1⟩ := specFreeAt_ev a b s (by omega) c
 obtain rfl := q1.mpr ⟨hG, hc⟩
 obtain ⟨a0, a1, b0, b1, hab, _⟩ := id hG
 obtain ⟨c0, c1⟩ := Fr_lt hc
 have m0 := Int.emod_nonneg c (show a ≠ 0 by omega)
 have m1 := Int.emod_lt_of_pos c (show 0 < a by omega)
 have y0 := Int.ediv_nonneg c0 (show 0 ≤ a by omega)
 have y1 : c / a < b := Int.ediv_lt_of_lt_mul (by omega) (by rw [Int.mul_comm]; omega)
 have hd : c / a * a + c % a = c := by rw [Int.mul_comm]; exact Int.mul_ediv_add_emod c a
 have e1 : Int.tmod c a = c % a := Int.tmod_eq_emod_of_nonneg c0
 have e2 : Int.tdiv c a = c / a := Int.tdiv_eq_ediv_of_nonneg c0
 have hsp : ∀ k, K0 ≤ k → spec_SpotOf.f k a b s c = some (c % a, c / a) := fun k hk => by
  unfold spec_SpotOf.f
  rw [(h0 k hk).1, Option.bind_some, if_pos rfl, if_neg (by omega), if_neg (by omega), if_neg (by omega), e1, e2, w64 (by omega) (by omega)]
 generalize hX : c % a = X at *
 generalize hY : c / a = Y at *
 have w1 : wrap64 (Y - 1) = Y - 1 := w64 (by omega) (by omega)
 have w2 : wrap64 (X - 1) = X - 1 := w64 (by omega) (by omega)
 have w3 : wrap64 (X + 1) = X + 1 := w64 (by omega) (by omega)
 have w4 : wrap64 (Y + 1) = Y + 1 := w64 (by omega) (by omega)
 obtain ⟨K2, h2⟩ := cellAt_ev a b s hG X (Y - 1) (by omega) (by omega)
 obtain ⟨K3, h3⟩ := cellAt_ev a b s hG (X - 1) Y (by omega) (by omega)
 obtain ⟨K4, h4⟩ := cellAt_ev a b s hG (X + 1) Y (by omega) (by omega)
 obtain ⟨K5, h5⟩ := cellAt_ev a b s hG X (Y + 1) (by omega) (by omega)
 generalize hv1 : (if (0 ≤ X ∧ X ≤ a - 1) ∧ (0 ≤ Y - 1 ∧ Y - 1 ≤ b - 1) then (Y - 1) * a + X else -1) = v1 at h2
 generalize hv2 : (if (0 ≤ X - 1 ∧ X - 1 ≤ a - 1) ∧ (0 ≤ Y ∧ Y ≤ b - 1) then Y * a + (X - 1) else -1) = v2 at h3
 generalize hv3 : (if (0 ≤ X + 1 ∧ X + 1 ≤ a - 1) ∧ (0 ≤ Y ∧ Y ≤ b - 1) then Y * a + (X + 1) else -1) = v3 at h4
 generalize hv4 : (if (0 ≤ X ∧ X ≤ a - 1) ∧ (0 ≤ Y + 1 ∧ Y + 1 ≤ b - 1) then (Y + 1) * a + X else -1) = v4 at h5
 obtain ⟨K6, h6⟩ := around_l0 a b s hG [v1, v2, v3, v4] rfl 4 0 [] rfl (by simp)
 refine ⟨[v1, v2, v3, v4].filter (fun x => decide (Fr s x)), K0 + K1 + K2 + K3 + K4 + K5 + K6, fun k hk => ?_, fun x => ?_, List.length_filter_le _ _⟩
 ·unfold spec_Around.f
  rw [Option.bind_some, h1 k (by omega), Option.bind_some, if_pos rfl, hsp k (by omega), Option.bind_some]
  simp only [w1, w2, w3, w4]
  rw [h2 k (by omega), Option.bind_some, h3 k (by omega), Option.bind_some, h4 k (by omega), Option.bind_some, h5 k (by omega), Option.bind_some]
  have := h6 k (by omega)
  rw [List.drop_zero, List.nil_append] at this
  exact this
 ·have hn1 : Fr s (-1) → False := fun h => by have := h.1; omega
  have u1 : Fr s x → (x = v1 ↔ x = c - a) := fun hx => by
   obtain ⟨x0, x1⟩ := Fr_lt hx
   rw [← hv1]
   by_cases hy : Y = 0
   ·have : Y * a = 0 := by rw [hy, Int.zero_mul]
    rw [if_neg (by omega)]
    constructor <;> intro h <;> omega
   ·rw [if_pos (by omega), Int.sub_mul, Int.one_mul]
    constructor <;> intro h <;> omega
  have u2 : Fr s x → (x = v2 ↔ (x = c - 1 ∧ 0 < X)) := fun hx => by
   obtain ⟨x0, x1⟩ := Fr_lt hx
   rw [← hv2]
   by_cases hy : X = 0
   ·rw [if_neg (by omega)]
    constructor <;> intro h <;> omega
   ·rw [if_pos (by omega)]
    constructor <;> intro h <;> omega
  have u3 : Fr s x → (x = v3 ↔ (x = c + 1 ∧ X < a - 1)) := fun hx => by
   obtain ⟨x0, x1⟩ := Fr_lt hx
   rw [← hv3]
   by_cases hy : X = a - 1
   ·rw [if_neg (by omega)]
    constructor <;> intro h <;> omega
   ·rw [if_pos (by omega)]
    constructor <;> intro h <;> omega
  have u4 : Fr s x → (x = v4 ↔ x = c + a) := fun hx => by
   obtain ⟨x0, x1⟩ := Fr_lt hx
   rw [← hv4]
   by_cases hy : Y = b - 1
   ·have : Y * a = a * b - a := by rw [hy, Int.sub_mul, Int.one_mul, Int.mul_comm]
    rw [if_neg (by omega)]
    constructor <;> intro h <;> omega
   ·rw [if_pos (by omega), Int.add_mul, Int.one_mul]
    constructor <;> intro h <;> omega
  rw [List.mem_filter]
  unfold Adj
  rw [hX]
  simp only [List.mem_cons, List.not_mem_nil, or_false, decide_eq_true_eq]
  constructor
  ·rintro ⟨h, hx⟩
   rw [u1 hx, u2 hx, u3 hx, u4 hx] at h
   exact ⟨hc, hx, h⟩
  ·rintro ⟨_, hx, h⟩
   rw [u1 hx, u2 hx, u3 hx, u4 hx]
   exact ⟨h, hx⟩
end Go.Proofs.Ytkbbeenjbkmamaa.Pure
/- Whether a list holds a number: what the reference answers. -/
namespace Go.Proofs.Ytkbbeenjbkmamaa.Pure
open Go.RowKit Go.Proofs.Ytkbbeenjbkmamaa.Q Go.Proofs.YtkbbeenjbkmamaaW.PrintWords Go.Proofs.YtkbbeenjbkmamaaW.PrintLast
theorem has_l0 (l : List Int) (c : Int) (hn : l.length ≤ 9223372036854775807) : ∀ (d i k : Nat), i + d = l.length → d < k → spec_l03Has.l0 k l c (i : Int) = some (decide (c ∈ l.drop i))
 | 0, i, k, hi, hk => by
  obtain ⟨k, rfl⟩ : ∃ m, k = m + 1 := ⟨k - 1, by omega⟩
  simp only [spec_l03Has.l0]
  rw [if_neg (by omega), List.drop_of_length_le (by omega)]
  simp
 | d + 1, i, k, hi, hk => by
  obtain ⟨k, rfl⟩ : ∃ m, k = m + 1 := ⟨k - 1, by omega⟩
  simp only [spec_l03Has.l0]
  rw [if_pos (by omega), if_pos (by omega), rd_get l i (by omega), drop_cons l i (by omega)]
  by_cases e : l[i]'(by omega) = c
  ·rw [if_pos e, decide_eq_true (by simp [e])]
  ·rw [if_neg e, w64 (by omega) (by omega), show ((i : Int) + 1) = ((i + 1 : Nat) : Int) by omega, has_l0 l c hn d (i + 1) k (by omega) (by omega)]
   congr 1
   exact decide_eq_decide.mpr (by simp only [List.mem_cons, Ne.symm e, false_or])
theorem has_eq (l : List Int) (c : Int) (hn : l.length ≤ 9223372036854775807) (k : Nat) (hk : l.length < k) : spec_l03Has.f k l c = some (decide (c ∈ l)) := by
 have := has_l0 l c hn l.length 0 k (by omega) hk
 simpa [spec_l03Has.f] using this
end Go.Proofs.Ytkbbeenjbkmamaa.Pure
/- Plain facts about slices.Index over whole numbers. -/
namespace Go.Proofs.Ytkbbeenjbkmamaa.Pure
open Go.RowKit Go.Proofs.Ytkbbeenjbkmamaa.Q Go.Proofs.YtkbbeenjbkmamaaW.PrintWords Go.Proofs.YtkbbeenjbkmamaaW.PrintLast
def placeFrom (c : Int) : Int → List Int → Int
 | _, [] => -1
 | i, x :: xs => if c = x then i else placeFrom c (i + 1) xs
theorem placeFrom_mem (c : Int) : ∀ (i : Int) (l : List Int), 0 ≤ i → (placeFrom c i l ≥ 0 ↔ c ∈ l)
 | _, [], _ => by simp [placeFrom]
 | i, x :: xs, h => by
  unfold placeFrom
  by_cases e : c = x
  ·rw [if_pos e]; simp [e]; omega
  ·rw [if_neg e, placeFrom_mem c (i + 1) xs (by omega)]; simp [e]
theorem index_l0 (l : List Int) (c : Int) (hn : l.length ≤ 9223372036854775807) : ∀ (d i k : Nat), i + d = l.length → d < k → slices_Index_int_int.l0 k l c (l.length : Int) (i : Int) = some (placeFrom c i (l.drop i))
 | 0, i, k, hi, hk => by
  obtain ⟨k, rfl⟩ : ∃ m, k = m + 1 := ⟨k - 1, by omega⟩
  simp only [slices_Index_int_int.l0]
  rw [if_neg (by omega), List.drop_of_length_le (by omega)]
  rfl
 | d + 1, i, k, hi, hk => by
  obtain ⟨k, rfl⟩ : ∃ m, k = m + 1 := ⟨k - 1, by omega⟩
  simp only [slices_Index_int_int.l0]
  rw [if_pos (by omega), if_pos (by omega), if_pos (by omega), rd_get l i (by omega), drop_cons l i (by omega), placeFrom]
  by_cases e : c = l[i]'(by omega)
  ·rw [if_pos e, if_pos e]
  ·rw [if_neg e, if_neg e, w64 (by omega) (by omega), show ((i : Int) + 1) = ((i + 1 : Nat) : Int) by omega, index_l0 l c hn d (i + 1) k (by omega) (by omega)]
theorem index_eq (l : List Int) (c : Int) (hn : l.length ≤ 9223372036854775807) (k : Nat) (hk : l.length < k) : slices_Index_int_int.f k l c = some (placeFrom c 0 l) := by
 have := index_l0 l c hn l.length 0 k (by omega) hk
 simpa [slices_Index_int_int.f] using this
end Go.Proofs.Ytkbbeenjbkmamaa.Pure
/- Plain facts about slices.Contains over whole numbers. -/
namespace Go.Proofs.Ytkbbeenjbkmamaa.Pure
open Go.RowKit Go.Proofs.Ytkbbeenjbkmamaa.Q Go.Proofs.YtkbbeenjbkmamaaW.PrintWords Go.Proofs.YtkbbeenjbkmamaaW.PrintLast
theorem contains_eq (l : List Int) (c : Int) (hn : l.length ≤ 9223372036854775807) (k : Nat) (hk : l.length < k) : slices_Contains_int_int.f k l c = some (decide (c ∈ l)) := by
 unfold slices_Contains_int_int.f
 rw [index_eq l c hn k hk, Option.bind_some]
 congr 1
 exact decide_eq_decide.mpr (placeFrom_mem c 0 l (by omega))
end Go.Proofs.Ytkbbeenjbkmamaa.Pure
/- Robots that are in order: the reference's walk by holders, the program's by a set of cells. -/
namespace Go.Proofs.Ytkbbeenjbkmamaa.Pure
open Go.RowKit Go.Proofs.Ytkbbeenjbkmamaa.Q Go.Proofs.YtkbbeenjbkmamaaW.PrintWords Go.Proofs.YtkbbeenjbkmamaaW.PrintLast
/-! The set of cells -/
theorem apAll_iff : ∀ (L : List RI) (S : List Int), (∀ x ∈ L, x.f2 ≠ x.f1) → (apAll L S = true ↔ (∀ x ∈ L, ∀ c ∈ apHeld x, c ∉ S) ∧ L.Pairwise (fun y x => ∀ c ∈ apHeld x, c ∉ apHeld y))
 | [], S, _ => by simp [apAll]
 | x :: L, S, hd => by
  have hx : x.f2 ≠ x.f1 := hd x List.mem_cons_self
  have ih := fun S' => apAll_iff L S' (fun z hz => hd z (List.mem_cons_of_mem _ hz))
  have key : ∀ o : Option (List Int), (o = none ∧ ¬ (∀ c ∈ apHeld x, c ∉ S)) ∨ (∃ S', o = some S' ∧ (∀ c ∈ apHeld x, c ∉ S) ∧ ∀ c, c ∈ S' ↔ c ∈ S ∨ c ∈ apHeld x) → (apRest L o = true ↔ (∀ z ∈ x :: L, ∀ c ∈ apHeld z, c ∉ S) ∧ (x :: L).Pairwise (fun y x => ∀ c ∈ apHeld x, c ∉ apHeld y)) := by
   rintro o (⟨rfl, h⟩ | ⟨S', rfl, h, hS⟩)
   ·constructor
    ·intro e; cases e
    ·intro e; exact absurd (e.1 x List.mem_cons_self) h
   ·rw [show apRest L (some S') = apAll L S' from rfl, ih S', List.pairwise_cons]
    constructor
    ·rintro ⟨h1, h2⟩
     refine ⟨fun z hz c hc => ?_, fun z hz c hc => ?_, h2⟩
     ·rcases List.mem_cons.mp hz with e | e
      ·subst e; exact h c hc
      ·exact fun e2 => h1 z e c hc ((hS c).mpr (.inl e2))
     ·exact fun e2 => h1 z hz c hc ((hS c).mpr (.inr e2))
    ·rintro ⟨h1, h2, h3⟩
     refine ⟨fun z hz c hc e => ?_, h3⟩
     rcases (hS c).mp e with e2 | e2
     ·exact h1 z (List.mem_cons_of_mem _ hz) c hc e2
     ·exact h2 z hz c hc e2
  rw [apAll_cons]
  apply key
  have h01 : ¬ ((0 : Nat) = 1 ∧ x.f1 = x.f1) := fun e => by have := e.1; omega
  have h11 : ¬ ((0 + 1 : Nat) = 1 ∧ x.f2 = x.f1) := fun e => hx e.2
  unfold apHeld
  by_cases h2 : x.f2 < 0
  ·rw [if_pos h2]
   rw [apIn, if_neg h01, apIn]
   by_cases h1 : x.f1 ∈ S
   ·rw [if_pos h1]
    exact .inl ⟨rfl, fun h => h x.f1 List.mem_cons_self h1⟩
   ·rw [if_neg h1]
    refine .inr ⟨_, rfl, fun c hc => by rw [List.mem_singleton.mp hc]; exact h1, fun c => ?_⟩
    simp only [List.mem_cons, List.not_mem_nil, or_false]
    exact Or.comm
  ·rw [if_neg h2]
   rw [apIn, if_neg h01, apIn, if_neg h11, apIn]
   by_cases h1 : x.f1 ∈ S
   ·rw [if_pos h1]
    exact .inl ⟨rfl, fun h => h x.f1 List.mem_cons_self h1⟩
   ·rw [if_neg h1]
    by_cases h3 : x.f2 ∈ x.f1 :: S
    ·rw [if_pos h3]
     rcases List.mem_cons.mp h3 with e | e
     ·exact absurd e hx
     ·exact .inl ⟨rfl, fun h => h x.f2 (by simp) e⟩
    ·rw [if_neg h3]
     refine .inr ⟨_, rfl, fun c hc => ?_, fun c => ?_⟩
     ·rcases List.mem_cons.mp hc with e | e
      ·rw [e]; exact h1
      ·rw [List.mem_singleton.mp e]; exact fun e => h3 (List.mem_cons_of_mem _ e)
     ·simp only [List.mem_cons, List.not_mem_nil, or_false]
      constructor
      ·rintro (e | e | e)
       ·exact .inr (.inr e)
       ·exact .inr (.inl e)
       ·exact .inl e
      ·rintro (e | e | e)
       ·exact .inr (.inr e)
       ·exact .inr (.inl e)
       ·exact .inl e
def Holds (y : RI) (c : Int) : Prop := 0 ≤ c ∧ (y.f1 = c ∨ y.f2 = c)
theorem holder_iff (c : Int) : ∀ L : List RI, (∀ y ∈ L, 0 ≤ y.f0) → (holder c L ≥ 0 ↔ ∃ y ∈ L, Holds y c)
 | [], _ => by simp [holder]
 | y :: L, h => by
  have ih := holder_iff c L (fun z hz => h z (List.mem_cons_of_mem _ hz))
  unfold holder
  by_cases e : 0 ≤ c ∧ (y.f1 = c ∨ y.f2 = c)
  ·rw [if_pos e]
   exact ⟨fun _ => ⟨y, List.mem_cons_self, e⟩, fun _ => h y List.mem_cons_self⟩
  ·rw [if_neg e, ih]
   constructor
   ·rintro ⟨z, hz, h2⟩
    exact ⟨z, List.mem_cons_of_mem _ hz, h2⟩
   ·rintro ⟨z, hz, h2⟩
    rcases List.mem_cons.mp hz with e2 | e2
    ·subst e2; exact absurd h2 e
    ·exact ⟨z, e2, h2⟩
theorem apart_holds (y x : RI) (hx : 0 ≤ x.f1) : (∀ c ∈ apHeld x, c ∉ apHeld y) ↔ ¬ Holds y x.f1 ∧ ¬ Holds y x.f2 := by
 have hm : ∀ z : RI, ∀ c, c ∈ apHeld z ↔ c = z.f1 ∨ (c = z.f2 ∧ 0 ≤ z.f2) := by
  intro z c
  unfold apHeld
  by_cases h : z.f2 < 0
  ·rw [if_pos h, List.mem_singleton]
   exact ⟨.inl, fun e => e.elim id (fun e => by omega)⟩
  ·rw [if_neg h]
   simp only [List.mem_cons, List.not_mem_nil, or_false]
   exact ⟨fun e => e.imp id (fun e => ⟨e, by omega⟩), fun e => e.imp id (fun e => e.1)⟩
 constructor
 ·intro h
  constructor
  ·rintro ⟨h1, h2⟩
   refine h x.f1 ((hm x _).mpr (.inl rfl)) ((hm y _).mpr ?_)
   rcases h2 with e | e
   ·exact .inl e.symm
   ·exact .inr ⟨e.symm, by omega⟩
  ·rintro ⟨h1, h2⟩
   refine h x.f2 ((hm x _).mpr (.inr ⟨rfl, h1⟩)) ((hm y _).mpr ?_)
   rcases h2 with e | e
   ·exact .inl e.symm
   ·exact .inr ⟨e.symm, by omega⟩
 ·rintro ⟨h1, h2⟩ c hc hy
  rcases (hm x c).mp hc with e | ⟨e, e0⟩
  ·refine h1 ⟨hx, ?_⟩
   rcases (hm y c).mp hy with e2 | ⟨e2, _⟩
   ·exact .inl (by omega)
   ·exact .inr (by omega)
  ·refine h2 ⟨e0, ?_⟩
   rcases (hm y c).mp hy with e2 | ⟨e2, _⟩
   ·exact .inl (by omega)
   ·exact .inr (by omega)
section
variable (a b : Int) (s : ByteArray) (hs : s.size ≤ 1048576) (hG : Gok a b s) (l : List RI) (hl : l.length ≤ 10)
def Good (j : Nat) : Prop := 0 ≤ (rd_T42 l (j : Int)).f0 ∧ (rd_T42 l (j : Int)).f0 ≤ 99 ∧ (0 < j → (rd_T42 l ((j - 1 : Nat) : Int)).f0 < (rd_T42 l (j : Int)).f0) ∧ Fr s (rd_T42 l (j : Int)).f1 ∧ ((rd_T42 l (j : Int)).f2 = -1 ∨ Adj a s (rd_T42 l (j : Int)).f1 (rd_T42 l (j : Int)).f2)
def Alone (j : Nat) : Prop := ∀ y ∈ l.take j, ¬ Holds y (rd_T42 l (j : Int)).f1 ∧ ¬ Holds y (rd_T42 l (j : Int)).f2
include hs hG
theorem besideS_ev (c x : Int) (hc : Fr s c) : ∃ g K, (∀ k, K ≤ k → spec_Beside.f k a b s c x = some g) ∧ (g = true ↔ Adj a s c x) := by
 obtain ⟨ms, K2, h2, m2, l2⟩ := specAround_ev a b s hG _ hc
 refine ⟨decide (x ∈ ms), K2 + 10, fun k hk => ?_, by rw [decide_eq_true_iff, m2]⟩
 unfold spec_Beside.f
 rw [h2 k (by omega), Option.bind_some, has_eq ms x (by omega) k (by omega), Option.bind_some]
theorem besideI_ev (c x : Int) (hc : Fr s c) : ∃ g K, (∀ k, K ≤ k → impl_Beside.f k a b s c x = some g) ∧ (g = true ↔ Adj a s c x) := by
 obtain ⟨ms, K2, h2, m2, l2⟩ := implAround_ev a b s hG _ hc
 obtain ⟨g, K3, h3, m3⟩ := gridOk_ev a b s hs
 have hg : g = true := m3.mpr hG
 refine ⟨decide (x ∈ ms), K2 + K3 + 10, fun k hk => ?_, by rw [decide_eq_true_iff, m2]⟩
 unfold impl_Beside.f impl_Around.f
 rw [(h3 k (by omega)).2, Option.bind_some, if_pos hg, h2 k (by omega), Option.bind_some, Option.bind_some, contains_eq ms x (by omega) k (by omega), Option.bind_some]
include hl
theorem specOk_l0 : ∀ (d i : Nat), i + d = l.length → (∀ y ∈ l.take i, 0 ≤ y.f0) → ∃ g K, (∀ k, K ≤ k → spec_RobotsOk.l0 k l (i : Int) a b s = some g) ∧ (g = true ↔ ∀ j, i ≤ j → j < l.length → Good a s l j ∧ Alone l j)
 | 0, i, hi, _ => by
  refine ⟨true, 1, fun k hk => ?_, ⟨fun _ j h1 h2 => by omega, fun _ => rfl⟩⟩
  obtain ⟨k, rfl⟩ : ∃ m, k = m + 1 := ⟨k - 1, by omega⟩
  rw [spec_RobotsOk.l0, if_neg (by omega)]
 | d + 1, i, hi, hp => by
  have hil : i < l.length := by omega
  have e1 : (i : Int) < (l.length : Int) := by omega
  have e2 : (0 : Int) ≤ (i : Int) := by omega
  have e3 : (i : Int) ≤ (l.length : Int) := by omega
  have e9 : wrap64 ((i : Int) + 1) = ((i + 1 : Nat) : Int) := w64 (by omega) (by omega)
  have hx : rd_T42 l (i : Int) = l[i] := rdI_get l i hil
  have htk : l.take (i + 1) = l.take i ++ [rd_T42 l (i : Int)] := by rw [hx, List.take_succ_eq_append_getElem hil]
  have hlt : (l.take i).length = i := by rw [List.length_take]; omega
  -- the end of a round where the robot is right by itself
  have tail : Good a s l i → ∃ g K, (∀ k, K ≤ k → ∀ y0 y1 y2 y3, y1 = (rd_T42 l (i : Int)).f1 → y2 = (rd_T42 l (i : Int)).f2 → spec_RobotsOk.j2 k l (i : Int) false a b s y0 y1 y2 y3 = some g) ∧ (g = true ↔ ∀ j, i ≤ j → j < l.length → Good a s l j ∧ Alone l j) := by
   intro hgood
   have hh1 : ∀ k, 2 * i + 1 < k → spec_HolderOf.f k (l.take i) (rd_T42 l (i : Int)).f1 = some (holder (rd_T42 l (i : Int)).f1 (l.take i)) := fun k hk => specHolder_l0 (l.take i) (rd_T42 l (i : Int)).f1 (by omega) i 0 k (by omega) (by omega)
   have hh2 : ∀ k, 2 * i + 1 < k → spec_HolderOf.f k (l.take i) (rd_T42 l (i : Int)).f2 = some (holder (rd_T42 l (i : Int)).f2 (l.take i)) := fun k hk => specHolder_l0 (l.take i) (rd_T42 l (i : Int)).f2 (by omega) i 0 k (by omega) (by omega)
   have hi1 := holder_iff (rd_T42 l (i : Int)).f1 (l.take i) hp
   have hi2 := holder_iff (rd_T42 l (i : Int)).f2 (l.take i) hp
   by_cases c1 : holder (rd_T42 l (i : Int)).f1 (l.take i) ≥ 0
   ·refine ⟨false, 2 * i + 4, fun k hk y0 y1 y2 y3 ey1 ey2 => ?_, ⟨fun e => (by cases e), fun e => ?_⟩⟩
    ·obtain ⟨k, rfl⟩ : ∃ m, k = m + 1 := ⟨k - 1, by omega⟩
     have := hh1 k (by omega)
     rw [spec_RobotsOk.j2, if_neg (by decide), if_pos e2, if_pos e3, Int.toNat_natCast, ey1, this, Option.bind_some, if_pos c1]
    ·obtain ⟨y, hy, h⟩ := hi1.mp c1
     exact absurd h ((e i (Nat.le_refl _) hil).2 y hy).1
   ·by_cases c2 : holder (rd_T42 l (i : Int)).f2 (l.take i) ≥ 0
    ·refine ⟨false, 2 * i + 4, fun k hk y0 y1 y2 y3 ey1 ey2 => ?_, ⟨fun e => (by cases e), fun e => ?_⟩⟩
     ·obtain ⟨k, rfl⟩ : ∃ m, k = m + 1 := ⟨k - 1, by omega⟩
      have h1 := hh1 k (by omega)
      have h2 := hh2 k (by omega)
      rw [spec_RobotsOk.j2, if_neg (by decide), if_pos e2, if_pos e3, Int.toNat_natCast, ey1, h1, Option.bind_some, if_neg c1, ey2, h2, Option.bind_some, if_pos c2]
     ·obtain ⟨y, hy, h⟩ := hi2.mp c2
      exact absurd h ((e i (Nat.le_refl _) hil).2 y hy).2
    ·obtain ⟨g, K, h, hg⟩ := specOk_l0 d (i + 1) (by omega) (by
      rw [htk]
      intro y hy
      rcases List.mem_append.mp hy with e | e
      ·exact hp y e
      ·rw [List.mem_singleton.mp e]; exact hgood.1)
     refine ⟨g, K + 2 * i + 4, fun k hk y0 y1 y2 y3 ey1 ey2 => ?_, hg.trans ⟨fun e j h1 h2 => ?_, fun e j h1 h2 => e j (by omega) h2⟩⟩
     ·obtain ⟨k, rfl⟩ : ∃ m, k = m + 1 := ⟨k - 1, by omega⟩
      have h1 := hh1 k (by omega)
      have h2 := hh2 k (by omega)
      rw [spec_RobotsOk.j2, if_neg (by decide), if_pos e2, if_pos e3, Int.toNat_natCast, ey1, h1, Option.bind_some, if_neg c1, ey2, h2, Option.bind_some, if_neg c2, e9]
      exact h k (by omega)
     ·by_cases ej : j = i
      ·subst ej
       exact ⟨hgood, fun y hy => ⟨fun q => c1 (hi1.mpr ⟨y, hy, q⟩), fun q => c2 (hi2.mpr ⟨y, hy, q⟩)⟩⟩
      ·exact e j (by omega) h2
  have bad : ¬ Good a s l i → (false = true ↔ ∀ j, i ≤ j → j < l.length → Good a s l j ∧ Alone l j) := fun h => ⟨fun e => (by cases e), fun e => absurd (e i (Nat.le_refl _) hil).1 h⟩
  have jt : ∀ k y0 y1 y2 y3, spec_RobotsOk.j2 (k + 1) l (i : Int) true a b s y0 y1 y2 y3 = some false := fun k y0 y1 y2 y3 => by rw [spec_RobotsOk.j2, if_pos rfl]
  have hIn := l01In_eq (rd_T42 l (i : Int)).f0 0 99
  by_cases c0 : 0 ≤ (rd_T42 l (i : Int)).f0 ∧ (rd_T42 l (i : Int)).f0 ≤ 99
  ·-- behind the test of the numbers
   have rest : (0 < i → (rd_T42 l ((i - 1 : Nat) : Int)).f0 < (rd_T42 l (i : Int)).f0) → ∃ g K, (∀ k, K ≤ k → ((spec_FreeAt.f k a b s ((rd_T42 l (i : Int)).f1)).bind fun t167 => (if t167 = true then (if ((rd_T42 l (i : Int)).f2) = (-1) then (spec_RobotsOk.j2 k l (i : Int) false a b s ((rd_T42 l (i : Int)).f0) ((rd_T42 l (i : Int)).f1) ((rd_T42 l (i : Int)).f2) ((rd_T42 l (i : Int)).f3)) else ((spec_Beside.f k a b s ((rd_T42 l (i : Int)).f1) ((rd_T42 l (i : Int)).f2)).bind fun t168 => (spec_RobotsOk.j2 k l (i : Int) (!t168) a b s ((rd_T42 l (i : Int)).f0) ((rd_T42 l (i : Int)).f1) ((rd_T42 l (i : Int)).f2) ((rd_T42 l (i : Int)).f3)))) else (spec_RobotsOk.j2 k l (i : Int) true a b s ((rd_T42 l (i : Int)).f0) ((rd_T42 l (i : Int)).f1) ((rd_T42 l (i : Int)).f2) ((rd_T42 l (i : Int)).f3)))) = some g) ∧ (g = true ↔ ∀ j, i ≤ j → j < l.length → Good a s l j ∧ Alone l j) := by
    intro hprev
    obtain ⟨gf, Kf, hf, mf⟩ := specFreeAt_ev a b s hs (rd_T42 l (i : Int)).f1
    by_cases c1 : Fr s (rd_T42 l (i : Int)).f1
    ·have hgf : gf = true := mf.mpr ⟨hG, c1⟩
     by_cases c2 : (rd_T42 l (i : Int)).f2 = -1
     ·obtain ⟨g, K, h, hg⟩ := tail ⟨c0.1, c0.2, hprev, c1, .inl c2⟩
      refine ⟨g, K + Kf, fun k hk => ?_, hg⟩
      rw [hf k (by omega), Option.bind_some, if_pos hgf, if_pos c2]
      exact h k (by omega) _ _ _ _ rfl rfl
     ·obtain ⟨gb, Kb, hb, mb⟩ := besideS_ev a b s hs hG (rd_T42 l (i : Int)).f1 (rd_T42 l (i : Int)).f2 c1
      by_cases c3 : gb = true
      ·obtain ⟨g, K, h, hg⟩ := tail ⟨c0.1, c0.2, hprev, c1, .inr (mb.mp c3)⟩
       refine ⟨g, K + Kf + Kb, fun k hk => ?_, hg⟩
       rw [hf k (by omega), Option.bind_some, if_pos hgf, if_neg c2, hb k (by omega), Option.bind_some, c3, Bool.not_true]
       exact h k (by omega) _ _ _ _ rfl rfl
      ·refine ⟨false, Kf + Kb + 1, fun k hk => ?_, bad (fun h => h.2.2.2.2.elim c2 (fun e => c3 (mb.mpr e)))⟩
       rw [hf k (by omega), Option.bind_some, if_pos hgf, if_neg c2, hb k (by omega), Option.bind_some, Bool.eq_false_iff.mpr c3, Bool.not_false]
       obtain ⟨k, rfl⟩ : ∃ m, k = m + 1 := ⟨k - 1, by omega⟩
       exact jt k _ _ _ _
    ·have hgf : ¬ gf = true := fun e => c1 (mf.mp e).2
     refine ⟨false, Kf + 1, fun k hk => ?_, bad (fun h => c1 h.2.2.2.1)⟩
     rw [hf k (by omega), Option.bind_some, if_neg hgf]
     obtain ⟨k, rfl⟩ : ∃ m, k = m + 1 := ⟨k - 1, by omega⟩
     exact jt k _ _ _ _
   by_cases ci : 0 < i
   ·have ei : (i : Int) > 0 := by omega
    have e5 : wrap64 ((i : Int) - 1) = ((i - 1 : Nat) : Int) := by rw [w64 (by omega) (by omega)]; omega
    have e6 : (0 : Int) ≤ ((i - 1 : Nat) : Int) := by omega
    have e7 : ((i - 1 : Nat) : Int) < (l.length : Int) := by omega
    by_cases cp : (rd_T42 l ((i - 1 : Nat) : Int)).f0 ≥ (rd_T42 l (i : Int)).f0
    ·refine ⟨false, 2, fun k hk => ?_, bad (fun h => by have := h.2.2.1 ci; omega)⟩
     obtain ⟨k, rfl⟩ : ∃ m, k = m + 2 := ⟨k - 2, by omega⟩
     rw [spec_RobotsOk.l0, if_pos e1, if_pos e2, hIn, Option.bind_some, decide_eq_true c0, if_pos rfl, if_pos ei, e5, if_pos e6, if_pos e7, if_pos cp]
     exact jt k _ _ _ _
    ·obtain ⟨g, K, h, hg⟩ := rest (fun _ => by omega)
     refine ⟨g, K + 1, fun k hk => ?_, hg⟩
     obtain ⟨k, rfl⟩ : ∃ m, k = m + 1 := ⟨k - 1, by omega⟩
     rw [spec_RobotsOk.l0, if_pos e1, if_pos e2, hIn, Option.bind_some, decide_eq_true c0, if_pos rfl, if_pos ei, e5, if_pos e6, if_pos e7, if_neg cp]
     exact h k (by omega)
   ·obtain ⟨g, K, h, hg⟩ := rest (fun e => absurd e ci)
    refine ⟨g, K + 1, fun k hk => ?_, hg⟩
    obtain ⟨k, rfl⟩ : ∃ m, k = m + 1 := ⟨k - 1, by omega⟩
    rw [spec_RobotsOk.l0, if_pos e1, if_pos e2, hIn, Option.bind_some, decide_eq_true c0, if_pos rfl, if_neg (show ¬ (i : Int) > 0 by omega)]
    exact h k (by omega)
  ·refine ⟨false, 2, fun k hk => ?_, bad (fun h => c0 ⟨h.1, h.2.1⟩)⟩
   obtain ⟨k, rfl⟩ : ∃ m, k = m + 2 := ⟨k - 2, by omega⟩
   rw [spec_RobotsOk.l0, if_pos e1, if_pos e2, hIn, Option.bind_some, decide_eq_false c0, if_neg (by decide)]
   exact jt k _ _ _ _
theorem implOk_l0 (hw : ∀ x ∈ l, apFits x = true) : ∀ (d i : Nat), i + d = l.length → ∃ g K, (∀ k, K ≤ k → impl_RobotsOk.l0 k l l (l.length : Int) (i : Int) a b s = some g) ∧ (g = true ↔ (∀ j, i ≤ j → j < l.length → Good a s l j) ∧ apAll l [] = true)
 | 0, i, hi => by
  refine ⟨apAll l [], 1, fun k hk => ?_, ⟨fun e => ⟨fun j h1 h2 => by omega, e⟩, fun e => e.2⟩⟩
  obtain ⟨k, rfl⟩ : ∃ m, k = m + 1 := ⟨k - 1, by omega⟩
  rw [impl_RobotsOk.l0, if_neg (by omega), impl_areApart.f, if_pos ⟨by omega, hw⟩, Option.bind_some]
 | d + 1, i, hi => by
  have hil : i < l.length := by omega
  have e1 : (i : Int) < (l.length : Int) := by omega
  have e2 : (0 : Int) ≤ (i : Int) := by omega
  have e9 : wrap64 ((i : Int) + 1) = ((i + 1 : Nat) : Int) := w64 (by omega) (by omega)
  obtain ⟨gr, Kr, hr, mr⟩ := implOk_l0 hw d (i + 1) (by omega)
  have bad : ¬ Good a s l i → (false = true ↔ (∀ j, i ≤ j → j < l.length → Good a s l j) ∧ apAll l [] = true) := fun h => ⟨fun e => (by cases e), fun e => absurd (e.1 i (Nat.le_refl _) hil) h⟩
  have good : Good a s l i → (gr = true ↔ (∀ j, i ≤ j → j < l.length → Good a s l j) ∧ apAll l [] = true) := fun h => mr.trans ⟨fun e => ⟨fun j h1 h2 => by
   by_cases ej : j = i
   ·subst ej; exact h
   ·exact e.1 j (by omega) h2, e.2⟩, fun e => ⟨fun j h1 h2 => e.1 j (by omega) h2, e.2⟩⟩
  by_cases c0 : (rd_T42 l (i : Int)).f0 < 0
  ·refine ⟨false, 1, fun k hk => ?_, bad (fun h => by have := h.1; omega)⟩
   obtain ⟨k, rfl⟩ : ∃ m, k = m + 1 := ⟨k - 1, by omega⟩
   rw [impl_RobotsOk.l0, if_pos e1, if_pos e2, if_pos e1, if_pos c0]
  by_cases c9 : (rd_T42 l (i : Int)).f0 > 99
  ·refine ⟨false, 1, fun k hk => ?_, bad (fun h => by have := h.2.1; omega)⟩
   obtain ⟨k, rfl⟩ : ∃ m, k = m + 1 := ⟨k - 1, by omega⟩
   rw [impl_RobotsOk.l0, if_pos e1, if_pos e2, if_pos e1, if_neg c0, if_pos c9]
  have rest : (0 < i → (rd_T42 l ((i - 1 : Nat) : Int)).f0 < (rd_T42 l (i : Int)).f0) → ∃ g K, (∀ k, K ≤ k → ((impl_isFree.f a b s ((rd_T42 l (i : Int)).f1)).bind fun t233 => (if t233 = true then (if ((rd_T42 l (i : Int)).f2) = (-1) then (impl_RobotsOk.l0 k l l (l.length : Int) ((i + 1 : Nat) : Int) a b s) else ((impl_Beside.f k a b s ((rd_T42 l (i : Int)).f1) ((rd_T42 l (i : Int)).f2)).bind fun t234 => (if t234 = true then (impl_RobotsOk.l0 k l l (l.length : Int) ((i + 1 : Nat) : Int) a b s) else (some false)))) else (some false))) = some g) ∧ (g = true ↔ (∀ j, i ≤ j → j < l.length → Good a s l j) ∧ apAll l [] = true) := by
   intro hprev
   by_cases c1 : Fr s (rd_T42 l (i : Int)).f1
   ·by_cases c2 : (rd_T42 l (i : Int)).f2 = -1
    ·refine ⟨gr, Kr, fun k hk => ?_, good ⟨by omega, by omega, hprev, c1, .inl c2⟩⟩
     rw [isFree_eq, Option.bind_some, decide_eq_true c1, if_pos rfl, if_pos c2]
     exact hr k hk
    ·obtain ⟨gb, Kb, hb, mb⟩ := besideI_ev a b s hs hG (rd_T42 l (i : Int)).f1 (rd_T42 l (i : Int)).f2 c1
     by_cases c3 : gb = true
     ·refine ⟨gr, Kr + Kb, fun k hk => ?_, good ⟨by omega, by omega, hprev, c1, .inr (mb.mp c3)⟩⟩
      rw [isFree_eq, Option.bind_some, decide_eq_true c1, if_pos rfl, if_neg c2, hb k (by omega), Option.bind_some, if_pos c3]
      exact hr k (by omega)
     ·refine ⟨false, Kb, fun k hk => ?_, bad (fun h => h.2.2.2.2.elim c2 (fun e => c3 (mb.mpr e)))⟩
      rw [isFree_eq, Option.bind_some, decide_eq_true c1, if_pos rfl, if_neg c2, hb k (by omega), Option.bind_some, if_neg c3]
   ·refine ⟨false, 0, fun k hk => ?_, bad (fun h => c1 h.2.2.2.1)⟩
    rw [isFree_eq, Option.bind_some, decide_eq_false c1, if_neg (by decide)]
  by_cases ci : 0 < i
  ·have ei : (i : Int) > 0 := by omega
   have e5 : wrap64 ((i : Int) - 1) = ((i - 1 : Nat) : Int) := by rw [w64 (by omega) (by omega)]; omega
   have e6 : (0 : Int) ≤ ((i - 1 : Nat) : Int) := by omega
   have e7 : ((i - 1 : Nat) : Int) < (l.length : Int) := by omega
   by_cases cp : (rd_T42 l ((i - 1 : Nat) : Int)).f0 ≥ (rd_T42 l (i : Int)).f0
   ·refine ⟨false, 1, fun k hk => ?_, bad (fun h => by have := h.2.2.1 ci; omega)⟩
    obtain ⟨k, rfl⟩ : ∃ m, k = m + 1 := ⟨k - 1, by omega⟩
    rw [impl_RobotsOk.l0, if_pos e1, if_pos e2, if_pos e1, if_neg c0, if_neg c9, if_pos ei, e5, if_pos e6, if_pos e7, if_pos cp]
   ·obtain ⟨g, K, h, hg⟩ := rest (fun _ => by omega)
    refine ⟨g, K + 1, fun k hk => ?_, hg⟩
    obtain ⟨k, rfl⟩ : ∃ m, k = m + 1 := ⟨k - 1, by omega⟩
    rw [impl_RobotsOk.l0, if_pos e1, if_pos e2, if_pos e1, if_neg c0, if_neg c9, if_pos ei, e5, if_pos e6, if_pos e7, if_neg cp, e9]
    exact h k (by omega)
  ·obtain ⟨g, K, h, hg⟩ := rest (fun e => absurd e ci)
   refine ⟨g, K + 1, fun k hk => ?_, hg⟩
   obtain ⟨k, rfl⟩ : ∃ m, k = m + 1 := ⟨k - 1, by omega⟩
   rw [impl_RobotsOk.l0, if_pos e1, if_pos e2, if_pos e1, if_neg c0, if_neg c9, if_neg (show ¬ (i : Int) > 0 by omega), e9]
   exact h k (by omega)
theorem all_same (hgood : ∀ j, 0 ≤ j → j < l.length → Good a s l j) : apAll l [] = true ↔ ∀ j, 0 ≤ j → j < l.length → Alone l j := by
 have hn : ∀ x ∈ l, 0 ≤ x.f1 ∧ x.f2 ≠ x.f1 := by
  intro x hx
  obtain ⟨j, hj, rfl⟩ := List.getElem_of_mem hx
  have h := hgood j (Nat.zero_le _) hj
  unfold Good at h
  rw [rdI_get l j hj] at h
  obtain ⟨_, _, _, h4, h5⟩ := h
  refine ⟨h4.1, fun e => ?_⟩
  rcases h5 with e2 | e2
  ·have := h4.1; omega
  ·obtain ⟨h1, _⟩ := hG
   rcases e2.2.2 with e3 | ⟨e3, _⟩ | ⟨e3, _⟩ | e3 <;> omega
 rw [apAll_iff l [] (fun x hx => (hn x hx).2)]
 constructor
 ·rintro ⟨_, hp⟩ j _ hj y hy
  obtain ⟨i, hi, rfl⟩ := List.getElem_of_mem hy
  rw [List.length_take] at hi
  rw [List.getElem_take, rdI_get l j hj]
  exact (apart_holds _ _ (hn _ (List.getElem_mem hj)).1).mp (List.pairwise_iff_getElem.mp hp i j (by omega) hj (by omega))
 ·intro h
  refine ⟨fun x _ c _ => List.not_mem_nil, List.pairwise_iff_getElem.mpr fun i j hi hj hij => ?_⟩
  refine (apart_holds _ _ (hn _ (List.getElem_mem hj)).1).mpr ?_
  have := h j (Nat.zero_le _) hj l[i] (by
   rw [List.mem_take_iff_getElem]
   exact ⟨i, by omega, rfl⟩)
  rw [rdI_get l j hj] at this
  exact this
end
theorem robotsOk_ev (a b : Int) (s : ByteArray) (hs : s.size ≤ 1048576) (l : List RI) (hw : ∀ x ∈ l, apFits x = true) : ∃ g K, ∀ k, K ≤ k → spec_RobotsOk.f k a b s l = some g ∧ impl_RobotsOk.f k a b s l = some g := by
 obtain ⟨gg, K1, h1, m1⟩ := gridOk_ev a b s hs
 have jS : ∀ k, spec_RobotsOk.j0 (k + 1) l true a b s = some false := fun k => by rw [spec_RobotsOk.j0, if_pos rfl]
 have jI : ∀ k, impl_RobotsOk.j0 (k + 1) l true a b s = some false := fun k => by rw [impl_RobotsOk.j0, if_pos rfl]
 by_cases cG : gg = true
 ·have hG := m1.mp cG
  by_cases cl : l.length ≤ 10
  ·obtain ⟨g, K2, h2, m2⟩ := specOk_l0 a b s hs hG l cl l.length 0 (by omega) (by simp)
   obtain ⟨g', K3, h3, m3⟩ := implOk_l0 a b s hs hG l cl hw l.length 0 (by omega)
   have hgg : g' = g := by
    rw [Bool.eq_iff_iff, m2, m3]
    constructor
    ·rintro ⟨e1, e2⟩ j h1 h2
     exact ⟨e1 j h1 h2, (all_same a b s hs hG l cl e1).mp e2 j h1 h2⟩
    ·intro e
     exact ⟨fun j h1 h2 => (e j h1 h2).1, (all_same a b s hs hG l cl (fun j h1 h2 => (e j h1 h2).1)).mpr (fun j h1 h2 => (e j h1 h2).2)⟩
   subst hgg
   refine ⟨g', K1 + K2 + K3 + 2, fun k hk => ?_⟩
   obtain ⟨k, rfl⟩ : ∃ m, k = m + 1 := ⟨k - 1, by omega⟩
   have d1 : decide ((l.length : Int) > 10) = false := decide_eq_false (by omega)
   constructor
   ·unfold spec_RobotsOk.f
    rw [(h1 _ (by omega)).1, Option.bind_some, if_pos cG, d1, spec_RobotsOk.j0, if_neg (by decide)]
    exact h2 k (by omega)
   ·unfold impl_RobotsOk.f
    rw [(h1 _ (by omega)).2, Option.bind_some, if_pos cG, d1, impl_RobotsOk.j0, if_neg (by decide)]
    exact h3 k (by omega)
  ·refine ⟨false, K1 + 1, fun k hk => ?_⟩
   obtain ⟨k, rfl⟩ : ∃ m, k = m + 1 := ⟨k - 1, by omega⟩
   have d1 : decide ((l.length : Int) > 10) = true := decide_eq_true (by omega)
   unfold spec_RobotsOk.f impl_RobotsOk.f
   rw [(h1 _ (by omega)).1, (h1 _ (by omega)).2, Option.bind_some, Option.bind_some, if_pos cG, if_pos cG, d1]
   exact ⟨jS k, jI k⟩
 ·refine ⟨false, K1 + 1, fun k hk => ?_⟩
  obtain ⟨k, rfl⟩ : ∃ m, k = m + 1 := ⟨k - 1, by omega⟩
  unfold spec_RobotsOk.f impl_RobotsOk.f
  rw [(h1 _ (by omega)).1, (h1 _ (by omega)).2, Option.bind_some, Option.bind_some, if_neg cG, if_neg cG]
  exact ⟨jS k, jI k⟩
end Go.Proofs.Ytkbbeenjbkmamaa.Pure
/- What a grid weighs. -/
namespace Go.Proofs.Ytkbbeenjbkmamaa.Pure
open Go.RowKit Go.Proofs.Ytkbbeenjbkmamaa.Q Go.Proofs.YtkbbeenjbkmamaaW.PrintWords Go.Proofs.YtkbbeenjbkmamaaW.PrintLast
theorem szGrid_eq (a b : Int) (s : ByteArray) (hs : s.size ≤ maxLen) (m : Int) (hm0 : 0 ≤ m) (hm : m ≤ 1048576) : laws_szGrid.f a b s m = some (if (s.size : Int) ≤ m then m - (s.size : Int) else -1) := by
 unfold laws_szGrid.f
 unfold maxLen at hs
 rw [w64 (by omega) (by omega)]
 by_cases h : (s.size : Int) ≤ m
 ·rw [if_neg (by omega), if_pos h]
 ·rw [if_pos (by omega), if_neg h]
end Go.Proofs.Ytkbbeenjbkmamaa.Pure
