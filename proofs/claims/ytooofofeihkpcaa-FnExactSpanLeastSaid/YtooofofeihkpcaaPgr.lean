/- Grids and their free cells: what the program and the reference answer. -/
import Derived.Test.YtooofofeihkpcaaPi
import Derived.Test.YtooofofeihkpcaaQ2
import Derived.Test.YtooofofeihkpcaaQ8
import Derived.Test.YtooofofeihkpcaaQ1
set_option linter.unusedSimpArgs false
namespace Go.Proofs.Ytooofofeihkpcaa.Pure
open Go.RowKit Go.Proofs.Ytooofofeihkpcaa.Q Go.Proofs.YtooofofeihkpcaaW.PrintWords Go.Proofs.YtooofofeihkpcaaW.PrintLast
theorem l01In_eq (a b c : Int) : spec_l01In.f a b c = some (decide (b ≤ a ∧ a ≤ c)) := by
  unfold spec_l01In.f
  by_cases h : a ≥ b
  · rw [if_pos h]; congr 1; exact decide_eq_decide.mpr ⟨fun h2 => ⟨h, h2⟩, fun h2 => h2.2⟩
  · rw [if_neg h, decide_eq_false (fun h2 => h h2.1)]
/-- What may stand in a grid. -/
def Kind (c : Int) : Prop := c = 46 ∨ c = 35 ∨ (97 ≤ c ∧ c ≤ 102) ∨ (65 ≤ c ∧ c ≤ 70)
theorem kind_eq (c : Int) : ∃ b, spec_l02Kind.f c = some b ∧ (b = true ↔ Kind c) := by
  unfold spec_l02Kind.f Kind
  by_cases h1 : c = 46
  · exact ⟨true, by rw [if_pos h1], by simp [h1]⟩
  · by_cases h2 : c = 35
    · exact ⟨true, by rw [if_neg h1, if_pos h2], by simp [h2]⟩
    · by_cases h3 : c ≥ 97
      · by_cases h4 : c ≤ 102
        · exact ⟨true, by rw [if_neg h1, if_neg h2, if_pos h3, if_pos h4], ⟨fun _ => by omega, fun _ => rfl⟩⟩
        · refine ⟨decide (c ≤ 70), by rw [if_neg h1, if_neg h2, if_pos h3, if_neg h4, if_pos (by omega)], ⟨fun h => (by have := of_decide_eq_true h; omega), fun h => decide_eq_true (by omega)⟩⟩
      · by_cases h5 : c ≥ 65
        · exact ⟨decide (c ≤ 70), by rw [if_neg h1, if_neg h2, if_neg h3, if_pos h5], ⟨fun h => (by have := of_decide_eq_true h; omega), fun h => decide_eq_true (by omega)⟩⟩
        · exact ⟨false, by rw [if_neg h1, if_neg h2, if_neg h3, if_neg h5], ⟨fun h => (by cases h), fun h => (by omega)⟩⟩
/-- A grid that is one. -/
def Gok (a b : Int) (s : ByteArray) : Prop := 1 ≤ a ∧ a ≤ 8 ∧ 1 ≤ b ∧ b ≤ 8 ∧ (s.size : Int) = a * b ∧ ∀ i : Nat, i < s.size → Kind (bt s (i : Int))
theorem Gok_size {a b : Int} {s : ByteArray} (h : Gok a b s) : s.size ≤ 64 := by
  obtain ⟨h1, h2, h3, h4, h5, _⟩ := h
  have : a * b ≤ 8 * 8 := Int.mul_le_mul h2 h4 (by omega) (by omega)
  omega
theorem implKind_eq (c : Int) (b : Bool) (hb : b = true ↔ Kind c) (X : Option Bool) : (if c = 46 then X else (if c = 35 then X else (if c < 97 then (if c < 65 then (some false) else (if c > 70 then (some false) else X)) else (if c > 102 then (if c < 65 then (some false) else (if c > 70 then (some false) else X)) else X)))) = (if b = true then X else some false) := by
  unfold Kind at hb
  cases b with
  | true =>
    have h := hb.mp rfl
    rw [if_pos rfl]
    repeat' split
    all_goals first | rfl | (exfalso; omega)
  | false =>
    have h : ¬ (c = 46 ∨ c = 35 ∨ (97 ≤ c ∧ c ≤ 102) ∨ (65 ≤ c ∧ c ≤ 70)) := fun h => absurd (hb.mpr h) Bool.false_ne_true
    rw [if_neg Bool.false_ne_true]
    repeat' split
    all_goals first | rfl | (exfalso; omega)
theorem gridOk_l0 (a b : Int) (s : ByteArray) (hs : s.size ≤ 1048576) : ∀ (d i : Nat), i + d = s.size → ∃ g K, (∀ k, K ≤ k → spec_GridOk.l0 k (i : Int) a b s = some g ∧ impl_GridOk.l0 k (i : Int) a b s = some g) ∧ (g = true ↔ ∀ j : Nat, i ≤ j → j < s.size → Kind (bt s (j : Int)))
  | 0, i, hi => by
    refine ⟨true, 1, fun k hk => ?_, ⟨fun _ j h1 h2 => by omega, fun _ => rfl⟩⟩
    obtain ⟨k, rfl⟩ : ∃ m, k = m + 1 := ⟨k - 1, by omega⟩
    have e1 : ¬ (i : Int) < (s.size : Int) := by omega
    simp only [spec_GridOk.l0, impl_GridOk.l0, e1, reduceIte, and_self]
  | d + 1, i, hi => by
    obtain ⟨g, K, h, hg⟩ := gridOk_l0 a b s hs d (i + 1) (by omega)
    have e1 : (i : Int) < (s.size : Int) := by omega
    have e2 : (0 : Int) ≤ i := by omega
    have e9 : wrap64 ((i : Int) + 1) = ((i + 1 : Nat) : Int) := by rw [w64 (by omega) (by omega)]; rfl
    obtain ⟨q, hq, hqk⟩ := kind_eq (bt s (i : Int))
    have hstep : (∀ j : Nat, i ≤ j → j < s.size → Kind (bt s (j : Int))) ↔ Kind (bt s (i : Int)) ∧ ∀ j : Nat, i + 1 ≤ j → j < s.size → Kind (bt s (j : Int)) := by
      constructor
      · exact fun h => ⟨h i (Nat.le_refl _) (by omega), fun j h1 h2 => h j (by omega) h2⟩
      · rintro ⟨h0, h⟩ j h1 h2
        rcases Nat.eq_or_lt_of_le h1 with e | e
        · subst e; exact h0
        · exact h j e h2
    rw [hstep]
    cases q with
    | true =>
      refine ⟨g, K + 1, fun k hk => ?_, by rw [hg]; exact ⟨fun h => ⟨hqk.mp rfl, h⟩, fun h => h.2⟩⟩
      obtain ⟨k, rfl⟩ : ∃ m, k = m + 1 := ⟨k - 1, by omega⟩
      obtain ⟨q1, q2⟩ := h k (by omega)
      simp only [spec_GridOk.l0, impl_GridOk.l0]
      rw [if_pos e1, if_pos e2, if_pos e1, if_pos e2, hq, e9, implKind_eq _ true hqk]
      simp only [Option.bind_some, reduceIte]
      exact ⟨q1, q2⟩
    | false =>
      refine ⟨false, 1, fun k hk => ?_, ⟨fun h => (by cases h), fun h => absurd (hqk.mpr h.1) (by decide)⟩⟩
      obtain ⟨k, rfl⟩ : ∃ m, k = m + 1 := ⟨k - 1, by omega⟩
      simp only [spec_GridOk.l0, impl_GridOk.l0]
      rw [if_pos e1, if_pos e2, if_pos e1, if_pos e2, hq, e9, implKind_eq _ false hqk]
      simp only [Option.bind_some, Bool.false_eq_true, reduceIte, and_self]
theorem gridOk_ev (a b : Int) (s : ByteArray) (hs : s.size ≤ 1048576) : ∃ g K, (∀ k, K ≤ k → spec_GridOk.f k a b s = some g ∧ impl_GridOk.f k a b s = some g) ∧ (g = true ↔ Gok a b s) := by
  obtain ⟨g, K, h, hg⟩ := gridOk_l0 a b s hs s.size 0 (by omega)
  by_cases ha : 1 ≤ a ∧ a ≤ 8
  · by_cases hb : 1 ≤ b ∧ b ≤ 8
    · have hm : wrap64 (a * b) = a * b := by
        have h1 : a * b ≤ 8 * 8 := Int.mul_le_mul ha.2 hb.2 (by omega) (by omega)
        have h2 : 0 ≤ a * b := Int.mul_nonneg (by omega) (by omega)
        exact w64 (by omega) (by omega)
      have a1 : ¬ a < 1 := by omega
      have a2 : ¬ a > 8 := by omega
      have b1 : ¬ b < 1 := by omega
      have b2 : ¬ b > 8 := by omega
      by_cases hsz : (s.size : Int) = a * b
      · have e : ((s.size : Int) != wrap64 (a * b)) = false := by rw [hm]; simp [hsz]
        refine ⟨g, K + 1, fun k hk => ?_, ?_⟩
        · obtain ⟨k, rfl⟩ : ∃ m, k = m + 1 := ⟨k - 1, by omega⟩
          unfold spec_GridOk.f impl_GridOk.f
          simp only [l01In_eq, ha, hb, a1, a2, b1, b2, e, and_self, decide_true, Option.bind_some, reduceIte]
          simp only [spec_GridOk.j0, impl_GridOk.j0, Bool.false_eq_true, reduceIte]
          exact h k (by omega)
        · rw [hg]
          exact ⟨fun h => ⟨ha.1, ha.2, hb.1, hb.2, hsz, fun i hi => h i (Nat.zero_le _) hi⟩, fun h j _ hj => h.2.2.2.2.2 j hj⟩
      · have e : ((s.size : Int) != wrap64 (a * b)) = true := by rw [hm]; simp [hsz]
        refine ⟨false, 1, fun k hk => ?_, ⟨fun h => (by cases h), fun h => absurd h.2.2.2.2.1 hsz⟩⟩
        obtain ⟨k, rfl⟩ : ∃ m, k = m + 1 := ⟨k - 1, by omega⟩
        unfold spec_GridOk.f impl_GridOk.f
        simp only [l01In_eq, ha, hb, a1, a2, b1, b2, e, and_self, decide_true, Option.bind_some, reduceIte]
        simp only [spec_GridOk.j0, impl_GridOk.j0, reduceIte, and_self]
    · refine ⟨false, 1, fun k hk => ?_, ⟨fun h => (by cases h), fun h => absurd ⟨h.2.2.1, h.2.2.2.1⟩ hb⟩⟩
      obtain ⟨k, rfl⟩ : ∃ m, k = m + 1 := ⟨k - 1, by omega⟩
      have a1 : ¬ a < 1 := by omega
      have a2 : ¬ a > 8 := by omega
      unfold spec_GridOk.f impl_GridOk.f
      simp only [l01In_eq, ha, hb, a1, a2, and_self, decide_true, decide_false, Option.bind_some, Bool.false_eq_true, reduceIte]
      by_cases b1 : b < 1
      · simp only [b1, spec_GridOk.j0, impl_GridOk.j0, reduceIte, and_self]
      · have b2 : b > 8 := by omega
        simp only [b1, b2, spec_GridOk.j0, impl_GridOk.j0, reduceIte, and_self]
  · refine ⟨false, 1, fun k hk => ?_, ⟨fun h => (by cases h), fun h => absurd ⟨h.1, h.2.1⟩ ha⟩⟩
    obtain ⟨k, rfl⟩ : ∃ m, k = m + 1 := ⟨k - 1, by omega⟩
    unfold spec_GridOk.f impl_GridOk.f
    simp only [l01In_eq, ha, decide_false, Option.bind_some, Bool.false_eq_true, reduceIte]
    by_cases a1 : a < 1
    · simp only [a1, spec_GridOk.j0, impl_GridOk.j0, reduceIte, and_self]
    · have a2 : a > 8 := by omega
      simp only [a1, a2, spec_GridOk.j0, impl_GridOk.j0, reduceIte, and_self]
/-- A cell that is free. -/
def Fr (s : ByteArray) (c : Int) : Prop := 0 ≤ c ∧ c < (s.size : Int) ∧ bt s c ≠ 35
instance (s : ByteArray) (c : Int) : Decidable (Fr s c) := by unfold Fr; exact inferInstance
theorem fr_nest (s : ByteArray) (c : Int) : (if c ≥ 0 then (if c < (s.size : Int) then (if 0 ≤ c then (some ((bt s c) != 35)) else (none)) else (some false)) else (some false)) = some (decide (Fr s c)) := by
  by_cases h1 : c ≥ 0
  · by_cases h2 : c < (s.size : Int)
    · rw [if_pos h1, if_pos h2, if_pos h1]
      by_cases h3 : bt s c = 35
      · rw [decide_eq_false (fun h : Fr s c => h.2.2 h3), h3]; rfl
      · rw [decide_eq_true (show Fr s c from ⟨h1, h2, h3⟩)]
        congr 1
        simpa using h3
    · rw [if_pos h1, if_neg h2, decide_eq_false (fun h : Fr s c => h2 h.2.1)]
  · rw [if_neg h1, decide_eq_false (fun h : Fr s c => h1 h.1)]
theorem isFree_eq (a b : Int) (s : ByteArray) (c : Int) : impl_isFree.f a b s c = some (decide (Fr s c)) := fr_nest s c
theorem specFreeAt_ev (a b : Int) (s : ByteArray) (hs : s.size ≤ 1048576) (c : Int) : ∃ g K, (∀ k, K ≤ k → spec_FreeAt.f k a b s c = some g) ∧ (g = true ↔ Gok a b s ∧ Fr s c) := by
  obtain ⟨g, K, h, hg⟩ := gridOk_ev a b s hs
  cases g with
  | false =>
    refine ⟨false, K, fun k hk => ?_, ⟨fun h => (by cases h), fun h2 => absurd (hg.mpr h2.1) (by decide)⟩⟩
    unfold spec_FreeAt.f
    rw [(h k hk).1]
    rfl
  | true =>
    refine ⟨decide (Fr s c), K, fun k hk => ?_, ⟨fun h => ⟨hg.mp rfl, of_decide_eq_true h⟩, fun h => decide_eq_true h.2⟩⟩
    unfold spec_FreeAt.f
    rw [(h k hk).1]
    simp only [Option.bind_some, reduceIte, isFree_eq]
    exact fr_nest s c
/-- The free ones of the next d cells. -/
def fr (s : ByteArray) : Nat → Nat → List Int
  | 0, _ => []
  | d + 1, i => if Fr s (i : Int) then (i : Int) :: fr s d (i + 1) else fr s d (i + 1)
theorem fr_len (s : ByteArray) : ∀ d i, (fr s d i).length ≤ d
  | 0, _ => Nat.le_refl _
  | d + 1, i => by
    unfold fr
    have := fr_len s d (i + 1)
    split <;> simp <;> omega
theorem fr_mem (s : ByteArray) (c : Int) : ∀ d i, c ∈ fr s d i ↔ (i : Int) ≤ c ∧ c < (i : Int) + d ∧ Fr s c
  | 0, i => by simp [fr]; omega
  | d + 1, i => by
    unfold fr
    by_cases h : Fr s (i : Int)
    · rw [if_pos h, List.mem_cons, fr_mem s c d (i + 1)]
      constructor
      · rintro (e | ⟨h1, h2, h3⟩)
        · subst e; exact ⟨Int.le_refl _, by omega, h⟩
        · exact ⟨by omega, by omega, h3⟩
      · rintro ⟨h1, h2, h3⟩
        by_cases e : c = (i : Int)
        · exact .inl e
        · exact .inr ⟨by omega, by omega, h3⟩
    · rw [if_neg h, fr_mem s c d (i + 1)]
      constructor
      · rintro ⟨h1, h2, h3⟩; exact ⟨by omega, by omega, h3⟩
      · rintro ⟨h1, h2, h3⟩
        by_cases e : c = (i : Int)
        · subst e; exact absurd h3 h
        · exact ⟨by omega, by omega, h3⟩
open Classical in
/-- The free cells of a grid. -/
noncomputable def frees (a b : Int) (s : ByteArray) : List Int := if Gok a b s then fr s s.size 0 else []
theorem frees_len (a b : Int) (s : ByteArray) : (frees a b s).length ≤ 64 := by
  unfold frees
  split
  · rename_i h
    have := fr_len s s.size 0
    have := Gok_size h
    omega
  · simp
theorem frees_mem (a b : Int) (s : ByteArray) (c : Int) : c ∈ frees a b s ↔ Gok a b s ∧ Fr s c := by
  unfold frees
  split
  · rename_i h
    rw [fr_mem]
    exact ⟨fun h2 => ⟨h, h2.2.2⟩, fun h2 => ⟨by have := h2.2.1; omega, by have := h2.2.2.1; omega, h2.2⟩⟩
  · rename_i h
    simp [h]
theorem implFree_go (a b : Int) (s : ByteArray) (hg : Gok a b s) : ∀ (d i : Nat) (acc : List Int), i + d = s.size → acc.length ≤ i → impl_FreeCells.go a b s d i acc = some (acc ++ fr s d i)
  | 0, i, acc, hi, ha => by simp [impl_FreeCells.go, fr]
  | d + 1, i, acc, hi, ha => by
    have hsz := Gok_size hg
    have hk := hg.2.2.2.2.2 i (by omega)
    have hb : bt s (i : Int) = ((s[i]'(by omega)).toNat : Int) := by
      unfold bt
      rw [dif_pos (by rw [Int.toNat_natCast]; omega)]
      simp
    have hlt : (s[i]'(by omega)).toNat < 128 := by
      unfold Kind at hk
      rw [hb] at hk
      omega
    unfold impl_FreeCells.go fr
    rw [dif_pos (by omega), if_pos hlt, isFree_eq, Option.bind_some]
    by_cases c : Fr s (i : Int)
    · rw [decide_eq_true c, if_pos rfl, if_pos (by omega), if_pos c, implFree_go a b s hg d (i + 1) _ (by omega) (by simp; omega)]
      simp
    · rw [decide_eq_false c, if_neg (by decide), if_neg c, implFree_go a b s hg d (i + 1) _ (by omega) (by omega)]
theorem implFree_ev (a b : Int) (s : ByteArray) (hs : s.size ≤ 1048576) : ∃ K, ∀ k, K ≤ k → impl_FreeCells.f k a b s = some (frees a b s) := by
  obtain ⟨g, K, h, hg⟩ := gridOk_ev a b s hs
  refine ⟨K, fun k hk => ?_⟩
  unfold impl_FreeCells.f frees
  rw [(h k hk).2, Option.bind_some]
  cases g with
  | true =>
    have hG := hg.mp rfl
    rw [if_pos rfl, if_pos hG, implFree_go a b s hG s.size 0 [] (by omega) (by simp)]
    simp
  | false =>
    rw [if_neg (by decide), if_neg (fun h => absurd (hg.mpr h) (by decide))]
theorem specFree_l0 (a b : Int) (s : ByteArray) (hs : s.size ≤ 1048576) : ∀ (d i : Nat) (acc : List Int), i + d = min s.size 64 → acc.length ≤ i → ∃ v K, (∀ k, K ≤ k → spec_FreeCells.l0 k acc (i : Int) a b s = some v) ∧ (Gok a b s → v = acc ++ fr s d i) ∧ (¬ Gok a b s → v = acc)
  | 0, i, acc, hi, ha => by
    refine ⟨acc, 2, fun k hk => ?_, by simp [fr], fun _ => rfl⟩
    obtain ⟨k, rfl⟩ : ∃ m, k = m + 2 := ⟨k - 2, by omega⟩
    simp only [spec_FreeCells.l0]
    by_cases c : (i : Int) < (s.size : Int)
    · rw [if_pos c, decide_eq_false (by omega)]
      simp only [spec_FreeCells.j1, Bool.false_eq_true, reduceIte]
    · rw [if_neg c]
      simp only [spec_FreeCells.j1, Bool.false_eq_true, reduceIte]
  | d + 1, i, acc, hi, ha => by
    obtain ⟨g, K1, h1, hg⟩ := specFreeAt_ev a b s hs (i : Int)
    have e1 : (i : Int) < (s.size : Int) := by omega
    have e2 : decide ((i : Int) < 64) = true := decide_eq_true (by omega)
    have e9 : wrap64 ((i : Int) + 1) = ((i + 1 : Nat) : Int) := by rw [w64 (by omega) (by omega)]; rfl
    cases g with
    | true =>
      obtain ⟨v, K, h, hv, hw⟩ := specFree_l0 a b s hs d (i + 1) (acc ++ [(i : Int)]) (by omega) (by simp; omega)
      refine ⟨v, K + K1 + 2, fun k hk => ?_, fun hG => ?_, fun hG => absurd (hg.mp rfl).1 hG⟩
      · obtain ⟨k, rfl⟩ : ∃ m, k = m + 2 := ⟨k - 2, by omega⟩
        simp only [spec_FreeCells.l0]
        rw [if_pos e1, e2]
        simp only [spec_FreeCells.j1, reduceIte]
        rw [h1 k (by omega), Option.bind_some, if_pos rfl, if_pos (by omega), e9]
        exact h k (by omega)
      · rw [hv hG, fr, if_pos (hg.mp rfl).2]; simp
    | false =>
      obtain ⟨v, K, h, hv, hw⟩ := specFree_l0 a b s hs d (i + 1) acc (by omega) (by omega)
      refine ⟨v, K + K1 + 2, fun k hk => ?_, fun hG => ?_, hw⟩
      · obtain ⟨k, rfl⟩ : ∃ m, k = m + 2 := ⟨k - 2, by omega⟩
        simp only [spec_FreeCells.l0]
        rw [if_pos e1, e2]
        simp only [spec_FreeCells.j1, reduceIte]
        rw [h1 k (by omega), Option.bind_some, if_neg (by decide), e9]
        exact h k (by omega)
      · rw [hv hG, fr, if_neg (fun h => absurd (hg.mpr ⟨hG, h⟩) (by decide))]
theorem specFree_ev (a b : Int) (s : ByteArray) (hs : s.size ≤ 1048576) : ∃ K, ∀ k, K ≤ k → spec_FreeCells.f k a b s = some (frees a b s) := by
  obtain ⟨v, K, h, hv, hw⟩ := specFree_l0 a b s hs (min s.size 64) 0 [] (by omega) (by simp)
  refine ⟨K, fun k hk => ?_⟩
  unfold spec_FreeCells.f frees
  have := h k hk
  by_cases hG : Gok a b s
  · rw [if_pos hG]
    have hsz := Gok_size hG
    rw [hv hG, show min s.size 64 = s.size by omega] at this
    simpa using this
  · rw [if_neg hG]
    rw [hw hG] at this
    exact this
end Go.Proofs.Ytooofofeihkpcaa.Pure
