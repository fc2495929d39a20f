/- The program's HolderOf answers what the reference's answers, for every list of robots and every cell: the number of the first robot that holds the cell, or -1. -/
import Derived.Test.YtkbbeenjbkmamaaPr
import Derived.Test.YtkbbeenjbkmamaaPc
import Derived.Test.YtkbbeenjbkmamaaQ7
set_option linter.unusedSimpArgs false
namespace Go.Proofs.Ytkbbeenjbkmamaa.Pure
open Go.RowKit Go.Proofs.Ytkbbeenjbkmamaa.Q Go.Proofs.YtkbbeenjbkmamaaW.PrintWords Go.Proofs.YtkbbeenjbkmamaaW.PrintLast
/-- The number of the first robot that holds the cell. -/
def holder (c : Int) : List RI → Int
  | [] => -1
  | x :: xs => if 0 ≤ c ∧ (x.f1 = c ∨ x.f2 = c) then x.f0 else holder c xs
theorem holder_neg (c : Int) (h : ¬ 0 ≤ c) : ∀ l : List RI, holder c l = -1
  | [] => rfl
  | x :: xs => by unfold holder; rw [if_neg (fun e => h e.1)]; exact holder_neg c h xs
theorem specHolder_l0 (l : List RI) (c : Int) (hn : l.length ≤ 9223372036854775807) : ∀ (d i k : Nat), i + d = l.length → 2 * d + 1 < k → spec_HolderOf.l0 k l c (i : Int) = some (holder c (l.drop i))
  | 0, i, k, hi, hk => by
    obtain ⟨k, rfl⟩ : ∃ m, k = m + 2 := ⟨k - 2, by omega⟩
    simp only [spec_HolderOf.l0, spec_HolderOf.j1]
    rw [if_neg (by omega), List.drop_of_length_le (by omega)]
    rfl
  | d + 1, i, k, hi, hk => by
    obtain ⟨k, rfl⟩ : ∃ m, k = m + 2 := ⟨k - 2, by omega⟩
    simp only [spec_HolderOf.l0, spec_HolderOf.j1]
    rw [if_pos (by omega)]
    by_cases hc : 0 ≤ c
    · rw [if_pos (by simpa using hc), if_pos (by omega), if_pos (by omega), rdI_get l i (by omega), drop_cons l i (by omega), holder]
      by_cases e1 : (l[i]'(by omega)).f1 = c
      · rw [if_pos e1, if_pos ⟨hc, .inl e1⟩]
      · rw [if_neg e1]
        by_cases e2 : (l[i]'(by omega)).f2 = c
        · rw [if_pos e2, if_pos ⟨hc, .inr e2⟩]
        · rw [if_neg e2, if_neg (fun e => e.2.elim e1 e2), w64 (by omega) (by omega), show ((i : Int) + 1) = ((i + 1 : Nat) : Int) by omega, specHolder_l0 l c hn d (i + 1) k (by omega) (by omega)]
    · rw [if_neg (by simpa using hc), holder_neg c hc]
theorem held_eq (x : RI) (c : Int) (hc : 0 ≤ c) (k : Nat) (hk : 3 ≤ k) : ((impl_heldBy.f x.f0 x.f1 x.f2 x.f3).bind fun t => slices_Contains_int_int.f k t c) = some (decide (x.f1 = c ∨ x.f2 = c)) := by
  unfold impl_heldBy.f
  by_cases h : x.f2 < 0
  · rw [if_pos h, Option.bind_some, contains_eq _ _ (by simp) k (by simp; omega)]
    congr 1
    refine decide_eq_decide.mpr ⟨fun e => .inl ?_, fun e => ?_⟩
    · exact (by simpa using e : c = x.f1).symm
    · rcases e with e | e
      · simp [e]
      · omega
  · rw [if_neg h, Option.bind_some, contains_eq _ _ (by simp) k (by simp; omega)]
    congr 1
    refine decide_eq_decide.mpr ⟨fun e => ?_, fun e => ?_⟩
    · simp at e
      rcases e with e | e
      · exact .inl e.symm
      · exact .inr e.symm
    · rcases e with e | e
      · simp [e]
      · simp [e]
theorem implHolder_l0 (l : List RI) (c : Int) (hn : l.length ≤ 9223372036854775807) : ∀ (d i k : Nat), i + d = l.length → d + 3 < k → impl_HolderOf.l0 k c l (l.length : Int) (i : Int) = some (holder c (l.drop i))
  | 0, i, k, hi, hk => by
    obtain ⟨k, rfl⟩ : ∃ m, k = m + 1 := ⟨k - 1, by omega⟩
    simp only [impl_HolderOf.l0]
    rw [if_neg (by omega), List.drop_of_length_le (by omega)]
    rfl
  | d + 1, i, k, hi, hk => by
    obtain ⟨k, rfl⟩ : ∃ m, k = m + 1 := ⟨k - 1, by omega⟩
    simp only [impl_HolderOf.l0]
    rw [if_pos (by omega), if_pos (by omega), if_pos (by omega), rdI_get l i (by omega), drop_cons l i (by omega), holder, w64 (by omega) (by omega), show ((i : Int) + 1) = ((i + 1 : Nat) : Int) by omega,
      implHolder_l0 l c hn d (i + 1) k (by omega) (by omega)]
    by_cases hc : 0 ≤ c
    · rw [if_pos (by omega)]
      have h := held_eq (l[i]'(by omega)) c hc k (by omega)
      obtain ⟨t, ht, h⟩ := Option.bind_eq_some_iff.mp h
      rw [ht, Option.bind_some, h, Option.bind_some]
      by_cases e : (l[i]'(by omega)).f1 = c ∨ (l[i]'(by omega)).f2 = c
      · rw [decide_eq_true e, if_pos rfl, if_pos ⟨hc, e⟩]
      · rw [decide_eq_false e, if_neg (by decide), if_neg (fun q => e q.2)]
    · rw [if_neg (by omega), if_neg (fun q => hc q.1)]
theorem FnExactHolderOf : laws_FnExactHolderOf.Pure := by
  intro l c hn wl wi
  by_cases hl : l.length ≤ 1048576
  · obtain ⟨K1, h1⟩ := toRobotS_ev l hl
    have hm : (l.map toR).length ≤ 9223372036854775807 := by simp; omega
    have h2 : ∀ k, 2 * (l.map toR).length + 2 ≤ k → spec_HolderOf.f k (l.map toR) c = some (holder c (l.map toR)) := fun k hk => specHolder_l0 (l.map toR) c hm (l.map toR).length 0 k (by omega) (by omega)
    have h4 : ∀ k, (l.map toR).length + 4 ≤ k → impl_HolderOf.f k (l.map toR) c = some (holder c (l.map toR)) := fun k hk => implHolder_l0 (l.map toR) c hm (l.map toR).length 0 k (by omega) (by omega)
    obtain ⟨K3, h3⟩ := eqRobotS_ev (l.map toR) hm
    refine ⟨K1 + K3 + (2 * (l.map toR).length + 4), ?_⟩
    unfold laws_FnExactHolderOf.f
    have hs : ¬ (1048576 - (l.length : Int)) < 0 := by omega
    simp (disch := omega) only [szR_eq l hn, hl, h1, h2, h3, h4, hs, Option.bind_some, reduceIte, Bool.false_eq_true]
  · refine ⟨0, ?_⟩
    unfold laws_FnExactHolderOf.f
    rw [szR_eq l hn, Option.bind_some, if_neg hl, if_pos (by omega)]
end Go.Proofs.Ytkbbeenjbkmamaa.Pure
