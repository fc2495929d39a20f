/- The program's IdleCells answers what the reference's answers, for all robots; the answer is new memory. -/
import Derived.Test.YtkbbeenjbkmamaaPso
import Derived.Test.YtkbbeenjbkmamaaPim
import Derived.Test.YtkbbeenjbkmamaaPr
import Derived.Test.YtkbbeenjbkmamaaQ8
set_option linter.unusedSimpArgs false
namespace Go.Proofs.Ytkbbeenjbkmamaa.Pure
open Go.RowKit Go.Proofs.Ytkbbeenjbkmamaa.Q Go.Proofs.YtkbbeenjbkmamaaW.PrintWords Go.Proofs.YtkbbeenjbkmamaaW.PrintLast
theorem markRobotS_l0 : ∀ (d i k : Nat) (l : List RI) (m : Int), i + d = l.length → l.length ≤ 1048576 → 0 ≤ m → m + 4 * d ≤ 1000000000 → d < k → ∃ x, laws_markRobotS.l0 k l m (i : Int) = some (m + 4 * d, x) := by
  intro d
  induction d with
  | zero =>
    intro i k l m hi hl h0 hm hk
    obtain ⟨k, rfl⟩ : ∃ m, k = m + 1 := ⟨k - 1, by omega⟩
    refine ⟨l, ?_⟩
    rw [laws_markRobotS.l0, if_neg (by omega)]
    simp
  | succ d ih =>
    intro i k l m hi hl h0 hm hk
    obtain ⟨k, rfl⟩ : ∃ m, k = m + 1 := ⟨k - 1, by omega⟩
    have e1 : wrap64 (m + 1) = m + 1 := w64 (by omega) (by omega)
    have e2 : wrap64 (m + 1 + 1) = m + 1 + 1 := w64 (by omega) (by omega)
    have e3 : wrap64 (m + 1 + 1 + 1) = m + 1 + 1 + 1 := w64 (by omega) (by omega)
    have e4 : wrap64 (m + 1 + 1 + 1 + 1) = m + 1 + 1 + 1 + 1 := w64 (by omega) (by omega)
    have e9 : wrap64 ((i : Int) + 1) = ((i + 1 : Nat) : Int) := by rw [w64 (by omega) (by omega)]; rfl
    have h1 : (i : Int) < (l.length : Int) := by omega
    have h2 : (0 : Int) ≤ i := by omega
    rw [laws_markRobotS.l0, if_pos h1, if_pos h2, Option.bind_some, Option.bind_some, Option.bind_some, e9, e1, e2, e3, e4]
    have key : ∀ X : List RI, X.length = l.length → ∃ x, laws_markRobotS.l0 k X (m + 1 + 1 + 1 + 1) ((i + 1 : Nat) : Int) = some (m + 4 * ((d + 1 : Nat) : Int), x) := fun X hX => by
      obtain ⟨x, h⟩ := ih (i + 1) k X (m + 1 + 1 + 1 + 1) (by omega) (by omega) (by omega) (by omega) (by omega)
      exact ⟨x, h.trans (by congr 2; omega)⟩
    exact key _ (by simp)
/-- The cells of idle robots. -/
def idles : List RI → List Int
  | [] => []
  | x :: xs => if x.f3 = true then idles xs else if x.f2 < 0 then x.f1 :: idles xs else idles xs
theorem idles_len : ∀ l : List RI, (idles l).length ≤ l.length
  | [] => Nat.le_refl _
  | x :: xs => by
    unfold idles
    have := idles_len xs
    repeat' split
    all_goals simp
    all_goals omega
theorem idle_l0 (l : List RI) (hn : l.length ≤ 1048576) : ∀ (d i : Nat) (acc : List Int), i + d = l.length → acc.length ≤ i → ∃ K, ∀ k, K ≤ k → spec_IdleCells.l0 k l acc (i : Int) = some (asc (acc ++ idles (l.drop i))) ∧ impl_IdleCells.l0 k acc l (l.length : Int) (i : Int) = some (asc (acc ++ idles (l.drop i)))
  | 0, i, acc, hi, ha => by
    obtain ⟨K, h⟩ := specSorted_ev acc (by omega)
    refine ⟨K + 1, fun k hk => ?_⟩
    obtain ⟨k, rfl⟩ : ∃ m, k = m + 1 := ⟨k - 1, by omega⟩
    have h1 : ¬ (i : Int) < (l.length : Int) := by omega
    rw [List.drop_of_length_le (by omega), idles, List.append_nil, spec_IdleCells.l0, impl_IdleCells.l0, if_neg h1, if_neg h1, h k (by omega), implOrdered_eq acc (by omega)]
    exact ⟨rfl, rfl⟩
  | d + 1, i, acc, hi, ha => by
    have hlt : i < l.length := by omega
    have h1 : (i : Int) < (l.length : Int) := by omega
    have h2 : (0 : Int) ≤ i := by omega
    have e9 : wrap64 ((i : Int) + 1) = ((i + 1 : Nat) : Int) := by rw [w64 (by omega) (by omega)]; rfl
    obtain ⟨K, h⟩ := idle_l0 l hn d (i + 1) acc (by omega) (by omega)
    rw [drop_cons l i hlt, idles]
    by_cases c : (l[i]).f3 = true
    · refine ⟨K + 1, fun k hk => ?_⟩
      obtain ⟨k, rfl⟩ : ∃ m, k = m + 1 := ⟨k - 1, by omega⟩
      obtain ⟨q1, q2⟩ := h k (by omega)
      rw [spec_IdleCells.l0, impl_IdleCells.l0, if_pos h1, if_pos h1, if_pos h2, if_pos h2, if_pos h1, rdI_get l i hlt, if_pos c, if_pos c, if_pos c, e9, q1, q2, ite_self]
      exact ⟨rfl, rfl⟩
    · by_cases c2 : (l[i]).f2 < 0
      · obtain ⟨K2, h'⟩ := idle_l0 l hn d (i + 1) (acc ++ [(l[i]).f1]) (by omega) (by simp; omega)
        have h5 : acc.length < 17592186044416 := by omega
        refine ⟨K2 + 1, fun k hk => ?_⟩
        obtain ⟨k, rfl⟩ : ∃ m, k = m + 1 := ⟨k - 1, by omega⟩
        obtain ⟨q1, q2⟩ := h' k (by omega)
        rw [spec_IdleCells.l0, impl_IdleCells.l0, if_pos h1, if_pos h1, if_pos h2, if_pos h2, if_pos h1, rdI_get l i hlt, if_neg c, if_neg c, if_neg c, if_pos c2, if_pos c2, if_pos c2, if_pos h5, if_pos h5, e9, q1, q2, List.append_assoc, List.singleton_append]
        exact ⟨rfl, rfl⟩
      · refine ⟨K + 1, fun k hk => ?_⟩
        obtain ⟨k, rfl⟩ : ∃ m, k = m + 1 := ⟨k - 1, by omega⟩
        obtain ⟨q1, q2⟩ := h k (by omega)
        rw [spec_IdleCells.l0, impl_IdleCells.l0, if_pos h1, if_pos h1, if_pos h2, if_pos h2, if_pos h1, rdI_get l i hlt, if_neg c, if_neg c, if_neg c2, if_neg c2, if_neg c2, e9, q1, q2]
        exact ⟨rfl, rfl⟩
/-- What IdleCells answers. -/
def idleOf (l : List RI) : List Int := asc (idles l)
theorem idle_ev (l : List RI) (hn : l.length ≤ 1048576) : ∃ K, ∀ k, K ≤ k → spec_IdleCells.f k l = some (idleOf l) ∧ impl_IdleCells.f k l = some (idleOf l) := by
  obtain ⟨K, h⟩ := idle_l0 l hn l.length 0 [] (by omega) (Nat.zero_le _)
  refine ⟨K, fun k hk => ?_⟩
  have := h k hk
  rw [List.nil_append, List.drop_zero, show ((0 : Nat) : Int) = 0 from rfl] at this
  exact this
theorem FnExactIdleCells : laws_FnExactIdleCells.Pure := by
  intro l hn hx
  by_cases hl : l.length ≤ 1048576
  · have hml : (l.map toR).length = l.length := by simp
    have hr : (idleOf (l.map toR)).length ≤ 1048576 := by
      unfold idleOf
      refine Nat.le_trans (asc_length _) ?_
      have := idles_len (l.map toR)
      omega
    obtain ⟨K1, h1⟩ := toRobotS_ev l hl
    obtain ⟨K2, h2⟩ := idle_ev (l.map toR) (by omega)
    obtain ⟨K3, h3⟩ := eqRobotS_ev (l.map toR) (by omega)
    obtain ⟨K5, h5⟩ := eqIntS_ev (idleOf (l.map toR)) (idleOf (l.map toR)) (by omega)
    obtain ⟨K7, h7⟩ := markIntS_ev (idleOf (l.map toR)) 1 (by omega) (by omega) (by omega)
    obtain ⟨K8, h8⟩ := heldIntS_ev (idleOf (l.map toR)).length 1 (by omega) (by omega) (by omega)
    have hs := fun k hk => (h2 k hk).1
    have hi := fun k hk => (h2 k hk).2
    obtain ⟨x, h6⟩ := markRobotS_l0 (l.map toR).length 0 (K1 + K2 + K3 + K5 + K7 + K8 + l.length + 2) (l.map toR) 1 (by omega) (by omega) (by omega) (by omega) (by omega)
    have hm : ¬ (1 + 4 * ((l.map toR).length : Int)) < 0 := by omega
    have hq : ¬ (1 + ((idleOf (l.map toR)).length : Int)) < 0 := by omega
    have hz : ¬ (1048576 - (l.length : Int)) < 0 := by omega
    refine ⟨K1 + K2 + K3 + K5 + K7 + K8 + l.length + 2, ?_⟩
    unfold laws_FnExactIdleCells.f
    rw [szR_eq l hn, if_pos hl, Option.bind_some, if_neg hz]
    unfold laws_markRobotS.f
    rw [show ((0 : Nat) : Int) = 0 from rfl] at h6
    simp (disch := omega) only [h1, hs, hi, h3, h5, h6, h7, h8, hm, hq, Option.bind_some, reduceIte, and_self, decide_true, Bool.not_true, Bool.false_eq_true, bne_self_eq_false]
    simp only [laws_FnExactIdleCells.j0]
    simp (disch := omega) only [h1, hs, hi, h3, h5, h6, h7, h8, hm, hq, Option.bind_some, reduceIte, and_self, decide_true, Bool.not_true, Bool.false_eq_true, bne_self_eq_false]
  · refine ⟨0, ?_⟩
    unfold laws_FnExactIdleCells.f
    rw [szR_eq l hn, if_neg hl, Option.bind_some, if_pos (by decide)]
end Go.Proofs.Ytkbbeenjbkmamaa.Pure
