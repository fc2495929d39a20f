/- The law FnAllDealt: when as many are dealt as there is room for, each that wants some has its room; when none are dealt, none has any. -/
import Derived.Test.YtngoejcaabgidaaPdeal
import Derived.Test.YtngoejcaabgidaaPdsh
import Derived.Test.YtngoejcaabgidaaQ25
import Derived.Test.YtngoejcaabgidaaQ22
set_option linter.unusedSimpArgs false
namespace Go.Proofs.Ytngoejcaabgidaa.Pure
open Go.RowKit Go.Proofs.Ytngoejcaabgidaa.Q Go.Proofs.YtngoejcaabgidaaW.PrintWords Go.Proofs.YtngoejcaabgidaaW.PrintLast
theorem dealt_l1 (w r a b : List Int) (hn : w.length ≤ 16) (hr : w.length = r.length) (ha : a.length = w.length) (hb : b.length = w.length) (hw : Small w) (h1 : ∀ i : Nat, i < w.length → rd a (i : Int) = if 0 < rd w (i : Int) then rd r (i : Int) else 0) (h2 : ∀ i : Nat, i < w.length → rd b (i : Int) = 0) : ∀ (d i k : Nat), i + d = w.length → d < k → laws_FnAllDealt.l1 k w r a b (i : Int) = some true
  | 0, i, k, hi, hk => by
    obtain ⟨k, rfl⟩ : ∃ m, k = m + 1 := ⟨k - 1, by omega⟩
    simp only [laws_FnAllDealt.l1]
    rw [if_neg (by omega)]
  | d + 1, i, k, hi, hk => by
    obtain ⟨k, rfl⟩ : ∃ m, k = m + 1 := ⟨k - 1, by omega⟩
    have ih := dealt_l1 w r a b hn hr ha hb hw h1 h2 d (i + 1) k (by omega) (by omega)
    have e9 : wrap64 ((i : Int) + 1) = ((i + 1 : Nat) : Int) := by rw [w64 (by omega) (by omega)]; rfl
    have e1 := h1 i (by omega)
    have e2 := h2 i (by omega)
    have hwi := hw i
    simp only [laws_FnAllDealt.l1]
    rw [if_pos (by omega), if_pos (by omega), e9, e2]
    by_cases c : rd w (i : Int) > 0
    · rw [if_pos c] at e1
      rw [if_pos c, if_pos (by omega), if_pos (by omega), if_pos e1, if_neg (by omega), if_pos (by omega), if_pos rfl]
      exact ih
    · rw [if_neg c] at e1
      rw [if_neg c, if_pos (by omega), if_pos (by omega), if_pos e1, if_pos (by omega), if_pos rfl]
      exact ih
theorem dealt_l0 (w r : List Int) (hn : w.length ≤ 16) (hr : w.length = r.length) : ∀ (d i : Nat) (acc : Int), i + d = w.length → ∀ k, laws_FnAllDealt.l0 (k + d + 1) w r acc (i : Int) = laws_FnAllDealt.l0 (k + 1) w r (roomSum w r d i acc) (w.length : Int)
  | 0, i, acc, hi, k => by
    obtain rfl : i = w.length := by omega
    rfl
  | d + 1, i, acc, hi, k => by
    have e9 : wrap64 ((i : Int) + 1) = ((i + 1 : Nat) : Int) := by rw [w64 (by omega) (by omega)]; rfl
    have hx : laws_FnAllDealt.l0 (k + (d + 1) + 1) w r acc (i : Int) = laws_FnAllDealt.l0 (k + d + 1) w r (if rd w (i : Int) > 0 then wrap64 (acc + rd r (i : Int)) else acc) ((i + 1 : Nat) : Int) := by
      rw [show k + (d + 1) + 1 = (k + d + 1) + 1 by omega, laws_FnAllDealt.l0, if_pos (show (i : Int) < (w.length : Int) by omega), if_pos (show (0 : Int) ≤ (i : Int) by omega), if_pos (show (i : Int) < (r.length : Int) by omega), e9]
      by_cases c : rd w (i : Int) > 0
      · rw [if_pos c, if_pos c]
      · rw [if_neg c, if_neg c]
    rw [hx, dealt_l0 w r hn hr d (i + 1) _ (by omega) k, roomSum]
theorem FnAllDealt : laws_FnAllDealt.Pure := by
  intro s _ _ _
  by_cases hs : s.length ≤ 1048576
  · obtain ⟨w, r, t0, K1, h1, hok⟩ := shares_ev s hs
    obtain ⟨g1, g2, g3, g4, g5, g6⟩ := DOk_len w r t0 hok
    have hsw := Small_of w g3
    have hsr := Small_of r g4
    have hle := roomSum_le w r hsr w.length 0 0 g2 (by omega) (by omega)
    have heq := roomSum_eq w r hsr w.length 0 0 g2 (by omega) (by omega)
    have okA : DOk w r (roomSum w r w.length 0 0) = true := decide_eq_true ⟨g1, g2, g3, g4, hle.1, Int.le_refl _⟩
    have okB : DOk w r 0 = true := decide_eq_true ⟨g1, g2, g3, g4, Int.le_refl _, hle.1⟩
    obtain ⟨K2, h2⟩ := deal_ev w r (roomSum w r w.length 0 0) (by omega) (by omega)
    obtain ⟨K3, h3⟩ := deal_ev w r 0 (by omega) (by omega)
    have lA := dealL_length w r _ okA
    have lB := dealL_length w r _ okB
    have hA := fun k hk => (h2 k hk).2
    have hB := fun k hk => (h3 k hk).2
    refine ⟨K1 + K2 + K3 + w.length + w.length + 3, ?_⟩
    generalize hKK : K1 + K2 + K3 + w.length + 1 = K
    have hk1 := h1 (K1 + K2 + K3 + w.length + w.length + 3) (by omega)
    have e0 := dealt_l0 w r g2 g1 w.length 0 0 (by omega) (K1 + K2 + K3 + w.length + 2)
    rw [show K1 + K2 + K3 + w.length + 2 + w.length + 1 = K1 + K2 + K3 + w.length + w.length + 3 by omega, show ((0 : Nat) : Int) = 0 from rfl] at e0
    unfold laws_FnAllDealt.f laws_big.f
    rw [decide_eq_false (by omega)]
    simp only [Option.bind_some, Bool.false_eq_true, reduceIte]
    rw [hk1]
    simp only [Option.bind_some]
    rw [e0]
    simp only [laws_FnAllDealt.l0]
    rw [if_neg (by omega)]
    simp only [Option.bind_some, List.length_nil, Nat.zero_add, List.nil_append]
    rw [if_pos (by omega), if_pos (by omega), hA _ (by omega)]
    simp only [Option.bind_some]
    rw [hB _ (by omega)]
    simp only [Option.bind_some]
    rw [lA, lB, if_pos (by omega), if_pos (by omega), if_pos rfl]
    simp only [bne_self_eq_false, laws_FnAllDealt.j1, Bool.false_eq_true, reduceIte]
    exact dealt_l1 w r _ _ g2 g1 lA lB hsw (fun i hi => deal_all w r _ okA (by rw [heq]; omega) i hi) (fun i hi => deal_none w r okB i hi) w.length 0 _ (by omega) (by omega)
  · refine ⟨0, ?_⟩
    unfold laws_FnAllDealt.f laws_big.f
    rw [decide_eq_true (by omega)]; rfl
end Go.Proofs.Ytngoejcaabgidaa.Pure
