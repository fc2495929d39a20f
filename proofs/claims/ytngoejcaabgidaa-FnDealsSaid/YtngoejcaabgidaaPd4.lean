/- What a deal leaves is never less than nothing. -/
import Derived.Test.YtngoejcaabgidaaPd2
set_option linter.unusedSimpArgs false
namespace Go.Proofs.Ytngoejcaabgidaa.Pure
open Go.RowKit Go.Proofs.Ytngoejcaabgidaa.Q Go.Proofs.YtngoejcaabgidaaW.PrintWords Go.Proofs.YtngoejcaabgidaaW.PrintLast
/-- Numbers as wants and rooms have them. -/
def Small (l : List Int) : Prop := ∀ i : Nat, 0 ≤ rd l (i : Int) ∧ rd l (i : Int) ≤ 10000
theorem Small_of (l : List Int) (h : Wants l = true) : Small l := fun i => by
  by_cases hi : i < l.length
  · rw [rd_get l i hi]
    exact Wants_mem l h _ (List.getElem_mem hi)
  · rw [rd_nat, List.getD_eq_getElem?_getD, List.getElem?_eq_none (by omega)]
    simp
/-- The rooms of those that are full. -/
def sumF (r : List Int) (f : List Bool) : Nat → Nat → Int
  | 0, _ => 0
  | d + 1, i => (if rdOf false f (i : Int) = true then rd r (i : Int) else 0) + sumF r f d (i + 1)
/-- The wants of those that are not. -/
def sumN (w : List Int) (f : List Bool) : Nat → Nat → Int
  | 0, _ => 0
  | d + 1, i => (if rdOf false f (i : Int) = true then 0 else rd w (i : Int)) + sumN w f d (i + 1)
theorem sumF_bound (r : List Int) (hr : Small r) (f : List Bool) : ∀ d i, 0 ≤ sumF r f d i ∧ sumF r f d i ≤ 10000 * d
  | 0, i => by simp [sumF]
  | d + 1, i => by
    have h := sumF_bound r hr f d (i + 1)
    have := hr i
    unfold sumF
    split <;> omega
theorem sumN_bound (w : List Int) (hw : Small w) (f : List Bool) : ∀ d i, 0 ≤ sumN w f d i ∧ sumN w f d i ≤ 10000 * d
  | 0, i => by simp [sumN]
  | d + 1, i => by
    have h := sumN_bound w hw f d (i + 1)
    have := hw i
    unfold sumN
    split <;> omega
theorem sumN_one (w : List Int) (hw : Small w) (f : List Bool) : ∀ (d i j : Nat), i ≤ j → j < i + d → rdOf false f (j : Int) ≠ true → rd w (j : Int) ≤ sumN w f d i
  | 0, i, j, h1, h2, _ => by omega
  | d + 1, i, j, h1, h2, h3 => by
    have hb := sumN_bound w hw f d (i + 1)
    have hi := hw i
    unfold sumN
    by_cases e : i = j
    · subst e
      rw [if_neg h3]
      omega
    · have := sumN_one w hw f d (i + 1) j (by omega) (by omega) h3
      split <;> omega
theorem restL_eq (w r : List Int) (hw : Small w) (hr : Small r) (f : List Bool) (d : Nat) : ∀ (i : Nat) (t s : Int), d ≤ 16 → -1000000000 + 10000 * d ≤ t → t ≤ 1000000000 → 0 ≤ s → s ≤ 1000000000 - 10000 * d → restL w r f d i t s = (t - sumF r f d i, s + sumN w f d i) := by
  induction d with
  | zero => intro i t s _ _ _ _ _; simp [restL, sumF, sumN]
  | succ d ih =>
    intro i t s hd h1 h2 h3 h4
    have hwi := hw i
    have hri := hr i
    unfold restL sumF sumN
    by_cases c : rdOf false f (i : Int) = true
    · rw [if_pos c, if_pos c, if_pos c, w64 (by omega) (by omega), ih (i + 1) _ s (by omega) (by omega) (by omega) h3 (by omega)]
      congr 1 <;> omega
    · rw [if_neg c, if_neg c, if_neg c, w64 (by omega) (by omega), ih (i + 1) t _ (by omega) (by omega) (by omega) (by omega) (by omega)]
      congr 1 <;> omega
theorem rdOf_set (f : List Bool) (i j : Nat) (h : j < f.length) : rdOf false (f.set i true) (j : Int) = if i = j then true else rdOf false f (j : Int) := by
  rw [rdOf_get _ j (by simpa using h), rdOf_get f j h, List.getElem_set]
theorem turns_set (w r : List Int) (x y : Int) (f : List Bool) (i j : Nat) (hj : j < f.length) (hne : i ≠ j) : turns w r x y (f.set i true) j = turns w r x y f j := by
  unfold turns
  rw [rdOf_set f i j hj, if_neg hne]
theorem upd_get (w r : List Int) (x y : Int) : ∀ (d i : Nat) (f : List Bool) (j : Nat), j < f.length → rdOf false (upd w r x y d i f) (j : Int) = if i ≤ j ∧ j < i + d then (rdOf false f (j : Int) || turns w r x y f j) else rdOf false f (j : Int)
  | 0, i, f, j, hj => by rw [if_neg (by omega)]; rfl
  | d + 1, i, f, j, hj => by
    unfold upd
    by_cases c : turns w r x y f i = true
    · rw [if_pos c, upd_get w r x y d (i + 1) (f.set i true) j (by simpa using hj)]
      by_cases e : i = j
      · subst e
        rw [if_neg (by omega), if_pos (by omega), rdOf_set f i i hj, if_pos rfl, c, Bool.or_true]
      · rw [turns_set w r x y f i j hj e, rdOf_set f i j hj, if_neg e]
        by_cases c2 : i + 1 ≤ j ∧ j < i + 1 + d
        · rw [if_pos c2, if_pos (by omega)]
        · rw [if_neg c2, if_neg (by omega)]
    · rw [if_neg c, upd_get w r x y d (i + 1) f j hj]
      by_cases e : i = j
      · subst e
        rw [if_neg (by omega), if_pos (by omega), Bool.eq_false_iff.mpr c, Bool.or_false]
      · by_cases c2 : i + 1 ≤ j ∧ j < i + 1 + d
        · rw [if_pos c2, if_pos (by omega)]
        · rw [if_neg c2, if_neg (by omega)]
theorem turns_iff (w r : List Int) (hw : Small w) (hr : Small r) (x y : Int) (hx : 0 ≤ x ∧ x ≤ 1000000) (hy : 0 ≤ y ∧ y ≤ 1000000) (f : List Bool) (j : Nat) : turns w r x y f j = true ↔ rdOf false f (j : Int) = false ∧ 0 < rd w (j : Int) ∧ y * rd r (j : Int) ≤ x * rd w (j : Int) := by
  have h1 := hw j
  have h2 := hr j
  have a1 : 0 ≤ x * rd w (j : Int) := Int.mul_nonneg hx.1 h1.1
  have a2 : x * rd w (j : Int) ≤ 1000000 * 10000 := Int.mul_le_mul hx.2 h1.2 h1.1 (by omega)
  have a3 : 0 ≤ y * rd r (j : Int) := Int.mul_nonneg hy.1 h2.1
  have a4 : y * rd r (j : Int) ≤ 1000000 * 10000 := Int.mul_le_mul hy.2 h2.2 h2.1 (by omega)
  unfold turns
  rw [w64 (by omega) (by omega), w64 (by omega) (by omega)]
  simp only [Bool.and_eq_true, Bool.not_eq_true', decide_eq_true_eq]
  try exact Iff.rfl
/-- One round: what the newly full ones take is no more than what their wants weigh. -/
theorem upd_sums (w r : List Int) (hw : Small w) (hr : Small r) (x y : Int) (hx : 0 ≤ x ∧ x ≤ 1000000) (hy : 0 ≤ y ∧ y ≤ 1000000) (f g : List Bool) (n : Nat) (hg : ∀ j : Nat, j < n → rdOf false g (j : Int) = (rdOf false f (j : Int) || turns w r x y f j)) :
    ∀ (d i : Nat), i + d ≤ n → y * (sumF r g d i - sumF r f d i) ≤ x * (sumN w f d i - sumN w g d i) ∧ sumN w g d i ≤ sumN w f d i ∧ sumF r f d i ≤ sumF r g d i ∧ (sumN w f d i = 0 → sumF r g d i = sumF r f d i)
  | 0, i, _ => by simp [sumF, sumN]
  | d + 1, i, h => by
    obtain ⟨h1, h2, h3, h4⟩ := upd_sums w r hw hr x y hx hy f g n hg d (i + 1) (by omega)
    have hgi := hg i (by omega)
    have hwi := hw i
    have hri := hr i
    have hbf := sumN_bound w hw f d (i + 1)
    unfold sumF sumN
    by_cases c : turns w r x y f i = true
    · obtain ⟨t1, t2, t3⟩ := (turns_iff w r hw hr x y hx hy f i).mp c
      rw [c, Bool.or_true] at hgi
      rw [hgi, t1]
      simp only [reduceIte, Bool.false_eq_true]
      refine ⟨?_, by omega, by omega, fun h => by omega⟩
      have e1 : y * (rd r (i : Int) + sumF r g d (i + 1) - (0 + sumF r f d (i + 1))) = y * rd r (i : Int) + y * (sumF r g d (i + 1) - sumF r f d (i + 1)) := by rw [← Int.mul_add]; congr 1; omega
      have e2 : x * (rd w (i : Int) + sumN w f d (i + 1) - (0 + sumN w g d (i + 1))) = x * rd w (i : Int) + x * (sumN w f d (i + 1) - sumN w g d (i + 1)) := by rw [← Int.mul_add]; congr 1; omega
      rw [e1, e2]
      omega
    · rw [Bool.eq_false_iff.mpr c, Bool.or_false] at hgi
      rw [hgi]
      by_cases cf : rdOf false f (i : Int) = true
      · rw [if_pos cf, if_pos cf]
        refine ⟨?_, by omega, by omega, fun h => by have := h4 (by omega); omega⟩
        rw [show rd r (i : Int) + sumF r g d (i + 1) - (rd r (i : Int) + sumF r f d (i + 1)) = sumF r g d (i + 1) - sumF r f d (i + 1) by omega, show 0 + sumN w f d (i + 1) - (0 + sumN w g d (i + 1)) = sumN w f d (i + 1) - sumN w g d (i + 1) by omega]
        exact h1
      · rw [if_neg cf, if_neg cf]
        refine ⟨?_, by omega, by omega, fun h => by have := h4 (by omega); omega⟩
        rw [show 0 + sumF r g d (i + 1) - (0 + sumF r f d (i + 1)) = sumF r g d (i + 1) - sumF r f d (i + 1) by omega, show rd w (i : Int) + sumN w f d (i + 1) - (rd w (i : Int) + sumN w g d (i + 1)) = sumN w f d (i + 1) - sumN w g d (i + 1) by omega]
        exact h1
/-- What is left, and the wants of those that are not full. -/
def left2 (w r : List Int) (t : Int) (f : List Bool) : Int × Int := (t - sumF r f w.length 0, sumN w f w.length 0)
theorem restL_left2 (w r : List Int) (hw : Small w) (hr : Small r) (t : Int) (ht : 0 ≤ t ∧ t ≤ 1000000) (hn : w.length ≤ 16) (f : List Bool) : restL w r f w.length 0 t 0 = left2 w r t f := by
  rw [restL_eq w r hw hr f w.length 0 t 0 hn (by omega) (by omega) (by omega) (by omega)]
  unfold left2
  congr 1
  omega
theorem round_left (w r : List Int) (hw : Small w) (hr : Small r) (t : Int) (ht : 0 ≤ t ∧ t ≤ 1000000) (hn : w.length ≤ 16) (f : List Bool) (hf : f.length = w.length) (h : 0 ≤ (left2 w r t f).1) : 0 ≤ (left2 w r t (round w r t f)).1 := by
  have hbF := sumF_bound r hr f w.length 0
  have hbN := sumN_bound w hw f w.length 0
  have hx : 0 ≤ (left2 w r t f).1 ∧ (left2 w r t f).1 ≤ 1000000 := ⟨h, by unfold left2; omega⟩
  have hy : 0 ≤ (left2 w r t f).2 ∧ (left2 w r t f).2 ≤ 1000000 := by unfold left2; omega
  have hg : ∀ j : Nat, j < w.length → rdOf false (round w r t f) (j : Int) = (rdOf false f (j : Int) || turns w r (left2 w r t f).1 (left2 w r t f).2 f j) := fun j hj => by
    unfold round
    rw [restL_left2 w r hw hr t ht hn f, upd_get _ _ _ _ _ _ _ j (by omega), if_pos (by omega)]
  obtain ⟨h1, h2, h3, h4⟩ := upd_sums w r hw hr _ _ hx hy f (round w r t f) w.length hg w.length 0 (by omega)
  have hbG := sumN_bound w hw (round w r t f) w.length 0
  have hx1 : (left2 w r t f).1 = t - sumF r f w.length 0 := rfl
  have hy1 : (left2 w r t f).2 = sumN w f w.length 0 := rfl
  show 0 ≤ t - sumF r (round w r t f) w.length 0
  generalize (left2 w r t f).1 = x at *
  generalize (left2 w r t f).2 = y at *
  generalize sumF r (round w r t f) w.length 0 = G at *
  generalize sumN w (round w r t f) w.length 0 = M at *
  subst hy1
  by_cases hz : sumN w f w.length 0 = 0
  · have := h4 hz
    omega
  · generalize sumN w f w.length 0 = y at *
    have a1 : x * (y - M) ≤ x * y := Int.mul_le_mul_of_nonneg_left (by omega) hx.1
    have a2 : y * (G - sumF r f w.length 0) ≤ y * x := by rw [Int.mul_comm y x]; omega
    have a3 : G - sumF r f w.length 0 ≤ x := Int.le_of_mul_le_mul_left a2 (by omega)
    omega
theorem rounds_left (w r : List Int) (hw : Small w) (hr : Small r) (t : Int) (ht : 0 ≤ t ∧ t ≤ 1000000) (hn : w.length ≤ 16) : ∀ (m : Nat) (f : List Bool), f.length = w.length → 0 ≤ (left2 w r t f).1 → 0 ≤ (left2 w r t (rounds w r t m f)).1
  | 0, f, _, h => h
  | m + 1, f, hf, h => by
    unfold rounds
    exact rounds_left w r hw hr t ht hn m _ (by rw [round_length]; exact hf) (round_left w r hw hr t ht hn f hf h)
theorem sumF_none (r : List Int) (n : Nat) : ∀ d i, sumF r (List.replicate n false) d i = 0
  | 0, i => rfl
  | d + 1, i => by
    unfold sumF
    rw [sumF_none r n d (i + 1), if_neg]
    · rfl
    · unfold rdOf
      rw [Int.toNat_natCast, List.getD_eq_getElem?_getD]
      by_cases h : i < n
      · rw [List.getElem?_eq_getElem (by simpa using h)]; simp
      · rw [List.getElem?_eq_none (by simp; omega)]; simp
theorem roomSum_le (w r : List Int) (hr : Small r) (d : Nat) : ∀ (i : Nat) (acc : Int), d ≤ 16 → 0 ≤ acc → acc ≤ 1000000 - 10000 * d → 0 ≤ roomSum w r d i acc ∧ roomSum w r d i acc ≤ acc + 10000 * d := by
  induction d with
  | zero => intro i acc _ h1 h2; exact ⟨h1, by simp [roomSum]⟩
  | succ d ih =>
    intro i acc hd h1 h2
    have hri := hr i
    unfold roomSum
    split
    · rw [w64 (by omega) (by omega)]
      have := ih (i + 1) (acc + rd r (i : Int)) (by omega) (by omega) (by omega)
      omega
    · have := ih (i + 1) acc (by omega) h1 (by omega)
      omega
/-- All that is known of a deal's arguments. -/
theorem DOk_facts (w r : List Int) (t : Int) (h : DOk w r t = true) : Small w ∧ Small r ∧ w.length = r.length ∧ w.length ≤ 16 ∧ 0 ≤ t ∧ t ≤ 160000 ∧ 0 ≤ (left2 w r t (fullL w r t)).1 ∧ (left2 w r t (fullL w r t)).1 ≤ 160000 := by
  obtain ⟨h1, h2, h3, h4, h5, h6⟩ := DOk_len w r t h
  have hw := Small_of w h3
  have hr := Small_of r h4
  have hs := roomSum_le w r hr w.length 0 0 h2 (by omega) (by omega)
  have hl := rounds_left w r hw hr t ⟨h5, by omega⟩ h2 (w.length + 1) (List.replicate w.length false) (by simp) (by unfold left2; rw [sumF_none]; omega)
  have hb := sumF_bound r hr (fullL w r t) w.length 0
  refine ⟨hw, hr, h1, h2, h5, by omega, ?_, by unfold left2; omega⟩
  unfold fullL
  rw [if_pos h]
  exact hl
end Go.Proofs.Ytngoejcaabgidaa.Pure
