/- What a deal is like: which places are full, what is left, what each gets. -/
import Derived.Test.YtngoejcaabgidaaPd7
set_option linter.unusedSimpArgs false
namespace Go.Proofs.Ytngoejcaabgidaa.Pure
open Go.RowKit Go.Proofs.Ytngoejcaabgidaa.Q Go.Proofs.YtngoejcaabgidaaW.PrintWords Go.Proofs.YtngoejcaabgidaaW.PrintLast Go.Proofs.YtngoejcaabgidaaW.PrintMore
theorem rounds_end (w r : List Int) (t : Int) : ∀ (m : Nat) (f : List Bool), f.length = w.length → w.length - count f ≤ m → round w r t (rounds w r t m f) = rounds w r t m f
  | m, f, hf, hc => by
    have hu : upd w r (restL w r f w.length 0 t 0).1 (restL w r f w.length 0 t 0).2 w.length 0 f = round w r t f := rfl
    obtain ⟨h1, h2, h3⟩ := chg_tells w r (restL w r f w.length 0 t 0).1 (restL w r f w.length 0 t 0).2 w.length 0 f false (by omega)
    rw [hu] at h1 h2 h3
    have hrl := round_length w r t f
    have hgl := count_le (round w r t f)
    cases hb : chg w r (restL w r f w.length 0 t 0).1 (restL w r f w.length 0 t 0).2 w.length 0 f false with
    | false =>
      have hfix := (h1 hb).2
      rw [rounds_fix w r t f hfix, hfix]
    | true =>
      have hlt : count f < count (round w r t f) := (h3 hb).resolve_left (by decide)
      match m with
      | 0 => exfalso; omega
      | m + 1 =>
        unfold rounds
        exact rounds_end w r t m (round w r t f) (by rw [hrl]; exact hf) (by omega)
theorem fullL_fix (w r : List Int) (t : Int) (h : DOk w r t = true) : round w r t (fullL w r t) = fullL w r t := by
  unfold fullL
  rw [if_pos h]
  exact rounds_end w r t _ _ (by simp) (by omega)
theorem upd_pos (w r : List Int) (x y : Int) (f : List Bool) (n j : Nat) (hj : j < f.length) (h : rdOf false (upd w r x y n 0 f) (j : Int) = true) : rdOf false f (j : Int) = true ∨ 0 < rd w (j : Int) := by
  rw [upd_get w r x y n 0 f j hj] at h
  split at h
  · rcases Bool.or_eq_true _ _ ▸ h with e | e
    · exact .inl e
    · right
      unfold turns at e
      simp only [Bool.and_eq_true, decide_eq_true_eq] at e
      omega
  · exact .inl h
theorem rounds_pos (w r : List Int) (t : Int) (j : Nat) (hj : j < w.length) : ∀ (m : Nat) (f : List Bool), f.length = w.length → (rdOf false f (j : Int) = true → 0 < rd w (j : Int)) → rdOf false (rounds w r t m f) (j : Int) = true → 0 < rd w (j : Int)
  | 0, f, _, h0, h => h0 h
  | m + 1, f, hf, h0, h => by
    unfold rounds at h
    refine rounds_pos w r t j hj m (round w r t f) (by rw [round_length]; exact hf) (fun h1 => ?_) h
    exact (upd_pos w r _ _ f _ j (by omega) h1).elim h0 id
/-- Only those that want some are full. -/
theorem fullL_pos (w r : List Int) (t : Int) (h : DOk w r t = true) (j : Nat) (hj : j < w.length) (hf : rdOf false (fullL w r t) (j : Int) = true) : 0 < rd w (j : Int) := by
  unfold fullL at hf
  rw [if_pos h] at hf
  refine rounds_pos w r t j hj _ _ (by simp) (fun h0 => ?_) hf
  rw [rdOf_get _ j (by simpa using hj)] at h0
  simp at h0
/-- What is left is too little to fill another one. -/
theorem fullL_rest (w r : List Int) (t : Int) (h : DOk w r t = true) (j : Nat) (hj : j < w.length) (hf : rdOf false (fullL w r t) (j : Int) ≠ true) (hw : 0 < rd w (j : Int)) : (left2 w r t (fullL w r t)).1 * rd w (j : Int) < (left2 w r t (fullL w r t)).2 * rd r (j : Int) := by
  obtain ⟨hsw, hsr, hl, hn, ht0, ht1, hR0, hR1⟩ := DOk_facts w r t h
  have hlen := fullL_length w r t h
  have hfix := fullL_fix w r t h
  have hbN := sumN_bound w hsw (fullL w r t) w.length 0
  unfold round at hfix
  rw [restL_left2 w r hsw hsr t (by omega) hn] at hfix
  have hg := upd_get w r (left2 w r t (fullL w r t)).1 (left2 w r t (fullL w r t)).2 w.length 0 (fullL w r t) j (by omega)
  rw [hfix, if_pos (by omega)] at hg
  have ht : ¬ turns w r (left2 w r t (fullL w r t)).1 (left2 w r t (fullL w r t)).2 (fullL w r t) j = true := fun e => by
    rw [e, Bool.or_true] at hg
    exact hf hg
  rw [turns_iff w r hsw hsr _ _ (by omega) (by unfold left2; omega)] at ht
  have hf' : rdOf false (fullL w r t) (j : Int) = false := by simpa using hf
  exact Int.not_le.mp fun e => ht ⟨hf', hw, e⟩
/-- The rooms of those that want some. -/
def sumW (w r : List Int) : Nat → Nat → Int
  | 0, _ => 0
  | d + 1, i => (if rd w (i : Int) > 0 then rd r (i : Int) else 0) + sumW w r d (i + 1)
/-- The rooms of those that want some and are not full. -/
def sumU (w r : List Int) (f : List Bool) : Nat → Nat → Int
  | 0, _ => 0
  | d + 1, i => (if rdOf false f (i : Int) = true then 0 else if rd w (i : Int) > 0 then rd r (i : Int) else 0) + sumU w r f d (i + 1)
theorem roomSum_eq (w r : List Int) (hr : Small r) (d : Nat) : ∀ (i : Nat) (acc : Int), d ≤ 16 → 0 ≤ acc → acc ≤ 1000000 - 10000 * d → roomSum w r d i acc = acc + sumW w r d i := by
  induction d with
  | zero => intro i acc _ _ _; simp [roomSum, sumW]
  | succ d ih =>
    intro i acc hd h1 h2
    have hri := hr i
    unfold roomSum sumW
    by_cases c : rd w (i : Int) > 0
    · rw [if_pos c, if_pos c, w64 (by omega) (by omega), ih (i + 1) _ (by omega) (by omega) (by omega)]
      omega
    · rw [if_neg c, if_neg c, ih (i + 1) acc (by omega) h1 (by omega)]
      omega
theorem sumW_parts (w r : List Int) (f : List Bool) (n : Nat) (hp : ∀ j : Nat, j < n → rdOf false f (j : Int) = true → 0 < rd w (j : Int)) : ∀ d i, i + d ≤ n → sumW w r d i = sumF r f d i + sumU w r f d i
  | 0, _, _ => rfl
  | d + 1, i, h => by
    have ih := sumW_parts w r f n hp d (i + 1) (by omega)
    unfold sumW sumF sumU
    by_cases c : rdOf false f (i : Int) = true
    · have := hp i (by omega) c
      rw [if_pos c, if_pos c, if_pos this]
      omega
    · rw [if_neg c, if_neg c]
      omega
theorem sumU_lt (w r : List Int) (f : List Bool) (R D : Int) (n : Nat) (hw : Small w) (h : ∀ j : Nat, j < n → rdOf false f (j : Int) ≠ true → 0 < rd w (j : Int) → R * rd w (j : Int) < D * rd r (j : Int)) : ∀ d i, i + d ≤ n → R * sumN w f d i ≤ D * sumU w r f d i ∧ ((∃ j : Nat, i ≤ j ∧ j < i + d ∧ rdOf false f (j : Int) ≠ true ∧ 0 < rd w (j : Int)) → R * sumN w f d i < D * sumU w r f d i)
  | 0, i, _ => ⟨by simp [sumN, sumU], fun ⟨j, h1, h2, _⟩ => by omega⟩
  | d + 1, i, hi => by
    obtain ⟨h1, h2⟩ := sumU_lt w r f R D n hw h d (i + 1) (by omega)
    have hwi := hw i
    unfold sumN sumU
    rw [Int.mul_add, Int.mul_add]
    by_cases c : rdOf false f (i : Int) = true
    · rw [if_pos c, if_pos c, Int.mul_zero, Int.mul_zero]
      refine ⟨by omega, fun ⟨j, j1, j2, j3, j4⟩ => ?_⟩
      have := h2 ⟨j, by
        by_cases e : i = j
        · subst e; exact absurd c j3
        · omega, by omega, j3, j4⟩
      omega
    · rw [if_neg c, if_neg c]
      by_cases c2 : rd w (i : Int) > 0
      · rw [if_pos c2]
        have := h i (by omega) c c2
        exact ⟨by omega, fun _ => by omega⟩
      · have hz : rd w (i : Int) = 0 := by omega
        rw [if_neg c2, hz, Int.mul_zero, Int.mul_zero]
        refine ⟨by omega, fun ⟨j, j1, j2, j3, j4⟩ => ?_⟩
        have := h2 ⟨j, by
          by_cases e : i = j
          · subst e; omega
          · omega, by omega, j3, j4⟩
        omega
theorem sumF_one (r : List Int) (hr : Small r) (f : List Bool) : ∀ (d i j : Nat), i ≤ j → j < i + d → rdOf false f (j : Int) = true → rd r (j : Int) ≤ sumF r f d i
  | 0, i, j, h1, h2, _ => by omega
  | d + 1, i, j, h1, h2, h3 => by
    have hb := sumF_bound r hr f d (i + 1)
    have hi := hr i
    unfold sumF
    by_cases e : i = j
    · subst e
      rw [if_pos h3]
      omega
    · have := sumF_one r hr f d (i + 1) j (by omega) (by omega) h3
      split <;> omega
/-- Where as many are dealt as there is room for, all that want some are full. -/
theorem full_all (w r : List Int) (t : Int) (h : DOk w r t = true) (ht : t = sumW w r w.length 0) (j : Nat) (hj : j < w.length) (hw : 0 < rd w (j : Int)) : rdOf false (fullL w r t) (j : Int) = true := by
  obtain ⟨hsw, hsr, hl, hn, ht0, ht1, hR0, hR1⟩ := DOk_facts w r t h
  refine Decidable.byContradiction fun hf => ?_
  have hp := sumW_parts w r (fullL w r t) w.length (fun j hj hf => fullL_pos w r t h j hj hf) w.length 0 (by omega)
  have hlt := (sumU_lt w r (fullL w r t) _ _ w.length hsw (fun j hj hf hw => fullL_rest w r t h j hj hf hw) w.length 0 (by omega)).2 ⟨j, by omega, by omega, hf, hw⟩
  have e1 : (left2 w r t (fullL w r t)).1 = sumU w r (fullL w r t) w.length 0 := by
    show t - sumF r (fullL w r t) w.length 0 = _
    omega
  have e2 : (left2 w r t (fullL w r t)).2 = sumN w (fullL w r t) w.length 0 := rfl
  rw [e1, e2, Int.mul_comm] at hlt
  omega
/-- What place i gets. -/
theorem dealL_get (w r : List Int) (t : Int) (h : DOk w r t = true) (i : Nat) (hi : i < w.length) : rd (dealL w r t) (i : Int) = baseD w r (fullL w r t) (left2 w r t (fullL w r t)).1 (left2 w r t (fullL w r t)).2 i + if (i : Int) ∈ (sortD w (fullL w r t) (left2 w r t (fullL w r t)).1 (left2 w r t (fullL w r t)).2).take (more ((left2 w r t (fullL w r t)).1 - qsumD w (fullL w r t) (left2 w r t (fullL w r t)).1 (left2 w r t (fullL w r t)).2 w.length 0) (sortD w (fullL w r t) (left2 w r t (fullL w r t)).1 (left2 w r t (fullL w r t)).2).length) then 1 else 0 := by
  unfold dealL
  rw [if_pos h]
  unfold outAt
  rw [rd_map w.length _ i hi]
theorem dealL_length (w r : List Int) (t : Int) (h : DOk w r t = true) : (dealL w r t).length = w.length := by
  unfold dealL
  rw [if_pos h, outAt_length]
theorem qsumD_zero (w : List Int) (f : List Bool) (D : Int) : ∀ d i, qsumD w f 0 D d i = 0
  | 0, _ => rfl
  | d + 1, i => by
    unfold qsumD
    rw [qsumD_zero w f D d (i + 1), Int.zero_mul, Int.zero_tdiv]
    repeat' split
    all_goals rfl
/-- None are dealt: none has any. -/
theorem deal_none (w r : List Int) (h : DOk w r 0 = true) (i : Nat) (hi : i < w.length) : rd (dealL w r 0) (i : Int) = 0 := by
  obtain ⟨hsw, hsr, hl, hn, ht0, ht1, hR0, hR1⟩ := DOk_facts w r 0 h
  have hb := sumF_bound r hsr (fullL w r 0) w.length 0
  have hF : sumF r (fullL w r 0) w.length 0 = 0 := by
    have : 0 ≤ 0 - sumF r (fullL w r 0) w.length 0 := hR0
    omega
  have hR : (left2 w r 0 (fullL w r 0)).1 = 0 := by
    show 0 - sumF r (fullL w r 0) w.length 0 = 0
    omega
  rw [dealL_get w r 0 h i hi, hR, qsumD_zero]
  have hm : more (0 - 0) (sortD w (fullL w r 0) 0 (left2 w r 0 (fullL w r 0)).2).length = 0 := by
    have := more_eq (0 - 0) (sortD w (fullL w r 0) 0 (left2 w r 0 (fullL w r 0)).2).length
    rw [if_pos (by omega)] at this
    omega
  rw [hm, List.take_zero, if_neg (by simp), Int.add_zero]
  unfold baseD
  rw [Int.zero_mul, Int.zero_tdiv]
  by_cases c : rdOf false (fullL w r 0) (i : Int) = true
  · rw [if_pos c]
    have := sumF_one r hsr _ w.length 0 i (by omega) (by omega) c
    have := hsr i
    omega
  · rw [if_neg c]
    split <;> rfl
/-- All are dealt: each that wants some has its room. -/
theorem deal_all (w r : List Int) (t : Int) (h : DOk w r t = true) (ht : t = sumW w r w.length 0) (i : Nat) (hi : i < w.length) : rd (dealL w r t) (i : Int) = if 0 < rd w (i : Int) then rd r (i : Int) else 0 := by
  obtain ⟨hsw, hsr, hl, hn, ht0, ht1, hR0, hR1⟩ := DOk_facts w r t h
  obtain ⟨hp, _⟩ := sortD_spec w (fullL w r t) (left2 w r t (fullL w r t)).1 (left2 w r t (fullL w r t)).2 hsw ⟨hR0, hR1⟩
  rw [dealL_get w r t h i hi, if_neg, Int.add_zero]
  · unfold baseD
    by_cases c : 0 < rd w (i : Int)
    · rw [if_pos (full_all w r t h ht i hi c), if_pos c]
    · rw [if_neg (fun e => c (fullL_pos w r t h i hi e)), if_neg (by omega), if_neg c]
  · intro hm
    obtain ⟨a, e, _, ha, hf, hw⟩ := (plcD_mem w (fullL w r t) w.length 0 _).mp (hp.mem_iff.mp (List.mem_of_mem_take hm))
    exact hf (full_all w r t h ht a (by omega) hw)
end Go.Proofs.Ytngoejcaabgidaa.Pure
