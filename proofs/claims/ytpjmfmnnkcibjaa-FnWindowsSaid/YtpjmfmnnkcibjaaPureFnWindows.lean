/- The windows' law: one order more, and nothing is left after as many ticks as buckets. -/
import Derived.Test.YtpjmfmnnkcibjaaPwd
import Derived.Test.YtpjmfmnnkcibjaaQ28
set_option linter.unusedSimpArgs false
set_option linter.unusedSectionVars false
namespace Go.Proofs.Ytpjmfmnnkcibjaa.Pure
open Go.RowKit Go.Proofs.Ytpjmfmnnkcibjaa.Q Go.Proofs.YtpjmfmnnkcibjaaW.PrintWords Go.Proofs.YtpjmfmnnkcibjaaW.PrintLast
/-- The sum of a zone's counts in d buckets from bucket j on. -/
def sm (l : List Int) (z : Int) : Nat → Nat → Int
  | 0, _ => 0
  | d + 1, j => rd l ((j : Int) * 6 + z) + sm l z d (j + 1)
theorem sm_succ (l : List Int) (z : Int) (d j : Nat) : sm l z (d + 1) j = rd l ((j : Int) * 6 + z) + sm l z d (j + 1) := rfl
theorem rd_range (a b : Int) (l : List Int) (h : WOk a b l = true) (i : Int) : 0 ≤ rd l i ∧ rd l i ≤ b := by
  obtain ⟨h1, h2, h3, h4, h5, h6⟩ := WOk_iff a b l h
  unfold rd
  rcases Nat.lt_or_ge i.toNat l.length with c | c
  · rw [List.getD_eq_getElem?_getD, List.getElem?_eq_getElem c]
    exact h6 _ (List.getElem_mem _)
  · rw [List.getD_eq_getElem?_getD, List.getElem?_eq_none c]
    show 0 ≤ (0 : Int) ∧ (0 : Int) ≤ b
    omega
theorem sm_range (a b : Int) (l : List Int) (h : WOk a b l = true) (z : Int) : ∀ d j, 0 ≤ sm l z d j ∧ sm l z d j ≤ 100 * d
  | 0, j => ⟨Int.le_refl _, by simp [sm]⟩
  | d + 1, j => by
    have h1 := rd_range a b l h ((j : Int) * 6 + z)
    have h2 := sm_range a b l h z d (j + 1)
    have h3 := (WOk_iff a b l h).2.2.2.1
    unfold sm
    omega
theorem dem_sm (a b : Int) (l : List Int) (h : WOk a b l = true) (z : Int) : ∀ (d j : Nat) (acc : Int), 0 ≤ acc → acc + 100 * d ≤ 1000000 → dem l z d acc (j : Int) = acc + sm l z d j
  | 0, j, acc, h0, h1 => by simp [dem, sm]
  | d + 1, j, acc, h0, h1 => by
    have h2 := rd_range a b l h ((j : Int) * 6 + z)
    have h3 := (WOk_iff a b l h).2.2.2.1
    unfold dem sm
    rw [w64 (by omega) (by omega), show ((j : Int) + 1) = ((j + 1 : Nat) : Int) by omega, dem_sm a b l h z d (j + 1) _ (by omega) (by omega)]
    omega
theorem demOf_sm (a b : Int) (l : List Int) (h : WOk a b l = true) (z : Int) (hz : 0 ≤ z ∧ z ≤ 5) : demOf a b l z = sm l z a.toNat 0 := by
  obtain ⟨h1, h2, _⟩ := WOk_iff a b l h
  unfold demOf
  rw [if_pos ⟨h, hz.1, hz.2⟩]
  have := dem_sm a b l h z a.toNat 0 0 (by omega) (by omega)
  rw [show ((0 : Nat) : Int) = 0 from rfl] at this
  rw [this]; omega
theorem rd_set (l : List Int) (z v : Int) (hz : 0 ≤ z) (hl : z < l.length) (i : Int) (hi : 0 ≤ i) : rd (l.set z.toNat v) i = if i = z then v else rd l i := by
  unfold rd
  rw [List.getD_eq_getElem?_getD, List.getD_eq_getElem?_getD, List.getElem?_set]
  by_cases e : i = z
  · subst e
    rw [if_pos rfl, if_pos (by omega), if_pos rfl]; rfl
  · rw [if_neg (by omega), if_neg e]
theorem sm_set (l : List Int) (z v k : Int) (hz : 0 ≤ z ∧ z ≤ 5) (hl : z < l.length) (hk : 0 ≤ k ∧ k ≤ 5) : ∀ d j, 1 ≤ j → sm (l.set z.toNat v) k d j = sm l k d j
  | 0, _, _ => rfl
  | d + 1, j, hj => by
    unfold sm
    rw [rd_set l z v hz.1 hl _ (by omega), if_neg (by omega), sm_set l z v k hz hl hk d (j + 1) (by omega)]
/-- One order more. -/
theorem order_dem (a b : Int) (l : List Int) (h : WOk a b l = true) (z : Int) (hz : 0 ≤ z ∧ z ≤ 5) : demOf a b (orderL a b l z) z = demOf a b l z + (if rd l z = b then 0 else 1) := by
  have hw := WOk_order a b l z h
  obtain ⟨h1, h2, h3, h4, h5, h6⟩ := WOk_iff a b l h
  rw [demOf_sm a b _ hw z hz, demOf_sm a b l h z hz]
  obtain ⟨D, hD⟩ : ∃ D, a.toNat = D + 1 := ⟨a.toNat - 1, by omega⟩
  have hr := rd_range a b l h z
  have ho : orderL a b l z = l.set z.toNat (mn (wrap64 (rd l z + 1)) b) := by unfold orderL; rw [if_pos ⟨h, hz.1, hz.2⟩]
  rw [ho, hD]
  unfold sm
  rw [sm_set l z _ z hz (by omega) hz D 1 (by omega), rd_set l z _ hz.1 (by omega) _ (by omega), if_pos (by omega), w64 (by omega) (by omega), show ((0 : Nat) : Int) * 6 + z = z by omega]
  unfold mn
  simp only [Nat.zero_add]
  by_cases c : rd l z = b
  · rw [if_pos c]; split <;> omega
  · rw [if_neg c]; split <;> omega
theorem order_other (a b : Int) (l : List Int) (h : WOk a b l = true) (z k : Int) (hz : 0 ≤ z ∧ z ≤ 5) (hk : 0 ≤ k ∧ k ≤ 5) (hne : k ≠ z) : demOf a b (orderL a b l z) k = demOf a b l k := by
  have hw := WOk_order a b l z h
  obtain ⟨h1, h2, h3, h4, h5, h6⟩ := WOk_iff a b l h
  rw [demOf_sm a b _ hw k hk, demOf_sm a b l h k hk]
  obtain ⟨D, hD⟩ : ∃ D, a.toNat = D + 1 := ⟨a.toNat - 1, by omega⟩
  have ho : orderL a b l z = l.set z.toNat (mn (wrap64 (rd l z + 1)) b) := by unfold orderL; rw [if_pos ⟨h, hz.1, hz.2⟩]
  rw [ho, hD]
  unfold sm
  rw [sm_set l z _ k hz (by omega) hk D 1 (by omega), rd_set l z _ hz.1 (by omega) _ (by omega), if_neg (by omega)]
theorem turned_rd (a b : Int) (l : List Int) (h : WOk a b l = true) (z : Int) (hz : 0 ≤ z ∧ z ≤ 5) (j : Nat) (hj : (j : Int) < a) : rd (turnedL a b l) ((j : Int) * 6 + z) = if j = 0 then 0 else rd l (((j - 1 : Nat) : Int) * 6 + z) := by
  obtain ⟨h1, h2, h3, h4, h5, h6⟩ := WOk_iff a b l h
  unfold turnedL rd
  rw [if_pos h, List.getD_eq_getElem?_getD]
  by_cases c : j = 0
  · rw [if_pos c, List.getElem?_append_left (by simp; omega), List.getElem?_replicate, if_pos (by omega)]; rfl
  · rw [if_neg c, List.getElem?_append_right (by simp; omega), List.length_replicate, List.getElem?_take, if_pos (by omega), List.getD_eq_getElem?_getD, show ((j : Int) * 6 + z).toNat - 6 = (((j - 1 : Nat) : Int) * 6 + z).toNat by omega]
theorem sm_turned (a b : Int) (l : List Int) (h : WOk a b l = true) (z : Int) (hz : 0 ≤ z ∧ z ≤ 5) : ∀ d j : Nat, (j : Int) + 1 + d ≤ a → sm (turnedL a b l) z d (j + 1) = sm l z d j
  | 0, _, _ => rfl
  | d + 1, j, hj => by
    unfold sm
    rw [turned_rd a b l h z hz (j + 1) (by omega), if_neg (by omega), show j + 1 - 1 = j by omega, sm_turned a b l h z hz d (j + 1) (by omega)]
theorem sm_last (l : List Int) (z : Int) : ∀ d j, sm l z (d + 1) j = sm l z d j + rd l (((j + d : Nat) : Int) * 6 + z)
  | 0, j => by simp [sm]
  | d + 1, j => by
    have := sm_last l z d (j + 1)
    unfold sm
    rw [this, show j + 1 + d = j + (d + 1) by omega]
    omega
theorem turned_dem (a b : Int) (l : List Int) (h : WOk a b l = true) (z : Int) (hz : 0 ≤ z ∧ z ≤ 5) : demOf a b (turnedL a b l) z ≤ demOf a b l z := by
  have hw := WOk_turned a b l h
  obtain ⟨h1, h2, _⟩ := WOk_iff a b l h
  rw [demOf_sm a b _ hw z hz, demOf_sm a b l h z hz]
  obtain ⟨D, hD⟩ : ∃ D, a.toNat = D + 1 := ⟨a.toNat - 1, by omega⟩
  have hr := (rd_range a b l h (((0 + D : Nat) : Int) * 6 + z)).1
  rw [hD, sm_last l z D 0, sm_succ, turned_rd a b l h z hz 0 (by omega), if_pos rfl, sm_turned a b l h z hz D 0 (by omega)]
  omega
/-- The first i buckets are empty. -/
def Clean (l : List Int) (i : Nat) : Prop := ∀ (j : Nat) (z : Int), j < i → 0 ≤ z ∧ z ≤ 5 → rd l ((j : Int) * 6 + z) = 0
theorem Clean_turned (a b : Int) (l : List Int) (h : WOk a b l = true) (i : Nat) (hi : (i : Int) < a) (hc : Clean l i) : Clean (turnedL a b l) (i + 1) := by
  intro j z hj hz
  rw [turned_rd a b l h z hz j (by omega)]
  by_cases c : j = 0
  · rw [if_pos c]
  · rw [if_neg c]; exact hc (j - 1) z (by omega) hz
theorem sm_clean (l : List Int) (i : Nat) (hc : Clean l i) (z : Int) (hz : 0 ≤ z ∧ z ≤ 5) : ∀ d j, j + d ≤ i → sm l z d j = 0
  | 0, _, _ => rfl
  | d + 1, j, hj => by
    unfold sm
    rw [hc j z (by omega) hz, sm_clean l i hc z hz d (j + 1) (by omega)]; rfl
theorem demsFrom_get (a b : Int) (l : List Int) : ∀ (d : Nat) (i : Int) (k : Nat), k < d → (demsFrom a b l d i)[k]? = some (demOf a b l (i + k))
  | 0, i, k, h => absurd h (Nat.not_lt_zero _)
  | d + 1, i, 0, h => by simp [demsFrom]
  | d + 1, i, k + 1, h => by
    unfold demsFrom
    rw [List.getElem?_cons_succ, demsFrom_get a b l d (i + 1) k (by omega), show i + 1 + (k : Int) = i + ((k + 1 : Nat) : Int) by omega]
theorem demsOf_rd (a b : Int) (l : List Int) (h : WOk a b l = true) (z : Int) (hz : 0 ≤ z ∧ z ≤ 5) : rd (demsOf a b l) z = demOf a b l z := by
  unfold rd demsOf
  rw [if_pos h, List.getD_eq_getElem?_getD, demsFrom_get a b l 6 0 z.toNat (by omega), show (0 : Int) + (z.toNat : Int) = z by omega]
  rfl
theorem demsOf_len (a b : Int) (l : List Int) (h : WOk a b l = true) : (demsOf a b l).length = 6 := by
  unfold demsOf
  rw [if_pos h, demsFrom_length]
section
variable (a b z : Int) (l : List Int) (m : List Int) (hw : WOk a b l = true) (hz : 0 ≤ z ∧ z ≤ 5) (hm : m.length = 6) (hmk : ∀ k : Int, 0 ≤ k ∧ k ≤ 5 → k ≠ z → rd m k = demOf a b l k)
include hw hz hm hmk
theorem win_l1 (L : List Int) (hL : WOk a b L = true) (h0 : ∀ k : Int, 0 ≤ k ∧ k ≤ 5 → demOf a b L k = 0) : ∀ (d n : Nat), n + d = 6 → ∃ K, ∀ k, K ≤ k → laws_FnWindows.l1 k z m (n : Int) a b l a b L = some true
  | 0, n, hn => by
    refine ⟨1, fun k hk => ?_⟩
    obtain ⟨k, rfl⟩ : ∃ m, k = m + 1 := ⟨k - 1, by omega⟩
    simp only [laws_FnWindows.l1]
    rw [if_neg (by omega), implOk_eq, hL]; rfl
  | d + 1, n, hn => by
    obtain ⟨K, h⟩ := win_l1 L hL h0 d (n + 1) (by omega)
    obtain ⟨K1, h1⟩ := implDem_ev a b L
    obtain ⟨K2, h2⟩ := specDem_ev a b l (by have := WOk_len a b l hw; omega)
    refine ⟨K + K1 + K2 + 1, fun k hk => ?_⟩
    obtain ⟨k, rfl⟩ : ∃ m, k = m + 1 := ⟨k - 1, by omega⟩
    have e9 : wrap64 ((n : Int) + 1) = ((n + 1 : Nat) : Int) := by rw [w64 (by omega) (by omega)]; rfl
    simp only [laws_FnWindows.l1]
    rw [if_pos (by omega), h1 _ k (by omega), Option.bind_some, if_pos (h0 _ (by omega))]
    by_cases c : (n : Int) = z
    · rw [if_pos c, e9]; exact h k (by omega)
    · rw [if_neg c, if_pos (by omega), if_pos (by omega), h2 _ k (by omega), Option.bind_some, if_pos (hmk _ (by omega) c), e9]
      exact h k (by omega)
theorem win_l0 : ∀ (d n : Nat) (L : List Int), (n : Int) + d = a → WOk a b L = true → Clean L n → ∃ K, ∀ k, K ≤ k → laws_FnWindows.l0 k z m (n : Int) a b l a b L = some true
  | 0, n, L, hn, hL, hc => by
    obtain ⟨K, h⟩ := win_l1 a b z l m hw hz hm hmk L hL (fun k hk => by
      rw [demOf_sm a b L hL k hk]
      exact sm_clean L n hc k hk a.toNat 0 (by omega)) 6 0 (by omega)
    refine ⟨K + 1, fun k hk => ?_⟩
    obtain ⟨k, rfl⟩ : ∃ m, k = m + 1 := ⟨k - 1, by omega⟩
    simp only [laws_FnWindows.l0]
    rw [if_neg (by omega)]
    exact h k (by omega)
  | d + 1, n, L, hn, hL, hc => by
    have hlen := WOk_len a b L hL
    have ha := (WOk_iff a b L hL).2.1
    obtain ⟨K, h⟩ := win_l0 d (n + 1) (turnedL a b L) (by omega) (WOk_turned a b L hL) (Clean_turned a b L hL n (by omega) hc)
    have hna : (n : Int) < a := by omega
    have hLl : L.length ≤ 1048576 := by omega
    obtain ⟨K1, h1⟩ := implDem_ev a b L
    obtain ⟨K2, h2⟩ := implDem_ev a b (turnedL a b L)
    refine ⟨K + K1 + K2 + 1, fun k hk => ?_⟩
    obtain ⟨k, rfl⟩ : ∃ m, k = m + 1 := ⟨k - 1, by omega⟩
    obtain ⟨k0, k1, k2⟩ : K ≤ k ∧ K1 ≤ k ∧ K2 ≤ k := by omega
    have e9 : wrap64 ((n : Int) + 1) = ((n + 1 : Nat) : Int) := by rw [w64 (by omega) (by omega)]; rfl
    simp only [laws_FnWindows.l0]
    rw [if_pos hna, h1 _ k k1, Option.bind_some, implTurned_eq a b L hLl]
    simp only [Option.bind_some]
    rw [h2 _ k k2]
    simp only [Option.bind_some]
    rw [if_neg (Int.not_lt.mpr (turned_dem a b L hL z hz)), e9]
    exact h k k0
end
theorem FnWindows : laws_FnWindows.Pure := by
  intro s _ _ _
  by_cases hs : s.length ≤ 1048576
  · obtain ⟨a, b, l, K1, h1, hw⟩ := drawRight_ev s hs
    obtain ⟨p, K2, h2, hp, hp0⟩ := places_ev s hs
    have hlen := WOk_len a b l hw
    have hp1 : 0 ≤ rd p 0 := by
      rw [show (0 : Int) = ((0 : Nat) : Int) from rfl, rd_get p 0 (by omega)]
      exact hp0 _ (List.getElem_mem _)
    have hz : 0 ≤ Int.tmod (rd p 0) 6 ∧ Int.tmod (rd p 0) 6 ≤ 5 := by
      rw [Int.tmod_eq_emod_of_nonneg hp1]; omega
    generalize hzz : Int.tmod (rd p 0) 6 = z at hz
    have hw1 := WOk_order a b l z hw
    have hR : orderR a b l z = true := decide_eq_true ⟨hw, hz.1, hz.2⟩
    obtain ⟨K3, h3⟩ := implDem_ev a b l
    obtain ⟨K4, h4⟩ := implDem_ev a b (orderL a b l z)
    obtain ⟨K5, h5⟩ := implDems_ev a b (orderL a b l z)
    obtain ⟨q1, q2, _, _, q5, _⟩ := WOk_iff a b l hw
    obtain ⟨D, hD⟩ : ∃ D : Nat, (D : Int) = a := ⟨a.toNat, by omega⟩
    obtain ⟨K6, h6⟩ := win_l0 a b z l (demsOf a b (orderL a b l z)) hw hz (demsOf_len a b _ hw1) (fun k hk hne => by rw [demsOf_rd a b _ hw1 k hk, order_other a b l hw z k hz hk hne]) D 0 (orderL a b l z) (by omega) hw1 (fun j _ hj => absurd hj (Nat.not_lt_zero _))
    have hd := order_dem a b l hw z hz
    have hdr : 0 ≤ demOf a b l z ∧ demOf a b l z ≤ 100 * 8 := by
      have := sm_range a b l hw z a.toNat 0
      rw [demOf_sm a b l hw z hz]
      omega
    refine ⟨K1 + K2 + K3 + K4 + K5 + K6 + 3, ?_⟩
    generalize hKK : K1 + K2 + K3 + K4 + K5 + K6 + 3 = k
    obtain ⟨k, rfl⟩ : ∃ m, k = m + 2 := ⟨k - 2, by omega⟩
    have hend : ∀ x : Int, demOf a b (orderL a b l z) z = wrap64 (demOf a b l z + x) → laws_FnWindows.j0 (k + 2) z true (demOf a b l z) (demOf a b (orderL a b l z) z) x a b l a b (orderL a b l z) = some true := fun x hx => by
      simp only [laws_FnWindows.j0]
      rw [h5 (k + 1) (by omega)]
      simp only [Option.bind_some, reduceIte]
      rw [if_pos hx, implOk_eq, hw1]
      simp only [Option.bind_some, reduceIte]
      rw [demsOf_len a b _ hw1, if_pos (show ((6 : Nat) : Int) = 6 from rfl), if_pos hz.1, if_pos (show z < ((6 : Nat) : Int) by omega), demsOf_rd a b _ hw1 z hz]
      simp only [bne_self_eq_false, laws_FnWindows.j1, Bool.false_eq_true, reduceIte]
      exact h6 k (by omega)
    unfold laws_FnWindows.f laws_big.f
    rw [decide_eq_false (by omega)]
    simp only [Option.bind_some, Bool.false_eq_true, reduceIte]
    rw [h1 (k + 2) (by omega), h2 (k + 2) (by omega)]
    simp only [Option.bind_some]
    rw [if_pos (by omega), hzz, implOrder_eq a b l z (by omega)]
    simp only [Option.bind_some]
    rw [h3 _ (k + 2) (by omega)]
    simp only [Option.bind_some]
    rw [h4 _ (k + 2) (by omega)]
    simp only [Option.bind_some]
    rw [if_pos hz.1, if_pos (by omega), hR]
    by_cases c : rd l z = b
    · rw [if_pos c] at hd ⊢
      exact hend 0 (by rw [w64 (by omega) (by omega)]; exact hd)
    · rw [if_neg c] at hd ⊢
      exact hend 1 (by rw [w64 (by omega) (by omega)]; exact hd)
  · refine ⟨0, ?_⟩
    unfold laws_FnWindows.f laws_big.f
    rw [decide_eq_true (by omega)]; rfl
end Go.Proofs.Ytpjmfmnnkcibjaa.Pure
