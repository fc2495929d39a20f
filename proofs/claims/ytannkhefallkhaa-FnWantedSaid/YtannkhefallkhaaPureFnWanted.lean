/- The law FnWanted: where robots are wanted are free places to park of zones that ask, not held by others, as many as there are idle robots or places. -/
import Derived.Test.YtannkhefallkhaaPAllFnWanted
import Derived.Test.YtannkhefallkhaaQ15
import Derived.Test.YtannkhefallkhaaQ12
import Derived.Test.YtannkhefallkhaaQ14
set_option linter.unusedSimpArgs false
set_option linter.unusedSectionVars false
namespace Go.Proofs.Ytannkhefallkhaa.Pure
open Go.RowKit Go.Proofs.Ytannkhefallkhaa.Q Go.Proofs.YtannkhefallkhaaW.PrintWords Go.Proofs.YtannkhefallkhaaW.PrintLast
theorem lawHas_l0 (l : List Int) (c : Int) (hn : l.length ≤ 1048576) : ∀ (d i k : Nat), i + d = l.length → d < k → laws_has.l0 k l c (i : Int) = some (decide (c ∈ l.drop i))
  | 0, i, k, hi, hk => by
    obtain ⟨k, rfl⟩ : ∃ m, k = m + 1 := ⟨k - 1, by omega⟩
    rw [laws_has.l0, if_neg (by omega), List.drop_of_length_le (by omega)]
    simp
  | d + 1, i, k, hi, hk => by
    obtain ⟨k, rfl⟩ : ∃ m, k = m + 1 := ⟨k - 1, by omega⟩
    rw [laws_has.l0, if_pos (by omega), if_pos (by omega), rd_get l i (by omega), drop_cons l i (by omega)]
    by_cases e : l[i]'(by omega) = c
    · rw [if_pos e]; simp [e]
    · rw [if_neg e, show wrap64 ((i : Int) + 1) = ((i + 1 : Nat) : Int) from w64 (by omega) (by omega), lawHas_l0 l c hn d (i + 1) k (by omega) (by omega)]
      congr 1
      refine decide_eq_decide.mpr ?_
      rw [List.mem_cons]
      exact ⟨.inr, fun h => h.elim (fun x => absurd x.symm e) id⟩
theorem lawHas_eq (l : List Int) (c : Int) (hn : l.length ≤ 1048576) (k : Nat) (hk : l.length < k) : laws_has.f k l c = some (decide (c ∈ l)) := by
  have := lawHas_l0 l c hn l.length 0 k (by omega) hk
  simpa [laws_has.f] using this
theorem outF_sum (a b : Int) (s : ByteArray) (l p : List Int) (hb : ∀ i : Nat, i < 6 → 0 ≤ rd p (i : Int) ∧ rd p (i : Int) ≤ room a b s l (i : Int)) : ∀ d i, i + d ≤ 6 → ((outF a b s l p d i).length : Int) = psum p d i
  | 0, _, _ => rfl
  | d + 1, i, hi => by
    have ih := outF_sum a b s l p hb d (i + 1) (by omega)
    have h1 := hb i (by omega)
    have h2 := lefts_len a b s l (i : Int)
    unfold outF psum
    rw [List.length_append, List.length_take]
    omega
theorem asc_len_nodup (l : List Int) (h : l.Nodup) : (asc l).length = l.length := by
  rw [← sort_asc l h]
  exact List.length_mergeSort _
section
variable (a b : Int) (s : ByteArray) (hG : Gok a b s) (held w : List Int) (hh : held.length ≤ 64) (hw6 : w.length = 6)
include hG hh hw6
/-- All cells that are wanted are right. -/
theorem wantT_l1 (L : List Int) (hL : L.length ≤ 384) (hA : Asc L) (hx : ∀ x ∈ L, (Pk s x) ∧ x ∉ held ∧ 0 ≤ bt s x - 65 ∧ bt s x - 65 < 6 ∧ rd w (bt s x - 65) ≠ 0) : ∀ (d i : Nat), i + d = L.length → ∃ K, ∀ k, K ≤ k → laws_FnWanted.l1 k held w L (i : Int) a b s = some true
  | 0, i, hi => by
    refine ⟨1, fun k hk => ?_⟩
    obtain ⟨k, rfl⟩ : ∃ m, k = m + 1 := ⟨k - 1, by omega⟩
    rw [laws_FnWanted.l1, if_neg (by omega)]
  | d + 1, i, hi => by
    have hs := Gok_size hG
    have hil : i < L.length := by omega
    obtain ⟨K, h⟩ := wantT_l1 L hL hA hx d (i + 1) (by omega)
    have hm : rd L (i : Int) ∈ L := by rw [rd_get L i hil]; exact List.getElem_mem hil
    obtain ⟨x1, x2, x3, x4, x5⟩ := hx _ hm
    obtain ⟨K1, h1⟩ := zoneOf_ev a b s (by omega) (rd L (i : Int)) hG x1
    obtain ⟨g, K2, h2, hg⟩ := parkAt_ev a b s (by omega) (rd L (i : Int))
    obtain rfl := hg.mpr ⟨hG, x1⟩
    refine ⟨K + K1 + K2 + 100, fun k hk => ?_⟩
    obtain ⟨k, rfl⟩ : ∃ m, k = m + 1 := ⟨k - 1, by omega⟩
    have h0 := h k (by omega)
    rw [laws_FnWanted.l1, if_pos (by omega), if_pos (by omega), (h1 k (by omega)).2, Option.bind_some, (h2 k (by omega)).2, Option.bind_some, if_pos rfl, lawHas_eq held _ (by omega) k (by omega), Option.bind_some, decide_eq_false x2, if_neg (by decide), if_neg (by omega), if_pos x3, if_pos (by omega), if_neg x5, show wrap64 ((i : Int) + 1) = ((i + 1 : Nat) : Int) from w64 (by omega) (by omega)]
    by_cases c : i = 0
    · rw [if_neg (by omega)]; exact h0
    · have hlt : rd L (((i - 1 : Nat) : Nat) : Int) < rd L (i : Int) := by
        rw [rd_get L (i - 1) (by omega), rd_get L i hil]
        exact List.pairwise_iff_getElem.mp hA (i - 1) i (by omega) hil (by omega)
      rw [if_pos (by omega), show wrap64 ((i : Int) - 1) = ((i - 1 : Nat) : Int) by rw [w64 (by omega) (by omega)]; omega, if_pos (by omega), if_pos (by omega), if_neg (by omega)]
      exact h0
/-- The rooms of those that ask are added up. -/
theorem wantT_l0 (r : List Int) (hr : r.length = 6) (t : Int) (L : List Int) (ok : Bool) (v : Bool) : ∀ (d i : Nat) (acc : Int), i + d = 6 →
    (∃ K, ∀ k, K ≤ k → (if t < (roomSum w r d i acc) then (laws_FnWanted.j1 k held w L ok t a b s) else (laws_FnWanted.j1 k held w L ok (roomSum w r d i acc) a b s)) = some v) → ∃ K, ∀ k, K ≤ k → laws_FnWanted.l0 k held w t r L ok acc (i : Int) a b s = some v
  | 0, i, acc, hi, hc => by
    obtain ⟨K, h⟩ := hc
    refine ⟨K + 1, fun k hk => ?_⟩
    obtain ⟨k, rfl⟩ : ∃ m, k = m + 1 := ⟨k - 1, by omega⟩
    rw [laws_FnWanted.l0, if_neg (by omega)]
    exact h k (by omega)
  | d + 1, i, acc, hi, hc => by
    rw [roomSum] at hc
    obtain ⟨K, h⟩ := wantT_l0 r hr t L ok v d (i + 1) _ (by omega) hc
    refine ⟨K + 1, fun k hk => ?_⟩
    obtain ⟨k, rfl⟩ : ∃ m, k = m + 1 := ⟨k - 1, by omega⟩
    have h0 := h k (by omega)
    rw [laws_FnWanted.l0, if_pos (by omega), if_pos (by omega), if_pos (by omega), show wrap64 ((i : Int) + 1) = ((i + 1 : Nat) : Int) from w64 (by omega) (by omega)]
    by_cases c : rd w (i : Int) > 0
    · rw [if_pos c] at h0 ⊢
      rw [if_pos (by omega)]
      exact h0
    · rw [if_neg c] at h0 ⊢
      exact h0
end
theorem tmod_range (x n : Int) (hx : 0 ≤ x) (hn : 0 < n) : 0 ≤ Int.tmod x n ∧ Int.tmod x n < n := ⟨Int.tmod_nonneg n hx, Int.tmod_lt_of_pos x hn⟩
theorem FnWanted : laws_FnWanted.Pure := by
  intro z _ _ _
  by_cases hz : z.length ≤ 1048576
  · obtain ⟨a, b, s, held, K1, h1, hG, hh⟩ := drawSome_ev z hz
    obtain ⟨p, K2, h2, hp, hp0⟩ := places_ev z hz
    have hs := Gok_size hG
    have hpr : ∀ i : Nat, i < 12 → 0 ≤ rd p (i : Int) := fun i hi => by
      rw [rd_get p i (by omega)]
      exact hp0 _ (List.getElem_mem _)
    have d0 := tmod_range (rd p 0) 5 (hpr 0 (by omega)) (by omega)
    have d1 := tmod_range (rd p 1) 3 (hpr 1 (by omega)) (by omega)
    have d2 := tmod_range (rd p 2) 2 (hpr 2 (by omega)) (by omega)
    have d3 := tmod_range (rd p 3) 4 (hpr 3 (by omega)) (by omega)
    have d4 := tmod_range (rd p 4) 2 (hpr 4 (by omega)) (by omega)
    have d5 := tmod_range (rd p 5) 7 (hpr 5 (by omega)) (by omega)
    generalize hwe : ([Int.tmod (rd p 0) 5, Int.tmod (rd p 1) 3, Int.tmod (rd p 2) 2, 0, Int.tmod (rd p 3) 4, Int.tmod (rd p 4) 2] : List Int) = w
    have h6 : w.length = 6 := by rw [← hwe]; rfl
    have hW : Wants w = true := Wants_of w (fun x hx => by
      rw [← hwe] at hx
      simp only [List.mem_cons, List.not_mem_nil, or_false] at hx
      omega)
    generalize hte : Int.tmod (rd p 5) 7 = t at d5
    obtain ⟨hok, hrl, hrd⟩ := wanted_facts a b s held w t hG h6 hW d5.1
    have hF := deal_fair w (rooms a b s held) (totalW a b s held w t) hok
    obtain ⟨K3, h3⟩ := implRooms_ev a b s (by omega) held
    obtain ⟨K4, h4⟩ := wanted_ev a b s (by omega) held (by omega) w (by omega) t
    have hI := fun k hk => (h4 k hk).2
    have hbb : ∀ i : Nat, i < 6 → 0 ≤ rd (dealL w (rooms a b s held) (totalW a b s held w t)) (i : Int) ∧ rd (dealL w (rooms a b s held) (totalW a b s held w t)) (i : Int) ≤ room a b s held (i : Int) := fun i hi => by
      have q1 := hF.low i (by omega)
      have q2 := hF.high i (by omega)
      rw [hrd i hi] at q2
      exact ⟨q1, q2⟩
    have hlen := wantedL_len a b s held w t
    have hval : wantedL a b s held w t = if totalW a b s held w t = 0 then ([], false) else (asc (outF a b s held (dealL w (rooms a b s held) (totalW a b s held w t)) 6 0), true) := by unfold wantedL; rw [if_pos ⟨hG, h6, hW, d5.1⟩]
    have hsum : 0 ≤ roomSum w (rooms a b s held) 6 0 0 := by
      obtain ⟨_, _, _, hW2, _⟩ := DOk_len _ _ _ hok
      exact (roomSum_le w (rooms a b s held) (Small_of _ hW2) 6 0 0 (by omega) (by omega) (by omega)).1
    have htot : (if t < roomSum w (rooms a b s held) 6 0 0 then t else roomSum w (rooms a b s held) 6 0 0) = totalW a b s held w t := by
      unfold totalW mn
      split <;> split <;> omega
    have hT0 : 0 ≤ totalW a b s held w t := (DOk_len _ _ _ hok).2.2.2.2.1
    have hcount : (((wantedL a b s held w t).1.length : Nat) : Int) = totalW a b s held w t := by
      rw [hval]
      by_cases c : totalW a b s held w t = 0
      · rw [if_pos c, c]; rfl
      · rw [if_neg c]
        show (((asc (outF a b s held (dealL w (rooms a b s held) (totalW a b s held w t)) 6 0)).length : Nat) : Int) = _
        rw [asc_len_nodup _ (outF_nodup a b s held _ 6 0), outF_sum a b s held _ hbb 6 0 (by omega)]
        have := hF.sum
        rw [h6] at this
        exact this
    have hflag : (wantedL a b s held w t).2 = decide (totalW a b s held w t > 0) := by
      rw [hval]
      by_cases c : totalW a b s held w t = 0
      · rw [if_pos c, c]; rfl
      · rw [if_neg c, decide_eq_true (by omega)]
    have hAsc : Asc (wantedL a b s held w t).1 := by
      rw [hval]
      by_cases c : totalW a b s held w t = 0
      · rw [if_pos c]; exact List.Pairwise.nil
      · rw [if_neg c]; exact (asc_spec _).1
    have hx : ∀ x ∈ (wantedL a b s held w t).1, (Pk s x) ∧ x ∉ held ∧ 0 ≤ bt s x - 65 ∧ bt s x - 65 < 6 ∧ rd w (bt s x - 65) ≠ 0 := by
      rw [hval]
      by_cases c : totalW a b s held w t = 0
      · rw [if_pos c]; intro x hx; cases hx
      · rw [if_neg c]
        intro x hx
        have hx := ((asc_spec _).2 x).mp hx
        obtain ⟨y, y1, y2, y3⟩ := outF_mem a b s held _ x 6 0 hx
        obtain ⟨_, ⟨m1, m2⟩, m3⟩ := (lefts_mem a b s held (y : Int) x).mp (List.mem_of_mem_take y3)
        refine ⟨m1, m3, by omega, by omega, ?_⟩
        rw [m2]
        intro hz0
        have := hF.none y (by omega) hz0
        rw [this] at y3
        simp at y3
    generalize hve : wantedL a b s held w t = v at *
    obtain ⟨L, ok⟩ := v
    simp only at hlen hcount hflag hAsc hx
    obtain ⟨K5, h5⟩ := wantT_l1 a b s hG held w hh h6 L (by omega) hAsc hx L.length 0 (by omega)
    rw [show ((0 : Nat) : Int) = 0 from rfl] at h5
    obtain ⟨K6, h6'⟩ := wantT_l0 a b s hG held w hh h6 (rooms a b s held) hrl t L ok true 6 0 0 (by omega) (by
      refine ⟨K5 + 2, fun k hk => ?_⟩
      obtain ⟨k, rfl⟩ : ∃ m, k = m + 2 := ⟨k - 2, by omega⟩
      have hj : ∀ T : Int, T = totalW a b s held w t → laws_FnWanted.j1 (k + 2) held w L ok T a b s = some true := fun T hT => by
        rw [laws_FnWanted.j1, hT, hflag, if_neg (by simp), hcount]
        rw [laws_FnWanted.j2, if_neg (by simp)]
        exact h5 k (by omega)
      by_cases c : t < roomSum w (rooms a b s held) 6 0 0
      · rw [if_pos c] at htot ⊢
        exact hj t htot
      · rw [if_neg c] at htot ⊢
        exact hj _ htot)
    rw [show ((0 : Nat) : Int) = 0 from rfl] at h6'
    refine ⟨K1 + K2 + K3 + K4 + K6 + 1, ?_⟩
    generalize hKK : K1 + K2 + K3 + K4 + K6 + 1 = k
    have e1 := h1 k (by omega)
    have e2 := h2 k (by omega)
    have e3 := h3 k (by omega)
    have e4 := hI k (by omega)
    have e6 := h6' k (by omega)
    have c0 : (0 : Int) < (p.length : Int) := by omega
    have c1 : (1 : Int) < (p.length : Int) := by omega
    have c2 : (2 : Int) < (p.length : Int) := by omega
    have c3 : (3 : Int) < (p.length : Int) := by omega
    have c4 : (4 : Int) < (p.length : Int) := by omega
    have c5 : (5 : Int) < (p.length : Int) := by omega
    have chl : held.length < 17592186044416 := by omega
    have cwl : w.length < 17592186044416 := by omega
    have crl : ((rooms a b s held).length : Int) = 6 := by omega
    unfold laws_FnWanted.f laws_big.f
    rw [decide_eq_false (by omega)]
    simp only [Option.bind_some, Bool.false_eq_true, reduceIte, e1, e2, hwe, hte, if_pos c0, if_pos c1, if_pos c2, if_pos c3, if_pos c4, if_pos c5, List.length_nil, Nat.zero_add, List.nil_append, if_pos chl, if_pos cwl, e3, e4, if_pos crl]
    exact e6
  · refine ⟨0, ?_⟩
    unfold laws_FnWanted.f laws_big.f
    rw [decide_eq_true (by omega)]; rfl
end Go.Proofs.Ytannkhefallkhaa.Pure
