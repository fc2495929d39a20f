/- Plain facts about which places of a deal are full: rounds in which all places are looked at, with what is left told once a round. -/
import Derived.Test.YtngoejcaabgidaaPd
import Derived.Test.YtngoejcaabgidaaQ3
import Derived.Test.YtngoejcaabgidaaQ4
import Derived.Test.YtngoejcaabgidaaQ2
namespace Go.Proofs.Ytngoejcaabgidaa.Pure
open Go.RowKit Go.Proofs.Ytngoejcaabgidaa.Q Go.Proofs.YtngoejcaabgidaaW.PrintWords Go.Proofs.YtngoejcaabgidaaW.PrintLast
theorem rdOf_get (l : List Bool) (i : Nat) (h : i < l.length) : rdOf false l (i : Int) = l[i] := by simp [rdOf, h]
/-- What is left, and the wants: d places from place i on. -/
def restL (w r : List Int) (f : List Bool) : Nat → Nat → Int → Int → Int × Int
  | 0, _, t, s => (t, s)
  | d + 1, i, t, s => if rdOf false f i = true then restL w r f d (i + 1) (wrap64 (t - rd r i)) s else restL w r f d (i + 1) t (wrap64 (s + rd w i))
theorem specRest_l0 (w r : List Int) (f : List Bool) (hr : r.length = w.length) (hf : f.length = w.length) (hn : w.length ≤ 16) : ∀ (d i k : Nat) (t s : Int), i + d = w.length → d < k →
    spec_l18Rest.l0 k w r f t s (i : Int) = some (restL w r f d i t s)
  | 0, i, k, t, s, hi, hk => by
    obtain ⟨k, rfl⟩ : ∃ m, k = m + 1 := ⟨k - 1, by omega⟩
    simp only [spec_l18Rest.l0]
    rw [if_neg (by omega)]
    rfl
  | d + 1, i, k, t, s, hi, hk => by
    obtain ⟨k, rfl⟩ : ∃ m, k = m + 1 := ⟨k - 1, by omega⟩
    simp only [spec_l18Rest.l0]
    rw [if_pos (by omega), if_pos (by omega), if_pos (by omega), w64 (x := (i : Int) + 1) (by omega) (by omega), show ((i : Int) + 1) = ((i + 1 : Nat) : Int) by omega, restL]
    by_cases h : rdOf false f (i : Int) = true
    · rw [if_pos h, if_pos (by omega), if_pos h]
      exact specRest_l0 w r f hr hf hn d (i + 1) k _ _ (by omega) (by omega)
    · rw [if_neg h, if_neg h]
      exact specRest_l0 w r f hr hf hn d (i + 1) k _ _ (by omega) (by omega)
theorem implLeft_l0 (w r : List Int) (f : List Bool) (hr : r.length = w.length) (hf : f.length = w.length) (hn : w.length ≤ 16) : ∀ (d i k : Nat) (t s : Int), i + d = w.length → d < k →
    impl_left.l0 k w r t s f (f.length : Int) (i : Int) = some (restL w r f d i t s)
  | 0, i, k, t, s, hi, hk => by
    obtain ⟨k, rfl⟩ : ∃ m, k = m + 1 := ⟨k - 1, by omega⟩
    simp only [impl_left.l0]
    rw [if_neg (by omega)]
    rfl
  | d + 1, i, k, t, s, hi, hk => by
    obtain ⟨k, rfl⟩ : ∃ m, k = m + 1 := ⟨k - 1, by omega⟩
    simp only [impl_left.l0]
    rw [if_pos (by omega), if_pos (by omega), if_pos (by omega), w64 (x := (i : Int) + 1) (by omega) (by omega), show ((i : Int) + 1) = ((i + 1 : Nat) : Int) by omega, restL]
    by_cases h : rdOf false f (i : Int) = true
    · rw [if_pos h, if_pos (by omega), if_pos h]
      exact implLeft_l0 w r f hr hf hn d (i + 1) k _ _ (by omega) (by omega)
    · rw [if_neg h, if_pos (by omega), if_neg h]
      exact implLeft_l0 w r f hr hf hn d (i + 1) k _ _ (by omega) (by omega)
/-- Does place i become full. -/
def turns (w r : List Int) (x d : Int) (f : List Bool) (i : Nat) : Bool := !(rdOf false f i) && (decide (rd w i > 0) && decide (wrap64 (x * rd w i) ≥ wrap64 (d * rd r i)))
/-- One round from place i on. -/
def upd (w r : List Int) (x y : Int) : Nat → Nat → List Bool → List Bool
  | 0, _, f => f
  | d + 1, i, f => upd w r x y d (i + 1) (if turns w r x y f i = true then f.set i true else f)
/-- Has a round turned a place. -/
def chg (w r : List Int) (x y : Int) : Nat → Nat → List Bool → Bool → Bool
  | 0, _, _, b => b
  | d + 1, i, f, b => chg w r x y d (i + 1) (if turns w r x y f i = true then f.set i true else f) (if turns w r x y f i = true then true else b)
theorem upd_length (w r : List Int) (x y : Int) : ∀ (d i : Nat) (f : List Bool), (upd w r x y d i f).length = f.length
  | 0, _, _ => rfl
  | d + 1, i, f => by
    unfold upd
    rw [upd_length w r x y d (i + 1)]
    split <;> simp
/-- A whole round. -/
def round (w r : List Int) (t : Int) (f : List Bool) : List Bool := upd w r (restL w r f w.length 0 t 0).1 (restL w r f w.length 0 t 0).2 w.length 0 f
def rounds (w r : List Int) (t : Int) : Nat → List Bool → List Bool
  | 0, f => f
  | n + 1, f => rounds w r t n (round w r t f)
theorem round_length (w r : List Int) (t : Int) (f : List Bool) : (round w r t f).length = f.length := upd_length _ _ _ _ _ _ _
theorem rounds_length (w r : List Int) (t : Int) : ∀ (n : Nat) (f : List Bool), (rounds w r t n f).length = f.length
  | 0, _ => rfl
  | n + 1, f => by unfold rounds; rw [rounds_length w r t n, round_length]
theorem rounds_fix (w r : List Int) (t : Int) (f : List Bool) (h : round w r t f = f) : ∀ n, rounds w r t n f = f
  | 0 => rfl
  | n + 1 => by unfold rounds; rw [h]; exact rounds_fix w r t f h n
/-- How many places are full. -/
def count (f : List Bool) : Nat := (f.filter id).length
theorem count_le (f : List Bool) : count f ≤ f.length := List.length_filter_le _ _
theorem count_set : ∀ (f : List Bool) (i : Nat), i < f.length → f.getD i false = false → count (f.set i true) = count f + 1
  | [], i, h, _ => absurd h (Nat.not_lt_zero _)
  | b :: bs, 0, _, hb => by
    have : b = false := by simpa using hb
    subst this
    simp [count]
  | b :: bs, i + 1, h, hb => by
    have := count_set bs i (by simpa using h) (by simpa using hb)
    cases b <;> simp [count] at this ⊢ <;> omega
theorem turns_off (w r : List Int) (x y : Int) (f : List Bool) (i : Nat) (h : turns w r x y f i = true) : f.getD i false = false := by
  unfold turns at h
  rw [Bool.and_eq_true] at h
  have := h.1
  simpa [rdOf] using this
theorem chg_tells (w r : List Int) (x y : Int) : ∀ (d i : Nat) (f : List Bool) (b : Bool), i + d ≤ f.length →
    (chg w r x y d i f b = false → b = false ∧ upd w r x y d i f = f) ∧ count f ≤ count (upd w r x y d i f) ∧ (chg w r x y d i f b = true → b = true ∨ count f < count (upd w r x y d i f))
  | 0, i, f, b, _ => ⟨fun h => ⟨h, rfl⟩, Nat.le_refl _, fun h => .inl h⟩
  | d + 1, i, f, b, hl => by
    unfold chg upd
    by_cases h : turns w r x y f i = true
    · simp only [if_pos h]
      have hc := count_set f i (by omega) (turns_off w r x y f i h)
      obtain ⟨h1, h2, h3⟩ := chg_tells w r x y d (i + 1) (f.set i true) true (by simp; omega)
      refine ⟨fun e => absurd (h1 e).1 (by decide), by omega, fun _ => .inr (by omega)⟩
    · simp only [if_neg h]
      exact chg_tells w r x y d (i + 1) f b (by omega)
theorem specFull_l1 (w r : List Int) (t : Int) (hr : r.length = w.length) (hn : w.length ≤ 16) (n x y : Int) (K : Nat) (res : List Bool) : ∀ (d i k : Nat) (f : List Bool), i + d = w.length → f.length = w.length → K + d < k →
    (∀ k, K ≤ k → spec_FullIn.l0 k w r t (upd w r x y d i f) (wrap64 (n + 1)) = some res) → spec_FullIn.l1 k w r t f n x y (i : Int) = some res
  | 0, i, k, f, hi, hf, hk, h0 => by
    obtain ⟨k, rfl⟩ : ∃ m, k = m + 1 := ⟨k - 1, by omega⟩
    simp only [spec_FullIn.l1]
    rw [if_neg (by omega)]
    exact h0 k (by omega)
  | d + 1, i, k, f, hi, hf, hk, h0 => by
    obtain ⟨k, rfl⟩ : ∃ m, k = m + 1 := ⟨k - 1, by omega⟩
    simp only [spec_FullIn.l1]
    rw [if_pos (by omega), if_pos (by omega), if_pos (by omega), w64 (x := (i : Int) + 1) (by omega) (by omega), show ((i : Int) + 1) = ((i + 1 : Nat) : Int) by omega, Int.toNat_natCast]
    have hu : upd w r x y (d + 1) i f = upd w r x y d (i + 1) (if turns w r x y f i = true then f.set i true else f) := rfl
    rw [hu] at h0
    by_cases h1 : rdOf false f (i : Int) = true
    · rw [if_pos h1]
      rw [if_neg (by simp [turns, h1])] at h0
      exact specFull_l1 w r t hr hn n x y K res d (i + 1) k f (by omega) hf (by omega) h0
    · rw [if_neg h1]
      by_cases h2 : rd w (i : Int) > 0
      · rw [if_pos h2, if_pos (by omega)]
        by_cases h3 : wrap64 (x * rd w (i : Int)) ≥ wrap64 (y * rd r (i : Int))
        · rw [if_pos h3]
          rw [if_pos (by simp [turns, h1, h2, h3])] at h0
          exact specFull_l1 w r t hr hn n x y K res d (i + 1) k _ (by omega) (by simpa using hf) (by omega) h0
        · rw [if_neg h3]
          rw [if_neg (by simp only [turns, decide_eq_false h3]; simp)] at h0
          exact specFull_l1 w r t hr hn n x y K res d (i + 1) k f (by omega) hf (by omega) h0
      · rw [if_neg h2]
        rw [if_neg (by simp only [turns, decide_eq_false h2]; simp)] at h0
        exact specFull_l1 w r t hr hn n x y K res d (i + 1) k f (by omega) hf (by omega) h0
theorem implFull_l1 (w r : List Int) (t : Int) (hr : r.length = w.length) (hn : w.length ≤ 16) (x y : Int) (K : Nat) (res : List Bool) : ∀ (d i k : Nat) (f : List Bool) (b : Bool), i + d = w.length → f.length = w.length → K + d < k →
    (∀ k, K ≤ k → impl_FullIn.l0 k w r t (upd w r x y d i f) (chg w r x y d i f b) = some res) → impl_FullIn.l1 k w r t f b x y (w.length : Int) (i : Int) = some res
  | 0, i, k, f, b, hi, hf, hk, h0 => by
    obtain ⟨k, rfl⟩ : ∃ m, k = m + 1 := ⟨k - 1, by omega⟩
    simp only [impl_FullIn.l1]
    rw [if_neg (by omega)]
    exact h0 k (by omega)
  | d + 1, i, k, f, b, hi, hf, hk, h0 => by
    obtain ⟨k, rfl⟩ : ∃ m, k = m + 1 := ⟨k - 1, by omega⟩
    simp only [impl_FullIn.l1]
    rw [if_pos (by omega), if_pos (by omega), if_pos (by omega), w64 (x := (i : Int) + 1) (by omega) (by omega), show ((i : Int) + 1) = ((i + 1 : Nat) : Int) by omega, Int.toNat_natCast]
    have hu : upd w r x y (d + 1) i f = upd w r x y d (i + 1) (if turns w r x y f i = true then f.set i true else f) := rfl
    have hc : chg w r x y (d + 1) i f b = chg w r x y d (i + 1) (if turns w r x y f i = true then f.set i true else f) (if turns w r x y f i = true then true else b) := rfl
    rw [hu, hc] at h0
    by_cases h1 : rdOf false f (i : Int) = true
    · rw [if_pos h1]
      simp only [if_neg (show ¬ turns w r x y f i = true by simp [turns, h1])] at h0
      exact implFull_l1 w r t hr hn x y K res d (i + 1) k f b (by omega) hf (by omega) h0
    · rw [if_neg h1, if_pos (by omega)]
      by_cases h2 : rd w (i : Int) > 0
      · rw [if_pos h2, if_pos (by omega)]
        by_cases h3 : wrap64 (x * rd w (i : Int)) ≥ wrap64 (y * rd r (i : Int))
        · rw [if_pos h3]
          simp only [if_pos (show turns w r x y f i = true by simp [turns, h1, h2, h3])] at h0
          exact implFull_l1 w r t hr hn x y K res d (i + 1) k _ true (by omega) (by simpa using hf) (by omega) h0
        · rw [if_neg h3]
          simp only [if_neg (show ¬ turns w r x y f i = true by simp only [turns, decide_eq_false h3]; simp)] at h0
          exact implFull_l1 w r t hr hn x y K res d (i + 1) k f b (by omega) hf (by omega) h0
      · rw [if_neg h2]
        simp only [if_neg (show ¬ turns w r x y f i = true by simp only [turns, decide_eq_false h2]; simp)] at h0
        exact implFull_l1 w r t hr hn x y K res d (i + 1) k f b (by omega) hf (by omega) h0
theorem specFull_l0 (w r : List Int) (t : Int) (hr : r.length = w.length) (hn : w.length ≤ 16) : ∀ (m : Nat) (n : Nat) (f : List Bool), n + m = w.length + 1 → f.length = w.length → ∃ K, ∀ k, K ≤ k → spec_FullIn.l0 k w r t f (n : Int) = some (rounds w r t m f)
  | 0, n, f, hm, hf => ⟨1, fun k hk => by
    obtain ⟨k, rfl⟩ : ∃ m, k = m + 1 := ⟨k - 1, by omega⟩
    simp only [spec_FullIn.l0]
    rw [if_neg (by omega)]
    rfl⟩
  | m + 1, n, f, hm, hf => by
    obtain ⟨K, h⟩ := specFull_l0 w r t hr hn m (n + 1) (round w r t f) (by omega) (by rw [round_length]; exact hf)
    refine ⟨K + 2 * w.length + 3, fun k hk => ?_⟩
    obtain ⟨k, rfl⟩ : ∃ m, k = m + 1 := ⟨k - 1, by omega⟩
    simp only [spec_FullIn.l0]
    rw [if_pos (by omega)]
    have hs : spec_l18Rest.f k w r t f = some (restL w r f w.length 0 t 0) := specRest_l0 w r f hr hf hn w.length 0 k t 0 (by omega) (by omega)
    rw [hs, Option.bind_some]
    refine specFull_l1 w r t hr hn n _ _ K _ w.length 0 k f (by omega) hf (by omega) (fun k hk => ?_)
    rw [w64 (by omega) (by omega), show ((n : Int) + 1) = ((n + 1 : Nat) : Int) by omega]
    exact h k hk
theorem implFull_l0 (w r : List Int) (t : Int) (hr : r.length = w.length) (hn : w.length ≤ 16) : ∀ (n : Nat) (f : List Bool), f.length = w.length → w.length - count f ≤ n → ∃ K, ∀ k, K ≤ k → impl_FullIn.l0 k w r t f true = some (rounds w r t (n + 1) f)
  | n, f, hf, hc => by
    have hu : upd w r (restL w r f w.length 0 t 0).1 (restL w r f w.length 0 t 0).2 w.length 0 f = round w r t f := rfl
    have hle := count_le f
    obtain ⟨h1, h2, h3⟩ := chg_tells w r (restL w r f w.length 0 t 0).1 (restL w r f w.length 0 t 0).2 w.length 0 f false (by omega)
    rw [hu] at h1 h2 h3
    have hrl := round_length w r t f
    have hgl := count_le (round w r t f)
    have hnext : ∃ K, ∀ k, K ≤ k → impl_FullIn.l0 k w r t (round w r t f) (chg w r (restL w r f w.length 0 t 0).1 (restL w r f w.length 0 t 0).2 w.length 0 f false) = some (rounds w r t (n + 1) f) := by
      cases hb : chg w r (restL w r f w.length 0 t 0).1 (restL w r f w.length 0 t 0).2 w.length 0 f false with
      | false =>
        have hfix := (h1 hb).2
        refine ⟨1, fun k hk => ?_⟩
        obtain ⟨k, rfl⟩ : ∃ m, k = m + 1 := ⟨k - 1, by omega⟩
        simp only [impl_FullIn.l0]
        rw [if_neg (by decide), rounds_fix w r t f hfix, hfix]
      | true =>
        have hlt : count f < count (round w r t f) := (h3 hb).resolve_left (by decide)
        cases n with
        | zero => exfalso; omega
        | succ n =>
          obtain ⟨K, h⟩ := implFull_l0 w r t hr hn n (round w r t f) (by rw [hrl]; exact hf) (by omega)
          exact ⟨K, fun k hk => by rw [h k hk]; rfl⟩
    obtain ⟨K, h⟩ := hnext
    refine ⟨K + 2 * w.length + 3, fun k hk => ?_⟩
    obtain ⟨k, rfl⟩ : ∃ m, k = m + 1 := ⟨k - 1, by omega⟩
    simp only [impl_FullIn.l0]
    simp only [if_true]
    have hs : impl_left.f k w r t f = some (restL w r f w.length 0 t 0) := implLeft_l0 w r f hr hf hn w.length 0 k t 0 (by omega) (by omega)
    rw [hs, Option.bind_some, show (f.length : Int) = (w.length : Int) by omega]
    exact implFull_l1 w r t hr hn _ _ K _ w.length 0 k f false (by omega) hf (by omega) h
/-- Which places are full. -/
def fullL (w r : List Int) (t : Int) : List Bool := if DOk w r t = true then rounds w r t (w.length + 1) (List.replicate w.length false) else []
theorem DOk_len (w r : List Int) (t : Int) (h : DOk w r t = true) : w.length = r.length ∧ w.length ≤ 16 ∧ Wants w = true ∧ Wants r = true ∧ 0 ≤ t ∧ t ≤ roomSum w r w.length 0 0 := of_decide_eq_true h
theorem fullL_length (w r : List Int) (t : Int) (h : DOk w r t = true) : (fullL w r t).length = w.length := by
  unfold fullL
  rw [if_pos h, rounds_length]
  simp
theorem fullL_le (w r : List Int) (t : Int) : (fullL w r t).length ≤ 16 := by
  by_cases h : DOk w r t = true
  · rw [fullL_length w r t h]; exact (DOk_len w r t h).2.1
  · unfold fullL; rw [if_neg h]; simp
theorem specFull_ev (w r : List Int) (t : Int) (hw : w.length ≤ 1048576) (hr : r.length ≤ 1048576) : ∃ K, ∀ k, K ≤ k → spec_FullIn.f k w r t = some (fullL w r t) := by
  by_cases h : DOk w r t = true
  · obtain ⟨h1, h2, _⟩ := DOk_len w r t h
    obtain ⟨K, hK⟩ := specFull_l0 w r t h1.symm h2 (w.length + 1) 0 (List.replicate w.length false) (by omega) (by simp)
    refine ⟨K + w.length + r.length + 2, fun k hk => ?_⟩
    unfold spec_FullIn.f fullL
    rw [specDealOk_ev w r t hw hr k (by omega), Option.bind_some, if_pos h, if_pos (by omega), if_pos (by omega), if_pos h, Int.toNat_natCast]
    exact hK k (by omega)
  · refine ⟨w.length + r.length + 2, fun k hk => ?_⟩
    unfold spec_FullIn.f fullL
    rw [specDealOk_ev w r t hw hr k (by omega), Option.bind_some, if_neg h, if_neg h]
theorem implFull_ev (w r : List Int) (t : Int) (hw : w.length ≤ 1048576) : ∃ K, ∀ k, K ≤ k → impl_FullIn.f k w r t = some (fullL w r t) := by
  by_cases h : DOk w r t = true
  · obtain ⟨h1, h2, _⟩ := DOk_len w r t h
    obtain ⟨K, hK⟩ := implFull_l0 w r t h1.symm h2 w.length (List.replicate w.length false) (by simp) (by omega)
    refine ⟨K + w.length + 2, fun k hk => ?_⟩
    unfold impl_FullIn.f fullL
    rw [implDealOk_ev w r t hw k (by omega), Option.bind_some, if_pos h, if_pos (by omega), if_pos (by omega), if_pos h, Int.toNat_natCast]
    exact hK k (by omega)
  · refine ⟨w.length + 2, fun k hk => ?_⟩
    unfold impl_FullIn.f fullL
    rw [implDealOk_ev w r t hw k (by omega), Option.bind_some, if_neg h, if_neg h]
end Go.Proofs.Ytngoejcaabgidaa.Pure
