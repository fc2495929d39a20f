/- The cells around a cell: what the program's and the reference's lists hold. -/
import Derived.Test.YtooofofeihkpcaaPgr
import Derived.Test.YtooofofeihkpcaaQ9
import Derived.Test.YtooofofeihkpcaaQ5
set_option linter.unusedSimpArgs false
namespace Go.Proofs.Ytooofofeihkpcaa.Pure
open Go.RowKit Go.Proofs.Ytooofofeihkpcaa.Q Go.Proofs.YtooofofeihkpcaaW.PrintWords Go.Proofs.YtooofofeihkpcaaW.PrintLast
/-- The neighbours of a free cell. -/
def Adj (a : Int) (s : ByteArray) (c x : Int) : Prop := Fr s c ∧ Fr s x ∧ (x = c - a ∨ (x = c - 1 ∧ 0 < c % a) ∨ (x = c + 1 ∧ c % a < a - 1) ∨ x = c + a)
theorem Fr_lt {s : ByteArray} {c : Int} (h : Fr s c) : 0 ≤ c ∧ c < (s.size : Int) := ⟨h.1, h.2.1⟩
theorem around_j3 (a b : Int) (s : ByteArray) (c : Int) (l : List Int) (t : Bool) (hc : 0 ≤ c) (hc1 : c ≤ 64) (ha : 1 ≤ a) (ha1 : a ≤ 8) (hl : l.length ≤ 10) (k : Nat) :
    impl_around.j3 (k + 1) c l t a b s = some (l ++ (if t = true then [c + 1] else []) ++ (if Fr s (c + a) then [c + a] else [])) := by
  have e1 : wrap64 (c + 1) = c + 1 := w64 (by omega) (by omega)
  have e2 : wrap64 (c + a) = c + a := w64 (by omega) (by omega)
  cases t with
  | true =>
    simp only [impl_around.j3, if_pos, e1, e2, isFree_eq, Option.bind_some, if_pos (show l.length < 17592186044416 by omega)]
    by_cases h : Fr s (c + a)
    · rw [decide_eq_true h, if_pos rfl, if_pos h, if_pos (by simp; omega)]
    · rw [decide_eq_false h, if_neg h]; simp
  | false =>
    simp only [impl_around.j3, Bool.false_eq_true, if_false, e1, e2, isFree_eq, Option.bind_some]
    by_cases h : Fr s (c + a)
    · rw [decide_eq_true h, if_pos rfl, if_pos h, if_pos (by omega)]; simp
    · rw [decide_eq_false h, if_neg h]; simp
theorem around_j2 (a b : Int) (s : ByteArray) (c : Int) (l : List Int) (hc : 0 ≤ c) (hc1 : c ≤ 64) (ha : 1 ≤ a) (ha1 : a ≤ 8) (hl : l.length ≤ 10) (k : Nat) :
    impl_around.j2 (k + 2) c l a b s = some (l ++ (if c % a < a - 1 ∧ Fr s (c + 1) then [c + 1] else []) ++ (if Fr s (c + a) then [c + a] else [])) := by
  have e1 : wrap64 (c + 1) = c + 1 := w64 (by omega) (by omega)
  have e2 : wrap64 (a - 1) = a - 1 := w64 (by omega) (by omega)
  have e3 : Int.tmod c a = c % a := Int.tmod_eq_emod_of_nonneg hc
  rw [impl_around.j2, if_neg (by omega), e1, e2, e3]
  by_cases h : c % a < a - 1
  · rw [if_pos h, isFree_eq, Option.bind_some, around_j3 a b s c l _ hc hc1 ha ha1 hl]
    simp [h]
  · rw [if_neg h, around_j3 a b s c l _ hc hc1 ha ha1 hl]
    simp [h]
theorem around_j1 (a b : Int) (s : ByteArray) (c : Int) (l : List Int) (t : Bool) (hc : 0 ≤ c) (hc1 : c ≤ 64) (ha : 1 ≤ a) (ha1 : a ≤ 8) (hl : l.length ≤ 4) (k : Nat) :
    impl_around.j1 (k + 3) c l t a b s = some (l ++ (if t = true then [c - 1] else []) ++ (if c % a < a - 1 ∧ Fr s (c + 1) then [c + 1] else []) ++ (if Fr s (c + a) then [c + a] else [])) := by
  have e1 : wrap64 (c - 1) = c - 1 := w64 (by omega) (by omega)
  rw [impl_around.j1, e1]
  cases t with
  | true =>
    rw [if_pos rfl, if_pos (by omega), around_j2 a b s c _ hc hc1 ha ha1 (by simp; omega)]
    simp
  | false =>
    rw [if_neg (by decide), around_j2 a b s c _ hc hc1 ha ha1 (by omega)]
    simp
theorem around_j0 (a b : Int) (s : ByteArray) (c : Int) (l : List Int) (hc : 0 ≤ c) (hc1 : c ≤ 64) (ha : 1 ≤ a) (ha1 : a ≤ 8) (hl : l.length ≤ 4) (k : Nat) :
    impl_around.j0 (k + 4) c l a b s = some (l ++ (if 0 < c % a ∧ Fr s (c - 1) then [c - 1] else []) ++ (if c % a < a - 1 ∧ Fr s (c + 1) then [c + 1] else []) ++ (if Fr s (c + a) then [c + a] else [])) := by
  have e1 : wrap64 (c - 1) = c - 1 := w64 (by omega) (by omega)
  have e3 : Int.tmod c a = c % a := Int.tmod_eq_emod_of_nonneg hc
  rw [impl_around.j0, if_neg (by omega), e1, e3]
  by_cases h : c % a > 0
  · rw [if_pos h, isFree_eq, Option.bind_some, around_j1 a b s c l _ hc hc1 ha ha1 hl]
    simp [h]
  · rw [if_neg h, around_j1 a b s c l _ hc hc1 ha ha1 hl]
    simp [show ¬ 0 < c % a from h]
theorem mem_opt {x y : Int} (p : Prop) [Decidable p] : x ∈ (if p then [y] else []) ↔ p ∧ x = y := by
  by_cases h : p <;> simp [h]
theorem implAround_ev (a b : Int) (s : ByteArray) (hG : Gok a b s) (c : Int) (hc : Fr s c) : ∃ ns K, (∀ k, K ≤ k → impl_around.f k a b s c = some ns) ∧ (∀ x, x ∈ ns ↔ Adj a s c x) ∧ ns.length ≤ 4 := by
  have hs := Gok_size hG
  obtain ⟨a0, a1, b0, b1, hab, _⟩ := hG
  obtain ⟨c0, c1⟩ := Fr_lt hc
  have e1 : wrap64 (c - a) = c - a := w64 (by omega) (by omega)
  refine ⟨(if Fr s (c - a) then [c - a] else []) ++ (if 0 < c % a ∧ Fr s (c - 1) then [c - 1] else []) ++ (if c % a < a - 1 ∧ Fr s (c + 1) then [c + 1] else []) ++ (if Fr s (c + a) then [c + a] else []), 4, fun k hk => ?_, fun x => ?_, ?_⟩
  · obtain ⟨k, rfl⟩ : ∃ m, k = m + 4 := ⟨k - 4, by omega⟩
    unfold impl_around.f
    rw [isFree_eq, Option.bind_some, decide_eq_true hc, if_pos rfl, e1, isFree_eq, Option.bind_some]
    by_cases h : Fr s (c - a)
    · rw [decide_eq_true h, if_pos rfl, if_pos (by simp), around_j0 a b s c _ c0 (by omega) a0 a1 (by simp), if_pos h]; simp
    · rw [decide_eq_false h, if_neg (by decide), around_j0 a b s c _ c0 (by omega) a0 a1 (by simp), if_neg h]
  · simp only [List.mem_append, mem_opt]
    unfold Adj
    constructor
    · rintro (((⟨h, rfl⟩ | ⟨⟨h1, h⟩, rfl⟩) | ⟨⟨h1, h⟩, rfl⟩) | ⟨h, rfl⟩)
      · exact ⟨hc, h, .inl rfl⟩
      · exact ⟨hc, h, .inr (.inl ⟨rfl, h1⟩)⟩
      · exact ⟨hc, h, .inr (.inr (.inl ⟨rfl, h1⟩))⟩
      · exact ⟨hc, h, .inr (.inr (.inr rfl))⟩
    · rintro ⟨_, h, (rfl | ⟨rfl, h1⟩ | ⟨rfl, h1⟩ | rfl)⟩
      · exact .inl (.inl (.inl ⟨h, rfl⟩))
      · exact .inl (.inl (.inr ⟨⟨h1, h⟩, rfl⟩))
      · exact .inl (.inr ⟨⟨h1, h⟩, rfl⟩)
      · exact .inr ⟨h, rfl⟩
  · by_cases h1 : Fr s (c - a) <;> by_cases h2 : 0 < c % a ∧ Fr s (c - 1) <;> by_cases h3 : c % a < a - 1 ∧ Fr s (c + 1) <;> by_cases h4 : Fr s (c + a) <;> simp [h1, h2, h3, h4]
theorem cellAt_ev (a b : Int) (s : ByteArray) (hG : Gok a b s) (x y : Int) (hx : -10 ≤ x ∧ x ≤ 100) (hy : -10 ≤ y ∧ y ≤ 100) : ∃ K, ∀ k, K ≤ k → spec_CellAt.f k a b s x y = some (if (0 ≤ x ∧ x ≤ a - 1) ∧ (0 ≤ y ∧ y ≤ b - 1) then y * a + x else -1) := by
  have hs := Gok_size hG
  obtain ⟨g0, K0, h0, q0⟩ := gridOk_ev a b s (by omega)
  obtain rfl := q0.mpr hG
  obtain ⟨a0, a1, b0, b1, hab, _⟩ := hG
  refine ⟨K0, fun k hk => ?_⟩
  unfold spec_CellAt.f
  rw [(h0 k hk).1, Option.bind_some, if_pos rfl, w64 (by omega) (by omega), w64 (by omega) (by omega), l01In_eq, Option.bind_some]
  by_cases h1 : 0 ≤ x ∧ x ≤ a - 1
  · rw [decide_eq_true h1, if_pos rfl, l01In_eq, Option.bind_some]
    by_cases h2 : 0 ≤ y ∧ y ≤ b - 1
    · have hp0 : 0 ≤ y * a := Int.mul_nonneg h2.1 (by omega)
      have hp1 : y * a ≤ 7 * 8 := Int.mul_le_mul (by omega) a1 (by omega) (by omega)
      rw [decide_eq_true h2, if_pos rfl, if_pos ⟨h1, h2⟩, w64 (x := y * a) (by omega) (by omega), w64 (by omega) (by omega)]
    · rw [decide_eq_false h2, if_neg (by decide), if_neg (fun h => h2 h.2)]
  · rw [decide_eq_false h1, if_neg (by decide), if_neg (fun h => h1 h.1)]
theorem around_l0 (a b : Int) (s : ByteArray) (hG : Gok a b s) (v : List Int) (hv : v.length = 4) : ∀ (d i : Nat) (acc : List Int), i + d = 4 → acc.length ≤ 10 - d → ∃ K, ∀ k, K ≤ k → spec_Around.l0 k acc v (i : Int) a b s = some (acc ++ (v.drop i).filter (fun x => decide (Fr s x)))
  | 0, i, acc, hi, _ => by
    refine ⟨1, fun k hk => ?_⟩
    obtain ⟨k, rfl⟩ : ∃ m, k = m + 1 := ⟨k - 1, by omega⟩
    rw [spec_Around.l0, if_neg (by omega), List.drop_of_length_le (by omega)]; simp
  | d + 1, i, acc, hi, hl => by
    have hs := Gok_size hG
    obtain ⟨g, K1, h1, q1⟩ := specFreeAt_ev a b s (by omega) (rd v (i : Int))
    have e : wrap64 ((i : Int) + 1) = ((i + 1 : Nat) : Int) := by rw [w64 (by omega) (by omega)]; rfl
    by_cases hf : Fr s (rd v (i : Int))
    · obtain rfl := q1.mpr ⟨hG, hf⟩
      obtain ⟨K2, h2⟩ := around_l0 a b s hG v hv d (i + 1) (acc ++ [rd v (i : Int)]) (by omega) (by simp; omega)
      refine ⟨K1 + K2 + 1, fun k hk => ?_⟩
      obtain ⟨k, rfl⟩ : ∃ m, k = m + 1 := ⟨k - 1, by omega⟩
      rw [spec_Around.l0, if_pos (by omega), if_pos (by omega), if_pos (by omega), h1 k (by omega), Option.bind_some, if_pos rfl, if_pos (by omega), e, h2 k (by omega), drop_cons v i (by omega), List.filter_cons_of_pos (by rw [← rd_get v i (by omega)]; exact decide_eq_true hf), rd_get v i (by omega)]
      simp
    · have hg : g = false := by
        cases g with
        | false => rfl
        | true => exact absurd (q1.mp rfl).2 hf
      subst hg
      obtain ⟨K2, h2⟩ := around_l0 a b s hG v hv d (i + 1) acc (by omega) (by omega)
      refine ⟨K1 + K2 + 1, fun k hk => ?_⟩
      obtain ⟨k, rfl⟩ : ∃ m, k = m + 1 := ⟨k - 1, by omega⟩
      rw [spec_Around.l0, if_pos (by omega), if_pos (by omega), if_pos (by omega), h1 k (by omega), Option.bind_some, if_neg (by decide), e, h2 k (by omega), drop_cons v i (by omega), List.filter_cons_of_neg (by rw [← rd_get v i (by omega)]; simpa using hf)]
theorem specAround_ev (a b : Int) (s : ByteArray) (hG : Gok a b s) (c : Int) (hc : Fr s c) : ∃ ns K, (∀ k, K ≤ k → spec_Around.f k a b s c = some ns) ∧ (∀ x, x ∈ ns ↔ Adj a s c x) ∧ ns.length ≤ 4 := by
  have hs := Gok_size hG
  obtain ⟨g0, K0, h0, q0⟩ := gridOk_ev a b s (by omega)
  obtain rfl := q0.mpr hG
  obtain ⟨g1, K1, h1, q1⟩ := specFreeAt_ev a b s (by omega) c
  obtain rfl := q1.mpr ⟨hG, hc⟩
  obtain ⟨a0, a1, b0, b1, hab, _⟩ := id hG
  obtain ⟨c0, c1⟩ := Fr_lt hc
  have m0 := Int.emod_nonneg c (show a ≠ 0 by omega)
  have m1 := Int.emod_lt_of_pos c (show 0 < a by omega)
  have y0 := Int.ediv_nonneg c0 (show 0 ≤ a by omega)
  have y1 : c / a < b := Int.ediv_lt_of_lt_mul (by omega) (by rw [Int.mul_comm]; omega)
  have hd : c / a * a + c % a = c := by rw [Int.mul_comm]; exact Int.mul_ediv_add_emod c a
  have e1 : Int.tmod c a = c % a := Int.tmod_eq_emod_of_nonneg c0
  have e2 : Int.tdiv c a = c / a := Int.tdiv_eq_ediv_of_nonneg c0
  have hsp : ∀ k, K0 ≤ k → spec_SpotOf.f k a b s c = some (c % a, c / a) := fun k hk => by
    unfold spec_SpotOf.f
    rw [(h0 k hk).1, Option.bind_some, if_pos rfl, if_neg (by omega), if_neg (by omega), if_neg (by omega), e1, e2, w64 (by omega) (by omega)]
  generalize hX : c % a = X at *
  generalize hY : c / a = Y at *
  have w1 : wrap64 (Y - 1) = Y - 1 := w64 (by omega) (by omega)
  have w2 : wrap64 (X - 1) = X - 1 := w64 (by omega) (by omega)
  have w3 : wrap64 (X + 1) = X + 1 := w64 (by omega) (by omega)
  have w4 : wrap64 (Y + 1) = Y + 1 := w64 (by omega) (by omega)
  obtain ⟨K2, h2⟩ := cellAt_ev a b s hG X (Y - 1) (by omega) (by omega)
  obtain ⟨K3, h3⟩ := cellAt_ev a b s hG (X - 1) Y (by omega) (by omega)
  obtain ⟨K4, h4⟩ := cellAt_ev a b s hG (X + 1) Y (by omega) (by omega)
  obtain ⟨K5, h5⟩ := cellAt_ev a b s hG X (Y + 1) (by omega) (by omega)
  generalize hv1 : (if (0 ≤ X ∧ X ≤ a - 1) ∧ (0 ≤ Y - 1 ∧ Y - 1 ≤ b - 1) then (Y - 1) * a + X else -1) = v1 at h2
  generalize hv2 : (if (0 ≤ X - 1 ∧ X - 1 ≤ a - 1) ∧ (0 ≤ Y ∧ Y ≤ b - 1) then Y * a + (X - 1) else -1) = v2 at h3
  generalize hv3 : (if (0 ≤ X + 1 ∧ X + 1 ≤ a - 1) ∧ (0 ≤ Y ∧ Y ≤ b - 1) then Y * a + (X + 1) else -1) = v3 at h4
  generalize hv4 : (if (0 ≤ X ∧ X ≤ a - 1) ∧ (0 ≤ Y + 1 ∧ Y + 1 ≤ b - 1) then (Y + 1) * a + X else -1) = v4 at h5
  obtain ⟨K6, h6⟩ := around_l0 a b s hG [v1, v2, v3, v4] rfl 4 0 [] rfl (by simp)
  refine ⟨[v1, v2, v3, v4].filter (fun x => decide (Fr s x)), K0 + K1 + K2 + K3 + K4 + K5 + K6, fun k hk => ?_, fun x => ?_, List.length_filter_le _ _⟩
  · unfold spec_Around.f
    rw [Option.bind_some, h1 k (by omega), Option.bind_some, if_pos rfl, hsp k (by omega), Option.bind_some]
    simp only [w1, w2, w3, w4]
    rw [h2 k (by omega), Option.bind_some, h3 k (by omega), Option.bind_some, h4 k (by omega), Option.bind_some, h5 k (by omega), Option.bind_some]
    have := h6 k (by omega)
    rw [List.drop_zero, List.nil_append] at this
    exact this
  · have hn1 : Fr s (-1) → False := fun h => by have := h.1; omega
    have u1 : Fr s x → (x = v1 ↔ x = c - a) := fun hx => by
      obtain ⟨x0, x1⟩ := Fr_lt hx
      rw [← hv1]
      by_cases hy : Y = 0
      · have : Y * a = 0 := by rw [hy, Int.zero_mul]
        rw [if_neg (by omega)]
        constructor <;> intro h <;> omega
      · rw [if_pos (by omega), Int.sub_mul, Int.one_mul]
        constructor <;> intro h <;> omega
    have u2 : Fr s x → (x = v2 ↔ (x = c - 1 ∧ 0 < X)) := fun hx => by
      obtain ⟨x0, x1⟩ := Fr_lt hx
      rw [← hv2]
      by_cases hy : X = 0
      · rw [if_neg (by omega)]
        constructor <;> intro h <;> omega
      · rw [if_pos (by omega)]
        constructor <;> intro h <;> omega
    have u3 : Fr s x → (x = v3 ↔ (x = c + 1 ∧ X < a - 1)) := fun hx => by
      obtain ⟨x0, x1⟩ := Fr_lt hx
      rw [← hv3]
      by_cases hy : X = a - 1
      · rw [if_neg (by omega)]
        constructor <;> intro h <;> omega
      · rw [if_pos (by omega)]
        constructor <;> intro h <;> omega
    have u4 : Fr s x → (x = v4 ↔ x = c + a) := fun hx => by
      obtain ⟨x0, x1⟩ := Fr_lt hx
      rw [← hv4]
      by_cases hy : Y = b - 1
      · have : Y * a = a * b - a := by rw [hy, Int.sub_mul, Int.one_mul, Int.mul_comm]
        rw [if_neg (by omega)]
        constructor <;> intro h <;> omega
      · rw [if_pos (by omega), Int.add_mul, Int.one_mul]
        constructor <;> intro h <;> omega
    rw [List.mem_filter]
    unfold Adj
    rw [hX]
    simp only [List.mem_cons, List.not_mem_nil, or_false, decide_eq_true_eq]
    constructor
    · rintro ⟨h, hx⟩
      rw [u1 hx, u2 hx, u3 hx, u4 hx] at h
      exact ⟨hc, hx, h⟩
    · rintro ⟨_, hx, h⟩
      rw [u1 hx, u2 hx, u3 hx, u4 hx]
      exact ⟨h, hx⟩
end Go.Proofs.Ytooofofeihkpcaa.Pure
