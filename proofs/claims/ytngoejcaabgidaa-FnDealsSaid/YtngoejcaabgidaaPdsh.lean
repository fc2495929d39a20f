/- What is drawn for the deals' laws: wants, rooms and a total that can be dealt. -/
import Derived.Test.YtngoejcaabgidaaPd2
import Derived.Test.YtngoejcaabgidaaPdr
import Derived.Test.YtngoejcaabgidaaQ12
set_option linter.unusedSimpArgs false
set_option linter.unusedSectionVars false
namespace Go.Proofs.Ytngoejcaabgidaa.Pure
open Go.RowKit Go.Proofs.Ytngoejcaabgidaa.Q Go.Proofs.YtngoejcaabgidaaW.PrintWords Go.Proofs.YtngoejcaabgidaaW.PrintLast
theorem rd_snoc (l : List Int) (x : Int) (i : Nat) (h : i < l.length) : rd (l ++ [x]) (i : Int) = rd l (i : Int) := by
  rw [rd_get _ i (by simp; omega), rd_get l i h, List.getElem_append_left h]
theorem rd_snoc_last (l : List Int) (x : Int) : rd (l ++ [x]) (l.length : Int) = x := by
  rw [rd_get _ l.length (by simp)]
  simp
theorem roomSum_snoc (w r : List Int) (x y : Int) (hl : w.length = r.length) : ∀ (d i : Nat) (acc : Int), i + d = w.length → roomSum (w ++ [x]) (r ++ [y]) (d + 1) i acc = if x > 0 then wrap64 (roomSum w r d i acc + y) else roomSum w r d i acc
  | 0, i, acc, hi => by
    obtain rfl : i = w.length := by omega
    have h2 : rd (r ++ [y]) (w.length : Int) = y := by rw [hl]; exact rd_snoc_last r y
    simp only [roomSum]
    rw [rd_snoc_last w x, h2]
  | d + 1, i, acc, hi => by
    rw [roomSum, roomSum_snoc w r x y hl d (i + 1) _ (by omega), rd_snoc w x i (by omega), rd_snoc r y i (by omega)]
    rfl
/-- What has been drawn so far. -/
def Shared (n : Nat) (w r : List Int) (sum : Int) : Prop := w.length = n ∧ r.length = n ∧ (∀ x ∈ w, 0 ≤ x ∧ x ≤ 10000) ∧ (∀ x ∈ r, 0 ≤ x ∧ x ≤ 7) ∧ roomSum w r n 0 0 = sum ∧ 0 ≤ sum ∧ sum ≤ 7 * n
theorem Shared.more {n : Nat} {w r : List Int} {sum : Int} (h : Shared n w r sum) (x y : Int) (hx : 0 ≤ x ∧ x ≤ 10000) (hy : 0 ≤ y ∧ y ≤ 7) (hn : n ≤ 100) : Shared (n + 1) (w ++ [x]) (r ++ [y]) (if x > 0 then sum + y else sum) ∧ (x > 0 → wrap64 (sum + y) = sum + y) := by
  obtain ⟨h1, h2, h3, h4, h5, h6, h7⟩ := h
  have hw : wrap64 (sum + y) = sum + y := w64 (by omega) (by omega)
  refine ⟨⟨by simp; omega, by simp; omega, fun z hz => ?_, fun z hz => ?_, ?_, by split <;> omega, by split <;> omega⟩, fun _ => hw⟩
  · rcases List.mem_append.mp hz with e | e
    · exact h3 z e
    · have : z = x := by simpa using e
      omega
  · rcases List.mem_append.mp hz with e | e
    · exact h4 z e
    · have : z = y := by simpa using e
      omega
  · rw [roomSum_snoc w r x y (by omega) n 0 0 (by omega), h5, hw]
theorem Shared.ok {n : Nat} {w r : List Int} {sum : Int} (h : Shared n w r sum) (hn : n ≤ 16) (t : Int) (ht : 0 ≤ t ∧ t ≤ sum) : DOk w r t = true := by
  obtain ⟨h1, h2, h3, h4, h5, h6, h7⟩ := h
  refine decide_eq_true ⟨by omega, by omega, Wants_of w h3, Wants_of r (fun x hx => by have := h4 x hx; omega), ht.1, ?_⟩
  rw [h1, h5]
  exact ht.2
theorem shares_l0 (s : List Int) (hs : s.length ≤ 1048576) : ∀ (d n : Nat) (w r : List Int) (sum i h : Int), n + d = 7 → 0 ≤ i → Shared n w r sum → ∃ w' r' t i' h' K, (∀ k, K ≤ k → spec_l18Right.l0 k w r sum (n : Int) s i h = some (w', r', t, i', h')) ∧ DOk w' r' t = true
  | d, n, w, r, sum, i, h, hn, hi, hsh => by
    obtain ⟨v, i1, h1, e1, a1, b1, c1⟩ := below_ev s hs i h 7 hi (by omega) (by omega)
    obtain ⟨q1, q2, q6, q7⟩ : w.length = n ∧ r.length = n ∧ 0 ≤ sum ∧ sum ≤ 7 * n := ⟨hsh.1, hsh.2.1, hsh.2.2.2.2.2⟩
    obtain ⟨x1, hw1, hx1⟩ : ∃ x, wrap64 (1 + v) = x ∧ x = 1 + v := ⟨_, rfl, w64 (by omega) (by omega)⟩
    replace hw1 : Aside0 _ := ⟨hw1⟩
    by_cases c : (n : Int) < 1 + v
    · match d with
      | 0 => omega
      | d + 1 =>
        obtain ⟨v2, i2, h2, e2, a2, b2, c2⟩ := below_ev s hs i1 h1 12 c1 (by omega) (by omega)
        obtain ⟨v3, i3, h3, e3, a3, b3, c3⟩ := below_ev s hs i2 h2 8 c2 (by omega) (by omega)
        obtain ⟨q, i4, h4, e4, c4⟩ := once_ev s hs i3 h3 8 c3 (by omega) (by omega)
        have hlw : w.length < 17592186044416 := by omega
        have hlr : r.length < 17592186044416 := by omega
        cases q with
        | true =>
          obtain ⟨v5, i5, h5, e5, a5, b5, c5⟩ := below4_ev s hs i4 h4 10001 c4 (by omega)
          have hm0 := hsh.more v5 v3 (by omega) (by omega) (by omega)
          have hm := hm0.1
          have hw2 := Aside0.mk hm0.2
          clear hm0
          obtain ⟨w', r', t, i', h', K, hh, hok⟩ := shares_l0 s hs d (n + 1) _ _ _ i5 h5 (by omega) c5 hm
          refine ⟨w', r', t, i', h', K + 1, fun k hk => ?_, hok⟩
          obtain ⟨k, rfl⟩ : ∃ m, k = m + 1 := ⟨k - 1, by omega⟩
          have hh := hh k (by omega)
          simp only [spec_l18Right.l0]
          rw [e1]
          simp only [Option.bind_some]
          rw [hw1.out, if_pos (by omega), e2]
          simp only [Option.bind_some]
          rw [e3]
          simp only [Option.bind_some]
          rw [e4]
          simp only [Option.bind_some, reduceIte]
          rw [e5]
          simp only [Option.bind_some]
          rw [if_pos hlw, if_pos hlr, show wrap64 ((n : Int) + 1) = ((n + 1 : Nat) : Int) from w64 (by omega) (by omega)]
          by_cases c5 : v5 > 0
          · rw [if_pos c5] at hh ⊢
            rw [hw2.out c5]
            exact hh
          · rw [if_neg c5] at hh ⊢
            exact hh
        | false =>
          have hm0 := hsh.more v2 v3 (by omega) (by omega) (by omega)
          have hm := hm0.1
          have hw2 := Aside0.mk hm0.2
          clear hm0
          obtain ⟨w', r', t, i', h', K, hh, hok⟩ := shares_l0 s hs d (n + 1) _ _ _ i4 h4 (by omega) c4 hm
          refine ⟨w', r', t, i', h', K + 1, fun k hk => ?_, hok⟩
          obtain ⟨k, rfl⟩ : ∃ m, k = m + 1 := ⟨k - 1, by omega⟩
          have hh := hh k (by omega)
          simp only [spec_l18Right.l0]
          rw [e1]
          simp only [Option.bind_some]
          rw [hw1.out, if_pos (by omega), e2]
          simp only [Option.bind_some]
          rw [e3]
          simp only [Option.bind_some]
          rw [e4]
          simp only [Option.bind_some, Bool.false_eq_true, reduceIte]
          rw [if_pos hlw, if_pos hlr, show wrap64 ((n : Int) + 1) = ((n + 1 : Nat) : Int) from w64 (by omega) (by omega)]
          by_cases c5 : v2 > 0
          · rw [if_pos c5] at hh ⊢
            rw [hw2.out c5]
            exact hh
          · rw [if_neg c5] at hh ⊢
            exact hh
    · obtain ⟨v2, i2, h2, e2, a2, b2, c2⟩ := below_ev s hs i1 h1 (sum + 1) c1 (by omega) (by omega)
      refine ⟨w, r, v2, i2, h2, 1, fun k hk => ?_, hsh.ok (by omega) v2 (by omega)⟩
      obtain ⟨k, rfl⟩ : ∃ m, k = m + 1 := ⟨k - 1, by omega⟩
      simp only [spec_l18Right.l0]
      rw [e1]
      simp only [Option.bind_some]
      rw [hw1.out, if_neg (by omega), show wrap64 (sum + 1) = sum + 1 from w64 (by omega) (by omega), e2]
      simp only [Option.bind_some]
/-- Wants, rooms and a total are drawn that can be dealt. -/
theorem shares_ev (s : List Int) (hs : s.length ≤ 1048576) : ∃ w r t K, (∀ k, K ≤ k → spec_DrawShares.f k s = some (w, r, t)) ∧ DOk w r t = true := by
  obtain ⟨h, K0, h0⟩ := new_ev s hs
  obtain ⟨w, r, t, i', h', K, hh, hok⟩ := shares_l0 s hs 7 0 [] [] 0 0 h (by omega) (by omega) ⟨rfl, rfl, fun x hx => (by cases hx), fun x hx => (by cases hx), rfl, by omega, by omega⟩
  refine ⟨w, r, t, K0 + K, fun k hk => ?_, hok⟩
  unfold spec_DrawShares.f spec_l18Right.f
  rw [h0 k (by omega)]
  simp only [Option.bind_some]
  have := hh k (by omega)
  rw [show ((0 : Nat) : Int) = 0 from rfl] at this
  rw [this]
  simp only [Option.bind_some]
end Go.Proofs.Ytngoejcaabgidaa.Pure
