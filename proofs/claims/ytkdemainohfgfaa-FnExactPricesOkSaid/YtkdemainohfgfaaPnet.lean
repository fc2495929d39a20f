/- Nets and flows: what the program and the reference answer. -/
import Derived.Test.YtkdemainohfgfaaPi
import Derived.Test.YtkdemainohfgfaaQ4
import Derived.Test.YtkdemainohfgfaaQ10
set_option linter.unusedSimpArgs false
set_option linter.unusedSectionVars false
namespace Go.Proofs.Ytkdemainohfgfaa.Pure
open Go.RowKit Go.Proofs.Ytkdemainohfgfaa.Q Go.Proofs.YtkdemainohfgfaaW.PrintWords Go.Proofs.YtkdemainohfgfaaW.PrintLast
abbrev AI := S53
theorem rdA_get (l : List AI) (i : Nat) (h : i < l.length) : rd_T53 l (i : Int) = l[i] := by simp [rd_T53, h]
theorem l01In_eq (a b c : Int) : spec_l01In.f a b c = some (decide (b ≤ a ∧ a ≤ c)) := by
  unfold spec_l01In.f
  by_cases h : a ≥ b
  · rw [if_pos h]; congr 1; exact decide_eq_decide.mpr ⟨fun h2 => ⟨h, h2⟩, fun h2 => h2.2⟩
  · rw [if_neg h, decide_eq_false (fun h2 => h h2.1)]
/-- An arc that is right. -/
def Aok (n : Int) (x : AI) : Prop := (0 ≤ x.f0 ∧ x.f0 < n) ∧ (0 ≤ x.f1 ∧ x.f1 < n) ∧ x.f0 ≠ x.f1 ∧ (0 ≤ x.f2 ∧ x.f2 ≤ 20) ∧ (0 ≤ x.f3 ∧ x.f3 ≤ 100)
def AFrom (n : Int) (l : List AI) (i : Nat) : Prop := ∀ j : Nat, i ≤ j → (h : j < l.length) → Aok n l[j]
theorem AFrom_step (n : Int) (l : List AI) (i : Nat) (hi : i < l.length) : AFrom n l i ↔ Aok n l[i] ∧ AFrom n l (i + 1) := by
  constructor
  · exact fun h => ⟨h i (Nat.le_refl _) hi, fun j h1 => h j (by omega)⟩
  · rintro ⟨h0, h⟩ j h1 h2
    rcases Nat.eq_or_lt_of_le h1 with e | e
    · subst e; exact h0
    · exact h j e h2
/-- A net that is right. -/
def Nok (n : Int) (l : List AI) : Prop := (2 ≤ n ∧ n ≤ 1500) ∧ l.length ≤ 3200 ∧ AFrom n l 0
theorem net_l0 (n : Int) (l : List AI) (hn : 2 ≤ n ∧ n ≤ 1500) (hl : l.length ≤ 3200) : ∀ (d i : Nat), i + d = l.length → ∃ g K, (∀ k, K ≤ k → spec_NetOk.l0 k (i : Int) n l = some g ∧ impl_NetOk.l0 k l (l.length : Int) (i : Int) n l = some g) ∧ (g = true ↔ AFrom n l i)
  | 0, i, hi => by
    refine ⟨true, 1, fun k hk => ?_, ⟨fun _ j h1 h2 => by omega, fun _ => rfl⟩⟩
    obtain ⟨k, rfl⟩ : ∃ m, k = m + 1 := ⟨k - 1, by omega⟩
    have e1 : ¬ (i : Int) < (l.length : Int) := by omega
    simp only [spec_NetOk.l0, impl_NetOk.l0, e1, reduceIte, and_self]
  | d + 1, i, hi => by
    obtain ⟨g, K, h, hg⟩ := net_l0 n l hn hl d (i + 1) (by omega)
    have e1 : (i : Int) < (l.length : Int) := by omega
    have e2 : (0 : Int) ≤ i := by omega
    have e8 : wrap64 (n - 1) = n - 1 := w64 (by omega) (by omega)
    have e9 : wrap64 ((i : Int) + 1) = ((i + 1 : Nat) : Int) := by rw [w64 (by omega) (by omega)]; rfl
    rw [AFrom_step n l i (by omega)]
    have r1 := rdA_get l i (show i < l.length by omega)
    have hL : l[i]'(by omega) = l[i]'(by omega) := rfl
    generalize l[i]'(by omega) = x at r1 ⊢
    clear hL
    by_cases hA : Aok n x
    · obtain ⟨⟨a1, a2⟩, ⟨a3, a4⟩, a5, ⟨a6, a7⟩, ⟨a8, a9⟩⟩ := id hA
      refine ⟨g, K + 2, fun k hk => ?_, by rw [hg]; exact ⟨fun h => ⟨hA, h⟩, fun h => h.2⟩⟩
      obtain ⟨k, rfl⟩ : ∃ m, k = m + 2 := ⟨k - 2, by omega⟩
      obtain ⟨h1, h2⟩ := h k (by omega)
      obtain ⟨h3, h4⟩ := h (k + 1) (by omega)
      have b1 : ¬ x.f0 < 0 := by clear h hg; omega
      have b2 : ¬ x.f0 ≥ n := by clear h hg; omega
      have b3 : ¬ x.f1 < 0 := by clear h hg; omega
      have b4 : ¬ x.f1 ≥ n := by clear h hg; omega
      have b6 : ¬ x.f2 < 0 := by clear h hg; omega
      have b7 : ¬ x.f2 > 20 := by clear h hg; omega
      have b8 : ¬ x.f3 < 0 := by clear h hg; omega
      have b9 : ¬ x.f3 > 100 := by clear h hg; omega
      have c1 : (0 ≤ x.f0 ∧ x.f0 ≤ n - 1) := by clear h hg; omega
      have c2 : (0 ≤ x.f1 ∧ x.f1 ≤ n - 1) := by clear h hg; omega
      have b5 : (x.f0 == x.f1) = false := by simpa using a5
      constructor
      · clear h2
        rw [show k + 2 = (k + 1) + 1 from rfl]
        generalize k + 1 = k1 at h3 ⊢
        simp only [spec_NetOk.l0, r1, e1, e2, e9, e8, l01In_eq, Option.bind_some, c1, c2, a5, a6, a7, a8, a9, and_self, decide_true, reduceIte]
        exact h3
      · simp only [impl_NetOk.l0, impl_NetOk.j2, r1, e1, e2, e9, b1, b2, b3, b4, b5, b6, b7, b8, b9, Bool.false_eq_true, reduceIte]
        exact h2
    · refine ⟨false, 2, fun k hk => ?_, ⟨fun h => (by cases h), fun h => absurd h.1 hA⟩⟩
      obtain ⟨k, rfl⟩ : ∃ m, k = m + 2 := ⟨k - 2, by omega⟩
      clear h hg
      constructor
      · simp only [spec_NetOk.l0, r1, e1, e2, e8, l01In_eq, Option.bind_some, reduceIte]
        by_cases c1 : (0 ≤ x.f0 ∧ x.f0 ≤ n - 1)
        · by_cases c2 : (0 ≤ x.f1 ∧ x.f1 ≤ n - 1)
          · by_cases c3 : x.f0 = x.f1
            · rw [decide_eq_true c1, decide_eq_true c2]
              simp only [c3, reduceIte]
            · by_cases c4 : (0 ≤ x.f2 ∧ x.f2 ≤ 20)
              · by_cases c5 : (0 ≤ x.f3 ∧ x.f3 ≤ 100)
                · exact absurd ⟨⟨c1.1, by omega⟩, ⟨c2.1, by omega⟩, c3, c4, c5⟩ hA
                · rw [decide_eq_true c1, decide_eq_true c2, decide_eq_true c4, decide_eq_false c5]
                  simp only [c3, Bool.false_eq_true, reduceIte]
              · rw [decide_eq_true c1, decide_eq_true c2, decide_eq_false c4]
                simp only [c3, Bool.false_eq_true, reduceIte]
          · rw [decide_eq_true c1, decide_eq_false c2]
            simp only [Bool.false_eq_true, reduceIte]
        · rw [decide_eq_false c1]
          simp only [Bool.false_eq_true, reduceIte]
      · simp only [impl_NetOk.l0, impl_NetOk.j2, r1, e1, e2, reduceIte]
        by_cases c1 : x.f0 < 0
        · simp only [c1, reduceIte]
        · by_cases c2 : x.f0 ≥ n
          · simp only [c1, c2, reduceIte]
          · by_cases c3 : x.f1 < 0
            · simp only [c1, c2, c3, reduceIte]
            · by_cases c4 : x.f1 ≥ n
              · simp only [c1, c2, c3, c4, reduceIte]
              · by_cases c5 : (x.f0 == x.f1) = true
                · simp only [c1, c2, c3, c4, c5, reduceIte]
                · by_cases c6 : x.f2 < 0
                  · simp only [c1, c2, c3, c4, c5, c6, Bool.false_eq_true, reduceIte]
                  · by_cases c7 : x.f2 > 20
                    · simp only [c1, c2, c3, c4, c5, c6, c7, Bool.false_eq_true, reduceIte]
                    · by_cases c8 : x.f3 < 0
                      · simp only [c1, c2, c3, c4, c5, c6, c7, c8, Bool.false_eq_true, reduceIte]
                      · by_cases c9 : x.f3 > 100
                        · simp only [c1, c2, c3, c4, c5, c6, c7, c8, c9, Bool.false_eq_true, reduceIte]
                        · exact absurd ⟨⟨by omega, by omega⟩, ⟨by omega, by omega⟩, by simpa using c5, ⟨by omega, by omega⟩, ⟨by omega, by omega⟩⟩ hA
theorem net_ev (n : Int) (l : List AI) (hl : l.length ≤ 1048576) : ∃ g K, (∀ k, K ≤ k → spec_NetOk.f k n l = some g ∧ impl_NetOk.f k n l = some g) ∧ (g = true ↔ Nok n l) := by
  by_cases hn : 2 ≤ n ∧ n ≤ 1500
  · by_cases h3 : l.length ≤ 3200
    · obtain ⟨g, K, h, hg⟩ := net_l0 n l hn h3 l.length 0 (by omega)
      refine ⟨g, K + 1, fun k hk => ?_, by rw [hg]; exact ⟨fun h => ⟨hn, h3, h⟩, fun h => h.2.2⟩⟩
      obtain ⟨k, rfl⟩ : ∃ m, k = m + 1 := ⟨k - 1, by omega⟩
      have b1 : ¬ n < 2 := by clear h hg; omega
      have b2 : ¬ n > 1500 := by clear h hg; omega
      have b3 : decide ((l.length : Int) > 3200) = false := decide_eq_false (by clear h hg; omega)
      unfold spec_NetOk.f impl_NetOk.f
      simp only [l01In_eq, hn, and_self, decide_true, Option.bind_some, b1, b2, b3, reduceIte]
      simp only [spec_NetOk.j0, impl_NetOk.j0, Bool.false_eq_true, reduceIte]
      exact h k (by omega)
    · refine ⟨false, 1, fun k hk => ?_, ⟨fun h => (by cases h), fun h => absurd h.2.1 h3⟩⟩
      obtain ⟨k, rfl⟩ : ∃ m, k = m + 1 := ⟨k - 1, by omega⟩
      have b1 : ¬ n < 2 := by omega
      have b2 : ¬ n > 1500 := by omega
      have b3 : decide ((l.length : Int) > 3200) = true := decide_eq_true (by omega)
      unfold spec_NetOk.f impl_NetOk.f
      simp only [l01In_eq, hn, and_self, decide_true, Option.bind_some, b1, b2, b3, reduceIte]
      simp only [spec_NetOk.j0, impl_NetOk.j0, reduceIte, and_self]
  · refine ⟨false, 1, fun k hk => ?_, ⟨fun h => (by cases h), fun h => absurd h.1 hn⟩⟩
    obtain ⟨k, rfl⟩ : ∃ m, k = m + 1 := ⟨k - 1, by omega⟩
    unfold spec_NetOk.f impl_NetOk.f
    rw [l01In_eq, Option.bind_some, decide_eq_false hn]
    simp only [Bool.false_eq_true, reduceIte]
    by_cases b1 : n < 2
    · simp only [b1, spec_NetOk.j0, impl_NetOk.j0, reduceIte, and_self]
    · have b2 : n > 1500 := by omega
      simp only [b1, b2, spec_NetOk.j0, impl_NetOk.j0, reduceIte, and_self]
theorem rd_setA (l : List Int) (z v : Int) (hz : 0 ≤ z) (hl : z < l.length) (i : Int) (hi : 0 ≤ i) : rd (l.set z.toNat v) i = if i = z then v else rd l i := by
  unfold rd
  rw [List.getD_eq_getElem?_getD, List.getD_eq_getElem?_getD, List.getElem?_set]
  by_cases e : i = z
  · subst e
    rw [if_pos rfl, if_pos (by omega), if_pos rfl]; rfl
  · rw [if_neg (by omega), if_neg e]
/-- The flow of each arc has room in it. -/
def FlFrom (l : List AI) (f : List Int) (i : Nat) : Prop := ∀ j : Nat, i ≤ j → (h : j < l.length) → 0 ≤ rd f (j : Int) ∧ rd f (j : Int) ≤ l[j].f2
theorem FlFrom_step (l : List AI) (f : List Int) (i : Nat) (hi : i < l.length) : FlFrom l f i ↔ (0 ≤ rd f (i : Int) ∧ rd f (i : Int) ≤ l[i].f2) ∧ FlFrom l f (i + 1) := by
  constructor
  · exact fun h => ⟨h i (Nat.le_refl _) hi, fun j h1 => h j (by omega)⟩
  · rintro ⟨h0, h⟩ j h1 h2
    rcases Nat.eq_or_lt_of_le h1 with e | e
    · subst e; exact h0
    · exact h j e h2
theorem excess_l0 (n : Int) (l : List AI) (f : List Int) (hN : Nok n l) (hf : f.length = l.length) (hfl : FlFrom l f 0) : ∀ (d i : Nat) (p q : List Int), i + d = l.length → (p.length : Int) = n → (q.length : Int) = n → (∀ j : Int, 0 ≤ j → rd q j = - rd p j ∧ -(40 * (i : Int)) ≤ rd p j ∧ rd p j ≤ 40 * (i : Int)) →
    ∃ p' q' K, (∀ k, K ≤ k → spec_l06Out.l0 k f p (i : Int) n l = some p' ∧ impl_excess.l0 k f q l (l.length : Int) (i : Int) = some q') ∧ (p'.length : Int) = n ∧ (q'.length : Int) = n ∧ ∀ j : Int, 0 ≤ j → rd q' j = - rd p' j
  | 0, i, p, q, hi, hp, hq, h => by
    refine ⟨p, q, 1, fun k hk => ?_, hp, hq, fun j hj => (h j hj).1⟩
    obtain ⟨k, rfl⟩ : ∃ m, k = m + 1 := ⟨k - 1, by omega⟩
    have e1 : ¬ (i : Int) < (l.length : Int) := by clear h; omega
    have e2 : ¬ (i : Int) < (f.length : Int) := by clear h; omega
    simp only [spec_l06Out.l0, impl_excess.l0, e1, e2, reduceIte, and_self]
  | d + 1, i, p, q, hi, hp, hq, h => by
    have hil : i < l.length := by clear h; omega
    obtain ⟨hn, h32, hA⟩ := id hN
    obtain ⟨⟨a1, a2⟩, ⟨a3, a4⟩, a5, ⟨a6, a7⟩, _⟩ := hA i (Nat.zero_le _) hil
    obtain ⟨f0, f1⟩ := hfl i (Nat.zero_le _) hil
    have r1 := rdA_get l i hil
    have e1 : (i : Int) < (l.length : Int) := by clear h; omega
    have e2 : (0 : Int) ≤ i := by clear h; omega
    have e3 : (i : Int) < (f.length : Int) := by clear h; omega
    have hi40 : (i : Int) ≤ 3200 := by clear h hA hfl; omega
    have e9' : Aside0 (wrap64 ((i : Int) + 1) = ((i + 1 : Nat) : Int)) := ⟨by rw [w64 (by clear h hA hfl; omega) (by clear h hA hfl; omega)]; rfl⟩
    generalize l[i] = x at a1 a2 a3 a4 a5 a6 a7 f0 f1 r1
    generalize hc : rd f (i : Int) = c at f0 f1
    have c20 : c ≤ 20 := by clear h; omega
    have p1 : x.f0 < (p.length : Int) := by rw [hp]; exact a2
    have p2 : x.f1 < (p.length : Int) := by rw [hp]; exact a4
    have q1 : x.f0 < (q.length : Int) := by rw [hq]; exact a2
    have q2 : x.f1 < (q.length : Int) := by rw [hq]; exact a4
    obtain ⟨g1, g2, g3⟩ := h x.f0 a1
    obtain ⟨g4, g5, g6⟩ := h x.f1 a3
    have ne1 : ¬ x.f1 = x.f0 := fun e => a5 e.symm
    have s1 : rd (p.set x.f0.toNat (wrap64 (rd p x.f0 + c))) x.f1 = rd p x.f1 := by rw [rd_setA p x.f0 _ a1 p1 x.f1 a3, if_neg ne1]
    have s2 : rd (q.set x.f1.toNat (wrap64 (rd q x.f1 + c))) x.f0 = rd q x.f0 := by rw [rd_setA q x.f1 _ a3 q2 x.f0 a1, if_neg a5]
    have w1 : wrap64 (rd p x.f0 + c) = rd p x.f0 + c := by clear h; exact w64 (by omega) (by omega)
    have w2 : wrap64 (rd p x.f1 - c) = rd p x.f1 - c := by clear h; exact w64 (by omega) (by omega)
    have w3 : wrap64 (rd q x.f1 + c) = rd q x.f1 + c := by clear h; exact w64 (by omega) (by omega)
    have w4 : wrap64 (rd q x.f0 - c) = rd q x.f0 - c := by clear h; exact w64 (by omega) (by omega)
    obtain ⟨p', q', K, hh, hp', hq', hr⟩ := excess_l0 n l f hN hf hfl d (i + 1) ((p.set x.f0.toNat (rd p x.f0 + c)).set x.f1.toNat (rd p x.f1 - c)) ((q.set x.f1.toNat (rd q x.f1 + c)).set x.f0.toNat (rd q x.f0 - c)) (by clear h; omega) (by simpa using hp) (by simpa using hq) (fun j hj => by
      obtain ⟨u1, u2, u3⟩ := h j hj
      clear h
      rw [rd_setA _ x.f1 _ a3 (by simpa using p2) j hj, rd_setA _ x.f0 _ a1 p1 j hj, rd_setA _ x.f0 _ a1 (by simpa using q1) j hj, rd_setA _ x.f1 _ a3 q2 j hj]
      by_cases j1 : j = x.f1
      · have j0 : ¬ j = x.f0 := fun e => a5 (by rw [← e, ← j1])
        rw [if_pos j1, if_neg j0, if_pos j1]
        clear s1 s2 w1 w2 w3 w4
        omega
      · rw [if_neg j1]
        by_cases j0 : j = x.f0
        · rw [if_pos j0, if_pos j0]
          clear s1 s2 w1 w2 w3 w4
          omega
        · rw [if_neg j0, if_neg j0, if_neg j1]
          clear s1 s2 w1 w2 w3 w4
          omega)
    clear h
    refine ⟨p', q', K + 1, fun k hk => ?_, hp', hq', hr⟩
    obtain ⟨k, rfl, hkK⟩ : ∃ m, k = m + 1 ∧ K ≤ m := ⟨k - 1, Nat.eq_add_of_sub_eq (Nat.le_trans (Nat.le_add_left 1 K) hk) rfl, Nat.le_sub_of_add_le hk⟩
    obtain ⟨h1, h2⟩ := hh k hkK
    rw [w1] at s1
    rw [w3] at s2
    have p3 : x.f1 < ((p.set x.f0.toNat (rd p x.f0 + c)).length : Int) := by simpa using p2
    have e9 := e9'.out
    constructor
    · simp only [spec_l06Out.l0, r1, hc, e1, e2, e3, a1, a3, p1, p2, Option.bind_some, w1, s1, w2, e9, reduceIte]
      exact h1
    · simp only [impl_excess.l0, r1, hc, e1, e2, e3, a1, a3, q1, q2, Option.bind_some, w3, s2, w4, e9, reduceIte]
      exact h2
theorem rd_zeros (n : Nat) (j : Int) : rd (List.replicate n 0) j = 0 := by
  unfold rd
  rw [List.getD_eq_getElem?_getD, List.getElem?_replicate]
  split <;> rfl
theorem excess_ev (n : Int) (l : List AI) (f : List Int) (hN : Nok n l) (hf : f.length = l.length) (hfl : FlFrom l f 0) : ∃ p q K, (∀ k, K ≤ k → spec_l06Out.f k n l f = some p ∧ impl_excess.f k n l f = some q) ∧ (p.length : Int) = n ∧ (q.length : Int) = n ∧ ∀ j : Int, 0 ≤ j → rd q j = - rd p j := by
  obtain ⟨hn, _, _⟩ := id hN
  have hlen : ((List.replicate n.toNat (0 : Int)).length : Int) = n := by simp; omega
  obtain ⟨p, q, K, h, h1, h2, h3⟩ := excess_l0 n l f hN hf hfl l.length 0 (List.replicate n.toNat 0) (List.replicate n.toNat 0) (by omega) hlen hlen (fun j _ => by rw [rd_zeros]; omega)
  refine ⟨p, q, K, fun k hk => ?_, h1, h2, h3⟩
  unfold spec_l06Out.f impl_excess.f
  rw [if_pos (by clear h; omega), if_pos (by clear h; omega), if_pos (by clear h; omega), if_pos (by clear h; omega)]
  exact h k hk
/-- Nothing is left from node i on. -/
def Bal (p : List Int) (n : Int) (i : Nat) : Prop := ∀ j : Nat, i ≤ j → (j : Int) < n → 2 ≤ j → rd p (j : Int) = 0
theorem Bal_step (p : List Int) (n : Int) (i : Nat) (hi : (i : Int) < n) : Bal p n i ↔ (2 ≤ i → rd p (i : Int) = 0) ∧ Bal p n (i + 1) := by
  constructor
  · exact fun h => ⟨fun h2 => h i (Nat.le_refl _) hi h2, fun j h1 => h j (by omega)⟩
  · rintro ⟨h0, h⟩ j h1 h2 h3
    rcases Nat.eq_or_lt_of_le h1 with e | e
    · subst e; exact h0 h3
    · exact h j e h2 h3
theorem specBal_l1 (n : Int) (l : List AI) (p : List Int) (hp : (p.length : Int) = n) (hn : n ≤ 1500) : ∀ (d i : Nat), (i : Int) + d = n → 2 ≤ i → ∃ g K, (∀ k, K ≤ k → spec_FlowOk.l1 k p (i : Int) n l = some g) ∧ (g = true ↔ Bal p n i)
  | 0, i, hi, h2 => by
    refine ⟨true, 1, fun k hk => ?_, ⟨fun _ j h1 h2 => by omega, fun _ => rfl⟩⟩
    obtain ⟨k, rfl⟩ : ∃ m, k = m + 1 := ⟨k - 1, by omega⟩
    simp only [spec_FlowOk.l1]
    rw [if_neg (by omega)]
  | d + 1, i, hi, h2 => by
    obtain ⟨g, K, h, hg⟩ := specBal_l1 n l p hp hn d (i + 1) (by omega) (by omega)
    have e1 : (i : Int) < n := by clear h hg; omega
    have e2 : (0 : Int) ≤ i := by clear h hg; omega
    have e3 : (i : Int) < (p.length : Int) := by clear h hg; omega
    have e9 : wrap64 ((i : Int) + 1) = ((i + 1 : Nat) : Int) := by rw [w64 (by clear h hg; omega) (by clear h hg; omega)]; rfl
    rw [Bal_step p n i e1]
    by_cases c : rd p (i : Int) = 0
    · refine ⟨g, K + 1, fun k hk => ?_, by rw [hg]; exact ⟨fun h => ⟨fun _ => c, h⟩, fun h => h.2⟩⟩
      obtain ⟨k, rfl⟩ : ∃ m, k = m + 1 := ⟨k - 1, by omega⟩
      simp only [spec_FlowOk.l1, e1, e2, e3, e9, c, reduceIte]
      exact h k (by omega)
    · refine ⟨false, 1, fun k hk => ?_, ⟨fun h => (by cases h), fun h => absurd (h.1 h2) c⟩⟩
      obtain ⟨k, rfl⟩ : ∃ m, k = m + 1 := ⟨k - 1, by omega⟩
      simp only [spec_FlowOk.l1, e1, e2, e3, c, reduceIte]
theorem implBal_l1 (n : Int) (q : List Int) (hq : (q.length : Int) = n) (hn : n ≤ 1500) : ∀ (d i : Nat), (i : Int) + d = n → ∃ g K, (∀ k, K ≤ k → impl_FlowOk.l1 k q (q.length : Int) (i : Int) = some g) ∧ (g = true ↔ Bal q n i)
  | 0, i, hi => by
    refine ⟨true, 1, fun k hk => ?_, ⟨fun _ j h1 h2 => by omega, fun _ => rfl⟩⟩
    obtain ⟨k, rfl⟩ : ∃ m, k = m + 1 := ⟨k - 1, by omega⟩
    simp only [impl_FlowOk.l1]
    rw [if_neg (by omega)]
  | d + 1, i, hi => by
    obtain ⟨g, K, h, hg⟩ := implBal_l1 n q hq hn d (i + 1) (by omega)
    have e1 : (i : Int) < n := by clear h hg; omega
    have e2 : (0 : Int) ≤ i := by clear h hg; omega
    have e3 : (i : Int) < (q.length : Int) := by clear h hg; omega
    have e9 : wrap64 ((i : Int) + 1) = ((i + 1 : Nat) : Int) := by rw [w64 (by clear h hg; omega) (by clear h hg; omega)]; rfl
    rw [Bal_step q n i e1]
    by_cases b : 2 ≤ i
    · have b1 : (i : Int) > 1 := by clear h hg; omega
      by_cases c : rd q (i : Int) = 0
      · refine ⟨g, K + 1, fun k hk => ?_, by rw [hg]; exact ⟨fun h => ⟨fun _ => c, h⟩, fun h => h.2⟩⟩
        obtain ⟨k, rfl⟩ : ∃ m, k = m + 1 := ⟨k - 1, by omega⟩
        simp only [impl_FlowOk.l1, e2, e3, e9, b1, c, reduceIte]
        exact h k (by omega)
      · refine ⟨false, 1, fun k hk => ?_, ⟨fun h => (by cases h), fun h => absurd (h.1 b) c⟩⟩
        obtain ⟨k, rfl⟩ : ∃ m, k = m + 1 := ⟨k - 1, by omega⟩
        simp only [impl_FlowOk.l1, e2, e3, b1, c, reduceIte]
    · have b1 : ¬ (i : Int) > 1 := by clear h hg; omega
      refine ⟨g, K + 1, fun k hk => ?_, by rw [hg]; exact ⟨fun h => ⟨fun h2 => absurd h2 b, h⟩, fun h => h.2⟩⟩
      obtain ⟨k, rfl⟩ : ∃ m, k = m + 1 := ⟨k - 1, by omega⟩
      simp only [impl_FlowOk.l1, e2, e3, e9, b1, reduceIte]
      exact h k (by omega)
end Go.Proofs.Ytkdemainohfgfaa.Pure
