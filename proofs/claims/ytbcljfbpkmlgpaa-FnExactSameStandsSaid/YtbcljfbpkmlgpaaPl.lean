/- Level ways and meetings: what the program and the reference answer. -/
import Derived.Test.YtbcljfbpkmlgpaaPway
import Derived.Test.YtbcljfbpkmlgpaaQ3
import Derived.Test.YtbcljfbpkmlgpaaQ4
set_option linter.unusedSimpArgs false
namespace Go.Proofs.Ytbcljfbpkmlgpaa.Pure
open Go.RowKit Go.Proofs.Ytbcljfbpkmlgpaa.Q Go.Proofs.YtbcljfbpkmlgpaaW.PrintWords Go.Proofs.YtbcljfbpkmlgpaaW.PrintLast
/-- How many cells the first way has. -/
def len0 (l : List WI) : Int := ((rd_T42 l 0).f0.length : Int)
/-- The ways are one to ten, all of one length, and t is no last time. -/
def Lev (l : List WI) (t : Int) : Prop := 1 ≤ l.length ∧ l.length ≤ 10 ∧ 0 ≤ t ∧ t < len0 l - 1 ∧ ∀ x ∈ l, (x.f0.length : Int) = len0 l
instance (l : List WI) (t : Int) : Decidable (Lev l t) := by unfold Lev; exact inferInstance
theorem l01In_eq (a b c : Int) : spec_l01In.f a b c = some (decide (b ≤ a ∧ a ≤ c)) := by
  unfold spec_l01In.f
  by_cases h : a ≥ b
  · rw [if_pos h]; congr 1; exact decide_eq_decide.mpr ⟨fun h2 => ⟨h, h2⟩, fun h2 => h2.2⟩
  · rw [if_neg h, decide_eq_false (fun h2 => h h2.1)]
theorem len0_get (l : List WI) (h : 0 < l.length) : len0 l = (l[0].f0.length : Int) := by unfold len0; rw [show (0 : Int) = ((0 : Nat) : Int) from rfl, rdWI_get l 0 h]
theorem len0_le (l : List WI) (h : 0 < l.length) (hl : SzOk l) : len0 l ≤ 1048576 ∧ 0 ≤ len0 l := by
  have := SzOk_way hl (List.getElem_mem (l := l) (n := 0) h)
  rw [len0_get l h]; omega
theorem specLevel_l0 (l : List WI) (hl : SzOk l) (h0 : 0 < l.length) : ∀ (d i k : Nat), i + d = l.length → d < k → spec_LevelWays.l0 k l (i : Int) = some (decide (∀ x ∈ l.drop i, (x.f0.length : Int) = len0 l))
  | 0, i, k, hi, hk => by
    obtain ⟨k, rfl⟩ : ∃ m, k = m + 1 := ⟨k - 1, by omega⟩
    simp only [spec_LevelWays.l0]
    rw [if_neg (by omega), List.drop_of_length_le (by omega)]
    simp
  | d + 1, i, k, hi, hk => by
    obtain ⟨k, rfl⟩ : ∃ m, k = m + 1 := ⟨k - 1, by omega⟩
    have hn := SzOk_len hl
    simp only [spec_LevelWays.l0]
    rw [if_pos (by omega), if_pos (by omega), if_pos (by omega), rdWI_get l i (by omega), w64 (by omega) (by omega), show ((i : Int) + 1) = ((i + 1 : Nat) : Int) by omega, drop_cons l i (by omega)]
    show (if (l[i].f0.length : Int) = len0 l then _ else _) = _
    by_cases c : (l[i].f0.length : Int) = len0 l
    · rw [if_pos c, specLevel_l0 l hl h0 d (i + 1) k (by omega) (by omega)]
      congr 1
      refine decide_eq_decide.mpr ⟨fun h x hx => ?_, fun h x hx => h x (List.mem_cons_of_mem _ hx)⟩
      rcases List.mem_cons.mp hx with e | hx
      · subst e; exact c
      · exact h x hx
    · rw [if_neg c, decide_eq_false (fun h => c (h _ List.mem_cons_self))]
theorem specLevel_ev (l : List WI) (t : Int) (hl : SzOk l) (k : Nat) (hk : l.length + 2 ≤ k) : spec_LevelWays.f k l t = some (decide (Lev l t)) := by
  obtain ⟨k, rfl⟩ : ∃ m, k = m + 1 := ⟨k - 1, by omega⟩
  unfold spec_LevelWays.f
  rw [l01In_eq, Option.bind_some]
  have hj : spec_LevelWays.j0 (k + 1) l true = some false := by simp only [spec_LevelWays.j0, reduceIte]
  by_cases c : 1 ≤ (l.length : Int) ∧ (l.length : Int) ≤ 10
  · rw [decide_eq_true c, if_pos rfl]
    by_cases c1 : t < 0
    · rw [if_pos c1, hj, decide_eq_false]
      rintro ⟨_, _, h, _⟩; omega
    · obtain ⟨g1, g2⟩ := len0_le l (by omega) hl
      rw [if_neg c1, if_pos (by omega)]
      show spec_LevelWays.j0 (k + 1) l (decide (t ≥ wrap64 (len0 l - 1))) = _
      rw [w64 (by omega) (by omega)]
      by_cases c2 : t ≥ len0 l - 1
      · rw [decide_eq_true c2, hj, decide_eq_false]
        rintro ⟨_, _, _, h, _⟩; omega
      · rw [decide_eq_false c2]
        simp only [spec_LevelWays.j0, Bool.false_eq_true, reduceIte]
        have := specLevel_l0 l hl (by omega) l.length 0 k (by omega) (by omega)
        rw [show (0 : Int) = ((0 : Nat) : Int) from rfl, this]
        congr 1
        refine decide_eq_decide.mpr ⟨fun h => ⟨by omega, by omega, by omega, by omega, h⟩, fun h => h.2.2.2.2⟩
  · rw [decide_eq_false c, if_neg (by decide), hj, decide_eq_false]
    rintro ⟨h1, h2, _⟩; exact c ⟨by omega, by omega⟩
theorem implLevel_eq (l : List WI) (t : Int) (hl : SzOk l) : impl_LevelWays.f l t = some (decide (Lev l t)) := by
  unfold impl_LevelWays.f impl_areLevel.f hof_areLevel.f
  by_cases c : (l.length : Int) ≥ 1
  · by_cases c1 : (l.length : Int) ≤ 10
    · rw [if_pos c, if_pos c1, if_pos (by omega)]
      simp only [Option.bind_some]
      obtain ⟨g1, g2⟩ := len0_le l (by omega) hl
      by_cases c2 : ∀ x ∈ l, (x.f0.length : Int) = len0 l
      · have e : l.any (hof_areLevel.p l) = false := by
          rw [List.any_eq_false]
          intro x hx
          unfold hof_areLevel.p
          have := c2 x hx
          unfold len0 at this
          simpa using this
        rw [e]
        simp only [Bool.not_false, reduceIte]
        by_cases c3 : t ≥ 0
        · rw [if_pos c3, if_pos (by omega)]
          show some (decide (t < wrap64 (len0 l - 1))) = _
          rw [w64 (by omega) (by omega)]
          congr 1
          exact decide_eq_decide.mpr ⟨fun h => ⟨by omega, by omega, by omega, h, c2⟩, fun h => h.2.2.2.1⟩
        · rw [if_neg c3, decide_eq_false]
          rintro ⟨_, _, h, _⟩; omega
      · have e : l.any (hof_areLevel.p l) = true := by
          rw [List.any_eq_true]
          have : ∃ x, x ∈ l ∧ ¬ (x.f0.length : Int) = len0 l := by
            refine Classical.byContradiction fun hne => c2 fun x hx => Classical.byContradiction fun hx2 => hne ⟨x, hx, hx2⟩
          obtain ⟨x, hx, h⟩ := this
          refine ⟨x, hx, ?_⟩
          unfold hof_areLevel.p
          unfold len0 at h
          simpa using h
        rw [e]
        simp only [Bool.not_true, Bool.false_eq_true, reduceIte]
        rw [decide_eq_false]
        rintro ⟨_, _, _, _, h⟩; exact c2 h
    · rw [if_pos c, if_neg c1]
      simp only [Option.bind_some, Bool.false_eq_true, reduceIte]
      rw [decide_eq_false]
      rintro ⟨_, h, _⟩; omega
  · rw [if_neg c]
    simp only [Option.bind_some, Bool.false_eq_true, reduceIte]
    rw [decide_eq_false]
    rintro ⟨h, _⟩; omega
/-- Where way i is at time t. -/
def cel (l : List WI) (i : Nat) (t : Int) : Int := rd (rd_T42 l (i : Int)).f0 t
/-- Two ways meet at time t. -/
def Mt (l : List WI) (t : Int) : Prop := ∃ i k, k < i ∧ i < l.length ∧ cel l i t = cel l k t
section
variable (l : List WI) (t : Int) (h10 : l.length ≤ 10) (h0 : 0 ≤ t) (hb : t < 9223372036854775807)
include h10 h0
theorem implMeets_l1 (hx : ∀ x ∈ l, t < (x.f0.length : Int)) (i : Nat) (hi : i < l.length) (P : Prop) (hc : ∃ b K, (∀ q, K ≤ q → impl_meets.l0 q l t (l.length : Int) (wrap64 ((i : Int) + 1)) = some b) ∧ (b = true ↔ P)) :
    ∀ (d k : Nat), k + d = i → ∃ b K, (∀ q, K ≤ q → impl_meets.l1 q l t (i : Int) (l.length : Int) (i : Int) (i : Int) (k : Int) = some b) ∧ (b = true ↔ (∃ k', k ≤ k' ∧ k' < i ∧ cel l i t = cel l k' t) ∨ P)
  | 0, k, hk => by
    obtain ⟨b, K, h, hP⟩ := hc
    refine ⟨b, K + 1, fun q hq => ?_, ?_⟩
    · obtain ⟨q, rfl⟩ : ∃ m, q = m + 1 := ⟨q - 1, by omega⟩
      simp only [impl_meets.l1]
      rw [if_neg (by omega)]
      exact h q (by omega)
    · rw [hP]
      exact ⟨.inr, fun h => h.resolve_left (by rintro ⟨k', h1, h2, _⟩; omega)⟩
  | d + 1, k, hk => by
    obtain ⟨b, K, h, hP⟩ := implMeets_l1 hx i hi P hc d (k + 1) (by omega)
    have hxi := hx l[i] (List.getElem_mem _)
    have hxk := hx l[k] (List.getElem_mem _)
    have e1 : (k : Int) < (i : Int) := by omega
    have e2 : (0 : Int) ≤ i := by omega
    have e3 : (i : Int) < (l.length : Int) := by omega
    have e5 : (0 : Int) ≤ k := by omega
    have e6 : (k : Int) < (l.length : Int) := by omega
    have e9 : wrap64 ((k : Int) + 1) = ((k + 1 : Nat) : Int) := by rw [w64 (by omega) (by omega)]; rfl
    by_cases c : cel l i t = cel l k t
    · refine ⟨true, 1, fun q hq => ?_, ⟨fun _ => .inl ⟨k, Nat.le_refl _, by omega, c⟩, fun _ => rfl⟩⟩
      obtain ⟨q, rfl⟩ : ∃ m, q = m + 1 := ⟨q - 1, by omega⟩
      unfold cel at c
      rw [rdWI_get l i hi, rdWI_get l k (by omega)] at c
      simp only [impl_meets.l1, rdWI_get l i hi, rdWI_get l k (show k < l.length by omega), e1, e2, e3, e5, e6, h0, hxi, hxk, c, reduceIte]
    · refine ⟨b, K + 1, fun q hq => ?_, ?_⟩
      · obtain ⟨q, rfl⟩ : ∃ m, q = m + 1 := ⟨q - 1, by omega⟩
        unfold cel at c
        rw [rdWI_get l i hi, rdWI_get l k (by omega)] at c
        simp only [impl_meets.l1, rdWI_get l i hi, rdWI_get l k (show k < l.length by omega), e1, e2, e3, e5, e6, h0, hxi, hxk, c, e9, reduceIte]
        exact h q (by omega)
      · rw [hP]
        constructor
        · rintro (⟨k', h1, h2, h3⟩ | h)
          · exact .inl ⟨k', by omega, h2, h3⟩
          · exact .inr h
        · rintro (⟨k', h1, h2, h3⟩ | h)
          · refine .inl ⟨k', ?_, h2, h3⟩
            rcases Nat.eq_or_lt_of_le h1 with e | e
            · subst e; exact absurd h3 c
            · exact e
          · exact .inr h
theorem implMeets_l0 (hx : ∀ x ∈ l, t < (x.f0.length : Int)) : ∀ (d i : Nat), i + d = l.length → ∃ b K, (∀ q, K ≤ q → impl_meets.l0 q l t (l.length : Int) (i : Int) = some b) ∧ (b = true ↔ ∃ i' k', i ≤ i' ∧ k' < i' ∧ i' < l.length ∧ cel l i' t = cel l k' t)
  | 0, i, hi => by
    refine ⟨false, 1, fun q hq => ?_, ⟨fun h => (by cases h), ?_⟩⟩
    · obtain ⟨q, rfl⟩ : ∃ m, q = m + 1 := ⟨q - 1, by omega⟩
      simp only [impl_meets.l0]
      rw [if_neg (by omega)]
    · rintro ⟨i', k', h1, h2, h3, _⟩; omega
  | d + 1, i, hi => by
    have hc := implMeets_l0 hx d (i + 1) (by omega)
    rw [show ((i + 1 : Nat) : Int) = wrap64 ((i : Int) + 1) by rw [w64 (by omega) (by omega)]; rfl] at hc
    obtain ⟨b, K, h, hP⟩ := implMeets_l1 l t h10 h0 hx i (by omega) _ hc i 0 (by omega)
    refine ⟨b, K + 1, fun q hq => ?_, ?_⟩
    · obtain ⟨q, rfl⟩ : ∃ m, q = m + 1 := ⟨q - 1, by omega⟩
      simp only [impl_meets.l0]
      rw [if_pos (by omega), if_pos (by omega), if_pos (by omega), show ((l.take (i : Int).toNat).length : Int) = (i : Int) by rw [Int.toNat_natCast, List.length_take]; omega]
      exact h q (by omega)
    · rw [hP]
      constructor
      · rintro (⟨k', h1, h2, h3⟩ | ⟨i', k', h1, h2, h3, h4⟩)
        · exact ⟨i, k', Nat.le_refl _, h2, by omega, h3⟩
        · exact ⟨i', k', by omega, h2, h3, h4⟩
      · rintro ⟨i', k', h1, h2, h3, h4⟩
        rcases Nat.eq_or_lt_of_le h1 with e | e
        · subst e; exact .inl ⟨k', Nat.zero_le _, h2, h4⟩
        · exact .inr ⟨i', k', by omega, h2, h3, h4⟩
theorem implMeets_ev (hx : ∀ x ∈ l, t < (x.f0.length : Int)) : ∃ b K, (∀ q, K ≤ q → impl_meets.f q l t = some b) ∧ (b = true ↔ Mt l t) := by
  obtain ⟨b, K, h, hP⟩ := implMeets_l0 l t h10 h0 hx l.length 0 (by omega)
  refine ⟨b, K, fun q hq => h q hq, ?_⟩
  rw [hP]; unfold Mt
  exact ⟨fun ⟨i, k, _, h⟩ => ⟨i, k, h⟩, fun ⟨i, k, h⟩ => ⟨i, k, Nat.zero_le _, h⟩⟩
theorem specMeet_l1 (ht : t + 1 ≤ 9223372036854775807) (hx : ∀ x ∈ l, t + 1 < (x.f0.length : Int)) (i : Nat) (hi : i < l.length) (P : Prop) (hc : ∃ b K, (∀ q, K ≤ q → spec_MeetAt.l0 q l t (wrap64 ((i : Int) + 1)) = some b) ∧ (b = true ↔ P)) :
    ∀ (d k : Nat), k + d = i → ∃ b K, (∀ q, K ≤ q → spec_MeetAt.l1 q l t (i : Int) (k : Int) = some b) ∧ (b = true ↔ (∃ k', k ≤ k' ∧ k' < i ∧ (cel l i t = cel l k' t ∨ cel l i (t + 1) = cel l k' (t + 1))) ∨ P)
  | 0, k, hk => by
    obtain ⟨b, K, h, hP⟩ := hc
    refine ⟨b, K + 1, fun q hq => ?_, ?_⟩
    · obtain ⟨q, rfl⟩ : ∃ m, q = m + 1 := ⟨q - 1, by omega⟩
      simp only [spec_MeetAt.l1]
      rw [if_neg (by omega)]
      exact h q (by omega)
    · rw [hP]
      exact ⟨.inr, fun h => h.resolve_left (by rintro ⟨k', h1, h2, _⟩; omega)⟩
  | d + 1, k, hk => by
    obtain ⟨b, K, h, hP⟩ := specMeet_l1 ht hx i hi P hc d (k + 1) (by omega)
    have hxi := hx l[i] (List.getElem_mem _)
    have hxk := hx l[k] (List.getElem_mem _)
    have hxi0 : t < (l[i].f0.length : Int) := by omega
    have hxk0 : t < (l[k].f0.length : Int) := by omega
    have e1 : (k : Int) < (i : Int) := by omega
    have e2 : (0 : Int) ≤ i := by omega
    have e3 : (i : Int) < (l.length : Int) := by omega
    have e5 : (0 : Int) ≤ k := by omega
    have e6 : (k : Int) < (l.length : Int) := by omega
    have e7 : wrap64 (t + 1) = t + 1 := w64 (by omega) (by omega)
    have e8 : 0 ≤ t + 1 := by omega
    have e9 : wrap64 ((k : Int) + 1) = ((k + 1 : Nat) : Int) := by rw [w64 (by omega) (by omega)]; rfl
    have r1 := rdWI_get l i hi
    have r2 := rdWI_get l k (show k < l.length by omega)
    by_cases c : cel l i t = cel l k t
    · refine ⟨true, 1, fun q hq => ?_, ⟨fun _ => .inl ⟨k, Nat.le_refl _, by omega, .inl c⟩, fun _ => rfl⟩⟩
      obtain ⟨q, rfl⟩ : ∃ m, q = m + 1 := ⟨q - 1, by omega⟩
      unfold cel at c
      rw [r1, r2] at c
      simp only [spec_MeetAt.l1, r1, r2, e1, e2, e3, e5, e6, h0, hxi0, hxk0, c, reduceIte]
    · by_cases c2 : cel l i (t + 1) = cel l k (t + 1)
      · refine ⟨true, 1, fun q hq => ?_, ⟨fun _ => .inl ⟨k, Nat.le_refl _, by omega, .inr c2⟩, fun _ => rfl⟩⟩
        obtain ⟨q, rfl⟩ : ∃ m, q = m + 1 := ⟨q - 1, by omega⟩
        unfold cel at c c2
        rw [r1, r2] at c c2
        simp only [spec_MeetAt.l1, r1, r2, e1, e2, e3, e5, e6, e7, e8, h0, hxi, hxk, hxi0, hxk0, c, c2, reduceIte]
      · refine ⟨b, K + 1, fun q hq => ?_, ?_⟩
        · obtain ⟨q, rfl⟩ : ∃ m, q = m + 1 := ⟨q - 1, by omega⟩
          unfold cel at c c2
          rw [r1, r2] at c c2
          simp only [spec_MeetAt.l1, r1, r2, e1, e2, e3, e5, e6, e7, e8, e9, h0, hxi, hxk, hxi0, hxk0, c, c2, reduceIte]
          exact h q (by omega)
        · rw [hP]
          constructor
          · rintro (⟨k', h1, h2, h3⟩ | h)
            · exact .inl ⟨k', by omega, h2, h3⟩
            · exact .inr h
          · rintro (⟨k', h1, h2, h3⟩ | h)
            · refine .inl ⟨k', ?_, h2, h3⟩
              rcases Nat.eq_or_lt_of_le h1 with e | e
              · subst e; exact absurd h3 (fun h => h.elim c c2)
              · exact e
            · exact .inr h
theorem specMeet_l0 (ht : t + 1 ≤ 9223372036854775807) (hx : ∀ x ∈ l, t + 1 < (x.f0.length : Int)) : ∀ (d i : Nat), i + d = l.length → ∃ b K, (∀ q, K ≤ q → spec_MeetAt.l0 q l t (i : Int) = some b) ∧ (b = true ↔ ∃ i' k', i ≤ i' ∧ k' < i' ∧ i' < l.length ∧ (cel l i' t = cel l k' t ∨ cel l i' (t + 1) = cel l k' (t + 1)))
  | 0, i, hi => by
    refine ⟨false, 1, fun q hq => ?_, ⟨fun h => (by cases h), ?_⟩⟩
    · obtain ⟨q, rfl⟩ : ∃ m, q = m + 1 := ⟨q - 1, by omega⟩
      simp only [spec_MeetAt.l0]
      rw [if_neg (by omega)]
    · rintro ⟨i', k', h1, h2, h3, _⟩; omega
  | d + 1, i, hi => by
    have hc := specMeet_l0 ht hx d (i + 1) (by omega)
    rw [show ((i + 1 : Nat) : Int) = wrap64 ((i : Int) + 1) by rw [w64 (by omega) (by omega)]; rfl] at hc
    obtain ⟨b, K, h, hP⟩ := specMeet_l1 l t h10 h0 ht hx i (by omega) _ hc i 0 (by omega)
    refine ⟨b, K + 1, fun q hq => ?_, ?_⟩
    · obtain ⟨q, rfl⟩ : ∃ m, q = m + 1 := ⟨q - 1, by omega⟩
      simp only [spec_MeetAt.l0]
      rw [if_pos (by omega)]
      exact h q (by omega)
    · rw [hP]
      constructor
      · rintro (⟨k', h1, h2, h3⟩ | ⟨i', k', h1, h2, h3, h4⟩)
        · exact ⟨i, k', Nat.le_refl _, h2, by omega, h3⟩
        · exact ⟨i', k', by omega, h2, h3, h4⟩
      · rintro ⟨i', k', h1, h2, h3, h4⟩
        rcases Nat.eq_or_lt_of_le h1 with e | e
        · subst e; exact .inl ⟨k', Nat.zero_le _, h2, h4⟩
        · exact .inr ⟨i', k', by omega, h2, h3, h4⟩
end
/-- Two ways meet at t or right after. -/
def Meets (l : List WI) (t : Int) : Prop := Lev l t ∧ (Mt l t ∨ Mt l (t + 1))
theorem meet_ev (l : List WI) (t : Int) (hl : SzOk l) : ∃ b K, (∀ k, K ≤ k → spec_MeetAt.f k l t = some b ∧ impl_MeetAt.f k l t = some b) ∧ (b = true ↔ Meets l t) := by
  by_cases h : Lev l t
  · obtain ⟨g1, g2, g3, g4, g5⟩ := h
    obtain ⟨q1, q2⟩ := len0_le l (by omega) hl
    have hx : ∀ x ∈ l, t + 1 < (x.f0.length : Int) := fun x hx => by rw [g5 x hx]; omega
    obtain ⟨b, K, h1, hP⟩ := specMeet_l0 l t g2 g3 (by omega) hx l.length 0 (by omega)
    obtain ⟨b1, K1, h2, hP1⟩ := implMeets_ev l t g2 g3 (fun x hm => by have := hx x hm; omega)
    obtain ⟨b2, K2, h3, hP2⟩ := implMeets_ev l (t + 1) g2 (by omega) hx
    have hM : b = true ↔ Mt l t ∨ Mt l (t + 1) := by
      rw [hP]; unfold Mt
      constructor
      · rintro ⟨i, k, _, h1, h2, h3 | h3⟩
        · exact .inl ⟨i, k, h1, h2, h3⟩
        · exact .inr ⟨i, k, h1, h2, h3⟩
      · rintro (⟨i, k, h1, h2, h3⟩ | ⟨i, k, h1, h2, h3⟩)
        · exact ⟨i, k, Nat.zero_le _, h1, h2, .inl h3⟩
        · exact ⟨i, k, Nat.zero_le _, h1, h2, .inr h3⟩
    have hlev : Lev l t := ⟨g1, g2, g3, g4, g5⟩
    refine ⟨b, K + K1 + K2 + l.length + 2, fun k hk => ⟨?_, ?_⟩, ?_⟩
    · unfold spec_MeetAt.f
      rw [specLevel_ev l t hl k (by omega), Option.bind_some, decide_eq_true hlev, if_pos rfl]
      exact h1 k (by omega)
    · unfold impl_MeetAt.f
      rw [implLevel_eq l t hl, Option.bind_some, decide_eq_true hlev, if_pos rfl, h2 k (by omega), Option.bind_some]
      cases b1 with
      | true => rw [if_pos rfl, hM.mpr (.inl (hP1.mp rfl))]
      | false =>
        rw [if_neg (by decide), w64 (by omega) (by omega), h3 k (by omega), Option.bind_some]
        congr 1
        cases b2 with
        | true => rw [hM.mpr (.inr (hP2.mp rfl))]
        | false =>
          cases b with
          | false => rfl
          | true =>
            rcases hM.mp rfl with h | h
            · exact absurd (hP1.mpr h) (by decide)
            · exact absurd (hP2.mpr h) (by decide)
    · rw [hM]; unfold Meets
      exact ⟨fun h => ⟨hlev, h⟩, fun h => h.2⟩
  · refine ⟨false, l.length + 2, fun k hk => ⟨?_, ?_⟩, ⟨fun h => (by cases h), fun h2 => absurd h2.1 h⟩⟩
    · unfold spec_MeetAt.f
      rw [specLevel_ev l t hl k (by omega), Option.bind_some, decide_eq_false h, if_neg (by decide)]
    · unfold impl_MeetAt.f
      rw [implLevel_eq l t hl, Option.bind_some, decide_eq_false h, if_neg (by decide)]
end Go.Proofs.Ytbcljfbpkmlgpaa.Pure
