/- Regular ways: what the program and the reference answer. -/
import Derived.Test.YtbcljfbpkmlgpaaPl
import Derived.Test.YtbcljfbpkmlgpaaQ5
import Derived.Test.YtbcljfbpkmlgpaaQ7
set_option linter.unusedSimpArgs false
set_option linter.unusedSectionVars false
namespace Go.Proofs.Ytbcljfbpkmlgpaa.Pure
open Go.RowKit Go.Proofs.Ytbcljfbpkmlgpaa.Q Go.Proofs.YtbcljfbpkmlgpaaW.PrintWords Go.Proofs.YtbcljfbpkmlgpaaW.PrintLast
/-- One to ten ways of one length. -/
def Alev (l : List WI) : Prop := 1 ≤ l.length ∧ l.length ≤ 10 ∧ ∀ x ∈ l, (x.f0.length : Int) = len0 l
instance (l : List WI) : Decidable (Alev l) := by unfold Alev; exact inferInstance
theorem areLevel_eq (l : List WI) : impl_areLevel.f l = some (decide (Alev l)) := by
  unfold impl_areLevel.f hof_areLevel.f
  by_cases c : (l.length : Int) ≥ 1
  · by_cases c1 : (l.length : Int) ≤ 10
    · rw [if_pos c, if_pos c1, if_pos (by omega)]
      simp only [Option.bind_some]
      by_cases c2 : ∀ x ∈ l, (x.f0.length : Int) = len0 l
      · have e : l.any (hof_areLevel.p l) = false := by
          rw [List.any_eq_false]
          intro x hx
          unfold hof_areLevel.p
          have := c2 x hx
          unfold len0 at this
          simpa using this
        rw [e, decide_eq_true (show Alev l from ⟨by omega, by omega, c2⟩)]; rfl
      · have e : l.any (hof_areLevel.p l) = true := by
          rw [List.any_eq_true]
          have : ∃ x, x ∈ l ∧ ¬ (x.f0.length : Int) = len0 l := by
            refine Classical.byContradiction fun hne => c2 fun x hx => Classical.byContradiction fun hx2 => hne ⟨x, hx, hx2⟩
          obtain ⟨x, hx, h⟩ := this
          refine ⟨x, hx, ?_⟩
          unfold hof_areLevel.p
          unfold len0 at h
          simpa using h
        rw [e, decide_eq_false (fun h : Alev l => c2 h.2.2)]; rfl
    · rw [if_pos c, if_neg c1, decide_eq_false (fun h : Alev l => by have := h.2.1; omega)]
  · rw [if_neg c, decide_eq_false (fun h : Alev l => by have := h.1; omega)]
/-- Ways that never meet. -/
def Reg (l : List WI) : Prop := Alev l ∧ 1 ≤ len0 l ∧ ∀ t : Nat, (t : Int) < len0 l - 1 → ¬ Mt l (t : Int) ∧ ¬ Mt l ((t : Int) + 1)
theorem someMeet (l : List WI) (hl : SzOk l) (span : Int) (hsp : span ≤ 1048576) : ∀ (d t : Nat), (t : Int) + d = span ∨ (d = 0 ∧ span ≤ t) → ∃ g K, (∀ k, K ≤ k → someT (fun k t => impl_MeetAt.f k l t) k span (t : Int) = some g) ∧ (g = true ↔ ∃ t' : Nat, t ≤ t' ∧ (t' : Int) < span ∧ Meets l (t' : Int))
  | 0, t, h => by
    refine ⟨false, 1, fun k hk => ?_, ⟨fun h => (by cases h), fun ⟨t', h1, h2, _⟩ => by omega⟩⟩
    obtain ⟨k, rfl⟩ : ∃ m, k = m + 1 := ⟨k - 1, by omega⟩
    unfold someT
    rw [if_neg (by omega)]
  | d + 1, t, h => by
    obtain ⟨b, K1, h1, hb⟩ := meet_ev l (t : Int) hl
    cases b with
    | true =>
      refine ⟨true, K1 + 1, fun k hk => ?_, ⟨fun _ => ⟨t, Nat.le_refl _, by omega, hb.mp rfl⟩, fun _ => rfl⟩⟩
      obtain ⟨k, rfl⟩ : ∃ m, k = m + 1 := ⟨k - 1, by omega⟩
      unfold someT
      rw [if_pos (by omega), (h1 k (by omega)).2, Option.bind_some, if_pos rfl]
    | false =>
      obtain ⟨g, K, hk0, hg⟩ := someMeet l hl span hsp d (t + 1) (by omega)
      refine ⟨g, K1 + K + 1, fun k hk => ?_, ?_⟩
      · obtain ⟨k, rfl⟩ : ∃ m, k = m + 1 := ⟨k - 1, by omega⟩
        unfold someT
        rw [if_pos (by omega), (h1 k (by omega)).2, Option.bind_some, if_neg (by decide), w64 (by omega) (by omega), show ((t : Int) + 1) = ((t + 1 : Nat) : Int) by omega]
        exact hk0 k (by omega)
      · rw [hg]
        constructor
        · rintro ⟨t', q1, q2, q3⟩; exact ⟨t', by omega, q2, q3⟩
        · rintro ⟨t', q1, q2, q3⟩
          refine ⟨t', ?_, q2, q3⟩
          rcases Nat.eq_or_lt_of_le q1 with e | e
          · subst e; exact absurd (hb.mpr q3) (by decide)
          · exact e
theorem implReg_ev (l : List WI) (hl : SzOk l) : ∃ g K, (∀ k, K ≤ k → impl_areRegular.f k l = some g) ∧ (g = true ↔ Reg l) := by
  by_cases ha : Alev l
  · obtain ⟨q1, q2⟩ := len0_le l (by have := ha.1; omega) hl
    have hn := ha.1
    by_cases h1 : len0 l < 1
    · refine ⟨false, 0, fun k _ => ?_, ⟨fun h => (by cases h), fun h => absurd h.2.1 (by omega)⟩⟩
      unfold impl_areRegular.f
      rw [areLevel_eq, Option.bind_some, decide_eq_true ha, if_pos rfl, if_pos (by omega)]
      show (if len0 l < 1 then _ else _) = _
      rw [if_pos h1]
    · obtain ⟨D, hD⟩ : ∃ D : Nat, (D : Int) = len0 l - 1 := ⟨(len0 l - 1).toNat, by omega⟩
      obtain ⟨g, K, h, hg⟩ := someMeet l hl (len0 l - 1) (by omega) D 0 (by omega)
      refine ⟨!g, K, fun k hk => ?_, ?_⟩
      · unfold impl_areRegular.f
        rw [areLevel_eq, Option.bind_some, decide_eq_true ha, if_pos rfl, if_pos (by omega)]
        show (if len0 l < 1 then _ else ((hof_areRegular.f k (wrap64 (len0 l - 1)) l).bind _)) = _
        rw [if_neg h1, w64 (by omega) (by omega)]
        unfold hof_areRegular.f
        have := h k hk
        rw [show ((0 : Nat) : Int) = 0 from rfl] at this
        rw [this, Option.bind_some]
      · have hR : Reg l ↔ ¬ (∃ t' : Nat, 0 ≤ t' ∧ (t' : Int) < len0 l - 1 ∧ Meets l (t' : Int)) := by
          constructor
          · rintro ⟨_, _, h3⟩ ⟨t', _, h4, h5⟩
            exact h5.2.elim (h3 t' h4).1 (h3 t' h4).2
          · intro h3
            refine ⟨ha, by omega, fun t ht => ⟨fun hm => h3 ⟨t, Nat.zero_le _, ht, ⟨hn, ha.2.1, by omega, ht, ha.2.2⟩, .inl hm⟩, fun hm => h3 ⟨t, Nat.zero_le _, ht, ⟨hn, ha.2.1, by omega, ht, ha.2.2⟩, .inr hm⟩⟩⟩
        rw [hR, ← hg]
        cases g <;> simp
  · refine ⟨false, 0, fun k _ => ?_, ⟨fun h => (by cases h), fun h => absurd h.1 ha⟩⟩
    unfold impl_areRegular.f
    rw [areLevel_eq, Option.bind_some, decide_eq_false ha, if_neg (by decide)]
section
variable (l : List WI) (hl : SzOk l) (h10 : l.length ≤ 10)
include hl h10
theorem ok_l2 (i k : Nat) (hi : i < l.length) (hk : k < l.length) (li : (l[i].f0.length : Int) = len0 l) (lk : (l[k].f0.length : Int) = len0 l) (P : Prop) (hc : ∃ g K, (∀ q, K ≤ q → spec_l13Ok.l1 q l (i : Int) (wrap64 ((k : Int) + 1)) = some g) ∧ (g = true ↔ P)) :
    ∀ (d t : Nat), (t : Int) + d = len0 l → ∃ g K, (∀ q, K ≤ q → spec_l13Ok.l2 q l (i : Int) (k : Int) (t : Int) = some g) ∧ (g = true ↔ (∀ t' : Nat, t ≤ t' → (t' : Int) < len0 l → cel l i (t' : Int) = cel l k (t' : Int) → len0 l ≤ 1) ∧ P)
  | 0, t, ht => by
    obtain ⟨g, K, h, hg⟩ := hc
    refine ⟨g, K + 1, fun q hq => ?_, ?_⟩
    · obtain ⟨q, rfl⟩ : ∃ m, q = m + 1 := ⟨q - 1, by omega⟩
      simp only [spec_l13Ok.l2]
      rw [if_pos (by omega)]
      show (if (t : Int) < len0 l then _ else _) = _
      rw [if_neg (by omega)]
      exact h q (by omega)
    · rw [hg]
      exact ⟨fun h => ⟨fun t' h1 h2 => by omega, h⟩, fun h => h.2⟩
  | d + 1, t, ht => by
    obtain ⟨g, K, h, hg⟩ := ok_l2 i k hi hk li lk P hc d (t + 1) (by omega)
    obtain ⟨q1, q2⟩ := len0_le l (by omega) hl
    have b1 : (0 : Int) < (l.length : Int) := by omega
    have b2 : (t : Int) < len0 l := by omega
    have b3 : (0 : Int) ≤ i := by omega
    have b4 : (i : Int) < (l.length : Int) := by omega
    have b5 : (0 : Int) ≤ t := by omega
    have b6 : (t : Int) < (l[i].f0.length : Int) := by omega
    have b7 : (0 : Int) ≤ k := by omega
    have b8 : (k : Int) < (l.length : Int) := by omega
    have b9 : (t : Int) < (l[k].f0.length : Int) := by omega
    have e9 : wrap64 ((t : Int) + 1) = ((t + 1 : Nat) : Int) := by rw [w64 (by omega) (by omega)]; rfl
    have r1 := rdWI_get l i hi
    have r2 := rdWI_get l k hk
    have r0 : ((rd_T42 l 0).f0.length : Int) = len0 l := rfl
    have hstep : ((∀ t' : Nat, t ≤ t' → (t' : Int) < len0 l → cel l i (t' : Int) = cel l k (t' : Int) → len0 l ≤ 1) ↔ (cel l i (t : Int) = cel l k (t : Int) → len0 l ≤ 1) ∧ (∀ t' : Nat, t + 1 ≤ t' → (t' : Int) < len0 l → cel l i (t' : Int) = cel l k (t' : Int) → len0 l ≤ 1)) := by
      constructor
      · exact fun h => ⟨fun e => h t (Nat.le_refl _) b2 e, fun t' h1 h2 h3 => h t' (by omega) h2 h3⟩
      · rintro ⟨h0, h⟩ t' h1 h2 h3
        rcases Nat.eq_or_lt_of_le h1 with e | e
        · subst e; exact h0 h3
        · exact h t' e h2 h3
    rw [hstep]
    have hcel : (rd l[i].f0 (t : Int) = rd l[k].f0 (t : Int)) ↔ cel l i (t : Int) = cel l k (t : Int) := by unfold cel; rw [r1, r2]
    by_cases c : rd l[i].f0 (t : Int) = rd l[k].f0 (t : Int)
    · by_cases c2 : len0 l > 1
      · refine ⟨false, 1, fun q hq => ?_, ⟨fun h => (by cases h), fun h => absurd (h.1.1 (hcel.mp c)) (by omega)⟩⟩
        obtain ⟨q, rfl⟩ : ∃ m, q = m + 1 := ⟨q - 1, by omega⟩
        simp only [spec_l13Ok.l2, r0, r1, r2, b1, b2, b3, b4, b5, b6, b7, b8, b9, c, c2, reduceIte]
      · refine ⟨g, K + 1, fun q hq => ?_, by rw [hg]; exact ⟨fun h => ⟨⟨fun _ => by omega, h.1⟩, h.2⟩, fun h => ⟨h.1.2, h.2⟩⟩⟩
        obtain ⟨q, rfl⟩ : ∃ m, q = m + 1 := ⟨q - 1, by omega⟩
        simp only [spec_l13Ok.l2, r0, r1, r2, b1, b2, b3, b4, b5, b6, b7, b8, b9, c, c2, e9, reduceIte]
        exact h q (by omega)
    · refine ⟨g, K + 1, fun q hq => ?_, by rw [hg]; exact ⟨fun h => ⟨⟨fun e => absurd (hcel.mpr e) c, h.1⟩, h.2⟩, fun h => ⟨h.1.2, h.2⟩⟩⟩
      obtain ⟨q, rfl⟩ : ∃ m, q = m + 1 := ⟨q - 1, by omega⟩
      simp only [spec_l13Ok.l2, r0, r1, r2, b1, b2, b3, b4, b5, b6, b7, b8, b9, c, e9, reduceIte]
      exact h q (by omega)
/-- What is asked of way i. -/
def OkI (l : List WI) (i k0 : Nat) : Prop := ∀ k' : Nat, k0 ≤ k' → k' < i → ∀ t' : Nat, (t' : Int) < len0 l → cel l i (t' : Int) = cel l k' (t' : Int) → len0 l ≤ 1
theorem ok_l1 (i : Nat) (hi : i < l.length) (li : ∀ j, (h : j < l.length) → j ≤ i → (l[j].f0.length : Int) = len0 l) (P : Prop) (hc : ∃ g K, (∀ q, K ≤ q → spec_l13Ok.l0 q l (wrap64 ((i : Int) + 1)) = some g) ∧ (g = true ↔ P)) :
    ∀ (d k : Nat), k + d = i → ∃ g K, (∀ q, K ≤ q → spec_l13Ok.l1 q l (i : Int) (k : Int) = some g) ∧ (g = true ↔ OkI l i k ∧ P)
  | 0, k, hk => by
    obtain ⟨g, K, h, hg⟩ := hc
    refine ⟨g, K + 1, fun q hq => ?_, ?_⟩
    · obtain ⟨q, rfl⟩ : ∃ m, q = m + 1 := ⟨q - 1, by omega⟩
      simp only [spec_l13Ok.l1]
      rw [if_neg (by omega)]
      exact h q (by omega)
    · rw [hg]
      exact ⟨fun h => ⟨fun k' h1 h2 => by omega, h⟩, fun h => h.2⟩
  | d + 1, k, hk => by
    have hc2 := ok_l1 i hi li P hc d (k + 1) (by omega)
    rw [show ((k + 1 : Nat) : Int) = wrap64 ((k : Int) + 1) by rw [w64 (by omega) (by omega)]; rfl] at hc2
    obtain ⟨q1, q2⟩ := len0_le l (by omega) hl
    obtain ⟨D, hD⟩ : ∃ D : Nat, (D : Int) = len0 l := ⟨(len0 l).toNat, by omega⟩
    obtain ⟨g, K, h, hg⟩ := ok_l2 l hl h10 i k hi (by omega) (li i hi (Nat.le_refl _)) (li k (by omega) (by omega)) _ hc2 D 0 (by omega)
    refine ⟨g, K + 1, fun q hq => ?_, ?_⟩
    · obtain ⟨q, rfl⟩ : ∃ m, q = m + 1 := ⟨q - 1, by omega⟩
      simp only [spec_l13Ok.l1]
      rw [if_pos (by omega)]
      exact h q (by omega)
    · rw [hg]
      constructor
      · rintro ⟨h1, h2, h3⟩
        refine ⟨fun k' a1 a2 => ?_, h3⟩
        rcases Nat.eq_or_lt_of_le a1 with e | e
        · subst e; exact fun t' => h1 t' (Nat.zero_le _)
        · exact h2 k' e a2
      · rintro ⟨h1, h3⟩
        exact ⟨fun t' _ => h1 k (Nat.le_refl _) (by omega) t', fun k' a1 a2 => h1 k' (by omega) a2, h3⟩
theorem ok_l0 : ∀ (d i : Nat), i + d = l.length → (∀ j, (h : j < l.length) → j < i → (l[j].f0.length : Int) = len0 l) → ∃ g K, (∀ q, K ≤ q → spec_l13Ok.l0 q l (i : Int) = some g) ∧ (g = true ↔ ∀ i' : Nat, i ≤ i' → (h : i' < l.length) → (l[i'].f0.length : Int) = len0 l ∧ OkI l i' 0)
  | 0, i, hi, hj => by
    refine ⟨true, 1, fun q hq => ?_, ⟨fun _ i' h1 h2 => by omega, fun _ => rfl⟩⟩
    obtain ⟨q, rfl⟩ : ∃ m, q = m + 1 := ⟨q - 1, by omega⟩
    simp only [spec_l13Ok.l0]
    rw [if_neg (by omega)]
  | d + 1, i, hi, hj => by
    have r1 := rdWI_get l i (by omega)
    by_cases c : (l[i].f0.length : Int) = len0 l
    · have hj2 : ∀ j, (h : j < l.length) → j < i + 1 → (l[j].f0.length : Int) = len0 l := fun j h h1 => by
        rcases Nat.lt_or_ge j i with e | e
        · exact hj j h e
        · have : j = i := by omega
          subst this; exact c
      have hc := ok_l0 d (i + 1) (by omega) hj2
      rw [show ((i + 1 : Nat) : Int) = wrap64 ((i : Int) + 1) by rw [w64 (by omega) (by omega)]; rfl] at hc
      obtain ⟨g, K, h, hg⟩ := ok_l1 l hl h10 i (by omega) (fun j h h1 => hj2 j h (by omega)) _ hc i 0 (by omega)
      refine ⟨g, K + 1, fun q hq => ?_, ?_⟩
      · obtain ⟨q, rfl⟩ : ∃ m, q = m + 1 := ⟨q - 1, by omega⟩
        simp only [spec_l13Ok.l0]
        rw [if_pos (by omega), if_pos (by omega), if_pos (by omega), r1]
        show (if (l[i].f0.length : Int) = len0 l then _ else _) = _
        rw [if_pos c]
        exact h q (by omega)
      · rw [hg]
        constructor
        · rintro ⟨h1, h2⟩ i' a1 a2
          rcases Nat.eq_or_lt_of_le a1 with e | e
          · subst e; exact ⟨c, h1⟩
          · exact h2 i' e a2
        · intro h1
          exact ⟨(h1 i (Nat.le_refl _) (by omega)).2, fun i' a1 a2 => h1 i' (by omega) a2⟩
    · refine ⟨false, 1, fun q hq => ?_, ⟨fun h => (by cases h), fun h => absurd (h i (Nat.le_refl _) (by omega)).1 c⟩⟩
      obtain ⟨q, rfl⟩ : ∃ m, q = m + 1 := ⟨q - 1, by omega⟩
      simp only [spec_l13Ok.l0]
      rw [if_pos (by omega), if_pos (by omega), if_pos (by omega), r1]
      show (if (l[i].f0.length : Int) = len0 l then _ else _) = _
      rw [if_neg c]
end
theorem specReg_ev (l : List WI) (hl : SzOk l) : ∃ g K, (∀ k, K ≤ k → spec_l13Ok.f k l = some g) ∧ (g = true ↔ Reg l) := by
  have hj : ∀ k, spec_l13Ok.j0 (k + 1) l true = some false := fun k => by simp only [spec_l13Ok.j0, reduceIte]
  by_cases c : 1 ≤ (l.length : Int) ∧ (l.length : Int) ≤ 10
  · obtain ⟨q1, q2⟩ := len0_le l (by omega) hl
    by_cases z : len0 l = 0
    · refine ⟨false, 1, fun k hk => ?_, ⟨fun h => (by cases h), fun h => absurd h.2.1 (by omega)⟩⟩
      obtain ⟨k, rfl⟩ : ∃ m, k = m + 1 := ⟨k - 1, by omega⟩
      unfold spec_l13Ok.f
      rw [l01In_eq, Option.bind_some, decide_eq_true c, if_pos rfl, if_pos (by omega)]
      show spec_l13Ok.j0 (k + 1) l (len0 l == 0) = _
      rw [z]
      exact hj k
    · obtain ⟨g, K, h, hg⟩ := ok_l0 l hl (by omega) l.length 0 (by omega) (fun j _ h => absurd h (Nat.not_lt_zero _))
      refine ⟨g, K + 1, fun k hk => ?_, ?_⟩
      · obtain ⟨k, rfl⟩ : ∃ m, k = m + 1 := ⟨k - 1, by omega⟩
        unfold spec_l13Ok.f
        rw [l01In_eq, Option.bind_some, decide_eq_true c, if_pos rfl, if_pos (by omega)]
        show spec_l13Ok.j0 (k + 1) l (len0 l == 0) = _
        rw [show (len0 l == 0) = false by simpa using z]
        simp only [spec_l13Ok.j0, Bool.false_eq_true, reduceIte]
        exact h k (by omega)
      · rw [hg]
        constructor
        · intro h1
          have ha : Alev l := ⟨by omega, by omega, fun x hx => by
            obtain ⟨i, hi, e⟩ := List.getElem_of_mem hx
            rw [← e]; exact (h1 i (Nat.zero_le _) hi).1⟩
          have hm : ∀ t : Nat, (t : Int) < len0 l → 1 < len0 l → ¬ Mt l (t : Int) := fun t ht h2 ⟨i, k, a1, a2, a3⟩ => by
            have := (h1 i (Nat.zero_le _) a2).2 k (Nat.zero_le _) a1 t ht a3
            omega
          refine ⟨ha, by omega, fun t ht => ⟨hm t (by omega) (by omega), ?_⟩⟩
          have := hm (t + 1) (by omega) (by omega)
          rwa [show ((t + 1 : Nat) : Int) = (t : Int) + 1 by omega] at this
        · rintro ⟨ha, h2, h3⟩ i _ hi
          refine ⟨ha.2.2 _ (List.getElem_mem _), fun k _ hki t ht he => ?_⟩
          refine Classical.byContradiction fun hne => ?_
          have hmt : Mt l (t : Int) := ⟨i, k, hki, hi, he⟩
          cases t with
          | zero => exact (h3 0 (by omega)).1 hmt
          | succ t =>
            rw [show ((t + 1 : Nat) : Int) = (t : Int) + 1 by omega] at hmt
            exact (h3 t (by omega)).2 hmt
  · refine ⟨false, 1, fun k hk => ?_, ⟨fun h => (by cases h), fun h => absurd ⟨by have := h.1.1; omega, by have := h.1.2.1; omega⟩ c⟩⟩
    obtain ⟨k, rfl⟩ : ∃ m, k = m + 1 := ⟨k - 1, by omega⟩
    unfold spec_l13Ok.f
    rw [l01In_eq, Option.bind_some, decide_eq_false c, if_neg (by decide)]
    exact hj k
end Go.Proofs.Ytbcljfbpkmlgpaa.Pure
