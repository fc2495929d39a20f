/- The reference's sorted lists: ascending, each number once; so are the program's. -/
import Derived.Test.YtbcljfbpkmlgpaaPb
import Derived.Test.YtbcljfbpkmlgpaaPsrt
import Derived.Test.YtbcljfbpkmlgpaaQ6
import Derived.Test.YtbcljfbpkmlgpaaQ8
set_option linter.unusedSimpArgs false
namespace Go.Proofs.Ytbcljfbpkmlgpaa.Pure
open Go.RowKit Go.Proofs.Ytbcljfbpkmlgpaa.Q Go.Proofs.YtbcljfbpkmlgpaaW.PrintWords Go.Proofs.YtbcljfbpkmlgpaaW.PrintLast
/-- A number behind a list, where it isn't the last one. -/
def push (out : List Int) (x : Int) : List Int := if out.length = 0 then out ++ [x] else if rd out ((out.length - 1 : Nat) : Int) = x then out else out ++ [x]
theorem push_len (out : List Int) (x : Int) : (push out x).length ≤ out.length + 1 := by
  unfold push
  split
  · simp
  · split <;> simp
theorem asc_last (out : List Int) (h : Asc out) (h0 : out.length ≠ 0) : rd out ((out.length - 1 : Nat) : Int) ∈ out ∧ ∀ x ∈ out, x ≤ rd out ((out.length - 1 : Nat) : Int) := by
  have hl : out.length - 1 < out.length := by omega
  rw [rd_get out _ hl]
  refine ⟨List.getElem_mem hl, fun x hx => ?_⟩
  obtain ⟨i, hi, e⟩ := List.getElem_of_mem hx
  by_cases c : i = out.length - 1
  · subst c; omega
  · have := List.pairwise_iff_getElem.mp h i (out.length - 1) hi hl (by omega)
    omega
theorem push_spec (out : List Int) (y : Int) (h : Asc out) (hy : ∀ x ∈ out, x ≤ y) : Asc (push out y) ∧ ∀ x, x ∈ push out y ↔ x ∈ out ∨ x = y := by
  unfold push
  by_cases h0 : out.length = 0
  · rw [if_pos h0, List.eq_nil_of_length_eq_zero h0]
    simp
  · rw [if_neg h0]
    obtain ⟨h1, h2⟩ := asc_last out h h0
    by_cases e : rd out ((out.length - 1 : Nat) : Int) = y
    · rw [if_pos e]
      exact ⟨h, fun x => ⟨.inl, fun hx => hx.elim id (fun e2 => by rw [e2, ← e]; exact h1)⟩⟩
    · rw [if_neg e]
      refine ⟨List.pairwise_append.mpr ⟨h, List.pairwise_singleton _ _, fun x hx z hz => ?_⟩, fun x => by simp⟩
      obtain rfl := List.mem_singleton.mp hz
      have := h2 x hx
      have := hy _ h1
      omega
theorem j2_push (out : List Int) (x : Int) (hl : out.length < 17592186044416) (A B : Option (List Int)) : (if (out.length : Int) = 0 then (if out.length < 17592186044416 then A else (none)) else (if 0 ≤ (wrap64 ((out.length : Int) - 1)) then (if (wrap64 ((out.length : Int) - 1)) < (out.length : Int) then (if (rd out (wrap64 ((out.length : Int) - 1))) = x then B else (if out.length < 17592186044416 then A else (none))) else (none)) else (none))) = (if out.length = 0 then A else if rd out ((out.length - 1 : Nat) : Int) = x then B else A) := by
  by_cases h0 : out.length = 0
  · rw [if_pos (by omega), if_pos hl, if_pos h0]
  · have e : wrap64 ((out.length : Int) - 1) = ((out.length - 1 : Nat) : Int) := by rw [w64 (by omega) (by omega)]; omega
    rw [if_neg (by omega), e, if_pos (by omega), if_pos (by omega), if_pos hl, if_neg h0]
theorem push_ite (k : Nat) (a b out : List Int) (x i j : Int) : (if out.length = 0 then spec_l11Sorted.l0 k a b (out ++ [x]) i j else if rd out ((out.length - 1 : Nat) : Int) = x then spec_l11Sorted.l0 k a b out i j else spec_l11Sorted.l0 k a b (out ++ [x]) i j) = spec_l11Sorted.l0 k a b (push out x) i j := by
  unfold push
  by_cases h0 : out.length = 0
  · rw [if_pos h0, if_pos h0]
  · rw [if_neg h0, if_neg h0]
    by_cases h1 : rd out ((out.length - 1 : Nat) : Int) = x
    · rw [if_pos h1, if_pos h1]
    · rw [if_neg h1, if_neg h1]
theorem j2_true (k : Nat) (a b out : List Int) (i : Nat) (y : Int) (hi : (i : Int) < (a.length : Int)) (ho : out.length < 17592186044416) (hn : (i : Int) + 1 ≤ 9223372036854775807) : spec_l11Sorted.j2 (k + 1) a b out (i : Int) y true = spec_l11Sorted.l0 k a b (push out (rd a (i : Int))) ((i + 1 : Nat) : Int) y := by
  have e9 : wrap64 ((i : Int) + 1) = ((i + 1 : Nat) : Int) := by rw [w64 (by omega) (by omega)]; rfl
  have h0 : (0 : Int) ≤ i := by omega
  rw [spec_l11Sorted.j2, if_pos rfl, if_pos h0, if_pos hi, e9]
  exact (j2_push out (rd a (i : Int)) ho (spec_l11Sorted.l0 k a b (out ++ [rd a (i : Int)]) ((i + 1 : Nat) : Int) y) (spec_l11Sorted.l0 k a b out ((i + 1 : Nat) : Int) y)).trans (push_ite k a b out (rd a (i : Int)) ((i + 1 : Nat) : Int) y)
theorem j2_false (k : Nat) (a b out : List Int) (x : Int) (j : Nat) (hj : (j : Int) < (b.length : Int)) (ho : out.length < 17592186044416) (hn : (j : Int) + 1 ≤ 9223372036854775807) : spec_l11Sorted.j2 (k + 1) a b out x (j : Int) false = spec_l11Sorted.l0 k a b (push out (rd b (j : Int))) x ((j + 1 : Nat) : Int) := by
  have e9 : wrap64 ((j : Int) + 1) = ((j + 1 : Nat) : Int) := by rw [w64 (by omega) (by omega)]; rfl
  have h0 : (0 : Int) ≤ j := by omega
  rw [spec_l11Sorted.j2, if_neg (by decide), if_pos h0, if_pos hj, e9]
  exact (j2_push out (rd b (j : Int)) ho (spec_l11Sorted.l0 k a b (out ++ [rd b (j : Int)]) x ((j + 1 : Nat) : Int)) (spec_l11Sorted.l0 k a b out x ((j + 1 : Nat) : Int))).trans (push_ite k a b out (rd b (j : Int)) x ((j + 1 : Nat) : Int))
theorem step_a (k : Nat) (a b out : List Int) (i j : Nat) (hi : i < a.length) (hc : b.length ≤ j ∨ rd a (i : Int) ≤ rd b (j : Int)) (ho : out.length < 17592186044416) (hn : a.length ≤ 2000000) : spec_l11Sorted.l0 (k + 3) a b out (i : Int) (j : Int) = spec_l11Sorted.l0 k a b (push out (rd a (i : Int))) ((i + 1 : Nat) : Int) (j : Int) := by
  have h1 : (i : Int) < (a.length : Int) := by omega
  have h2 : (0 : Int) ≤ i := by omega
  have h3 : (0 : Int) ≤ j := by omega
  have hj := j2_true k a b out i (j : Int) h1 ho (by omega)
  rw [spec_l11Sorted.l0, if_pos h1, spec_l11Sorted.j1, if_pos rfl]
  by_cases cj : (j : Int) ≥ (b.length : Int)
  · rw [if_pos cj]; exact hj
  · have h4 : (j : Int) < (b.length : Int) := by omega
    have h5 : rd a (i : Int) ≤ rd b (j : Int) := hc.elim (fun h => absurd (show (j : Int) ≥ (b.length : Int) by omega) cj) id
    rw [if_neg cj, if_pos h1, if_pos h2, if_pos h3, if_pos h4, decide_eq_true h5]
    exact hj
theorem step_b (k : Nat) (a b out : List Int) (i j : Nat) (hj : j < b.length) (hc : i < a.length → ¬ rd a (i : Int) ≤ rd b (j : Int)) (ho : out.length < 17592186044416) (hn : b.length ≤ 2000000) : spec_l11Sorted.l0 (k + 3) a b out (i : Int) (j : Int) = spec_l11Sorted.l0 k a b (push out (rd b (j : Int))) (i : Int) ((j + 1 : Nat) : Int) := by
  have h1 : (j : Int) < (b.length : Int) := by omega
  have h2 : (0 : Int) ≤ i := by omega
  have h3 : (0 : Int) ≤ j := by omega
  have h4 : ¬ (j : Int) ≥ (b.length : Int) := by omega
  have hj2 := j2_false k a b out (i : Int) j h1 ho (by omega)
  have hj1 : spec_l11Sorted.j1 (k + 2) a b out (i : Int) (j : Int) true = spec_l11Sorted.l0 k a b (push out (rd b (j : Int))) (i : Int) ((j + 1 : Nat) : Int) := by
    rw [spec_l11Sorted.j1, if_pos rfl, if_neg h4]
    by_cases ci : (i : Int) < (a.length : Int)
    · have h5 := hc (by omega)
      rw [if_pos ci, if_pos h2, if_pos h3, if_pos h1, decide_eq_false h5]
      exact hj2
    · rw [if_neg ci]; exact hj2
  rw [spec_l11Sorted.l0]
  by_cases ci : (i : Int) < (a.length : Int)
  · rw [if_pos ci]; exact hj1
  · rw [if_neg ci, decide_eq_true h1]; exact hj1
theorem step_end (k : Nat) (a b out : List Int) (i j : Nat) (hi : a.length ≤ i) (hj : b.length ≤ j) : spec_l11Sorted.l0 (k + 2) a b out (i : Int) (j : Int) = some out := by
  have h1 : ¬ (i : Int) < (a.length : Int) := by omega
  have h2 : ¬ (j : Int) < (b.length : Int) := by omega
  rw [spec_l11Sorted.l0, if_neg h1, decide_eq_false h2, spec_l11Sorted.j1, if_neg (by decide)]
theorem merge_l0 (a b : List Int) (ha : Asc a) (hb : Asc b) (hn : a.length + b.length ≤ 2000000) : ∀ (d i j : Nat) (out : List Int), (a.length - i) + (b.length - j) = d → i ≤ a.length → j ≤ b.length → out.length ≤ i + j → Asc out → (∀ x ∈ out, (∀ y ∈ a.drop i, x ≤ y) ∧ (∀ y ∈ b.drop j, x ≤ y)) →
    ∃ v K, (∀ k, K ≤ k → spec_l11Sorted.l0 k a b out (i : Int) (j : Int) = some v) ∧ Asc v ∧ ∀ x, x ∈ v ↔ x ∈ out ∨ x ∈ a.drop i ∨ x ∈ b.drop j
  | 0, i, j, out, hd, hi, hj, ho, hA, hle => by
    refine ⟨out, 2, fun k hk => ?_, hA, fun x => ?_⟩
    · obtain ⟨k, rfl⟩ : ∃ m, k = m + 2 := ⟨k - 2, by omega⟩
      exact step_end k a b out i j (by omega) (by omega)
    · rw [List.drop_of_length_le (by omega), List.drop_of_length_le (by omega)]
      simp
  | d + 1, i, j, out, hd, hi, hj, ho, hA, hle => by
    by_cases hc : i < a.length ∧ (b.length ≤ j ∨ rd a (i : Int) ≤ rd b (j : Int))
    · obtain ⟨hia, hcmp⟩ := hc
      have hda := drop_cons a i hia
      have hra := rd_get a i hia
      have hmin : ∀ x ∈ out, x ≤ a[i] := fun x hx => (hle x hx).1 _ (by rw [hda]; exact List.mem_cons_self)
      obtain ⟨hp1, hp2⟩ := push_spec out a[i] hA hmin
      have hpl := push_len out a[i]
      have hasc := List.pairwise_cons.mp (by rw [← hda]; exact List.Pairwise.sublist (List.drop_sublist i a) ha)
      obtain ⟨v, K, h, hv, hm⟩ := merge_l0 a b ha hb hn d (i + 1) j (push out a[i]) (by omega) (by omega) hj (by omega) hp1 (fun x hx => by
        rcases (hp2 x).mp hx with hx | rfl
        · exact ⟨fun y hy => (hle x hx).1 y (by rw [hda]; exact List.mem_cons_of_mem _ hy), (hle x hx).2⟩
        · refine ⟨fun y hy => Int.le_of_lt (hasc.1 y hy), fun y hy => ?_⟩
          rcases hcmp with hcmp | hcmp
          · rw [List.drop_of_length_le hcmp] at hy; cases hy
          · have hjb : j < b.length := by
              rcases Nat.lt_or_ge j b.length with h | h
              · exact h
              · rw [List.drop_of_length_le h] at hy; cases hy
            rw [hra, rd_get b j hjb] at hcmp
            rw [drop_cons b j hjb] at hy
            have hbs := List.pairwise_cons.mp (by rw [← drop_cons b j hjb]; exact List.Pairwise.sublist (List.drop_sublist j b) hb)
            rcases List.mem_cons.mp hy with rfl | hy
            · exact hcmp
            · have := hbs.1 y hy; omega)
      refine ⟨v, K + 3, fun k hk => ?_, hv, fun x => ?_⟩
      · obtain ⟨k, rfl⟩ : ∃ m, k = m + 3 := ⟨k - 3, by omega⟩
        rw [step_a k a b out i j hia hcmp (by omega) (by omega), hra]
        exact h k (by omega)
      · rw [hm, hp2, hda, List.mem_cons]
        constructor
        · rintro ((h | h) | h | h)
          · exact .inl h
          · exact .inr (.inl (.inl h))
          · exact .inr (.inl (.inr h))
          · exact .inr (.inr h)
        · rintro (h | (h | h) | h)
          · exact .inl (.inl h)
          · exact .inl (.inr h)
          · exact .inr (.inl h)
          · exact .inr (.inr h)
    · have hjb : j < b.length := by
        rcases Nat.lt_or_ge j b.length with h | h
        · exact h
        · exact absurd ⟨by omega, .inl h⟩ hc
      have hdb := drop_cons b j hjb
      have hrb := rd_get b j hjb
      have hmin : ∀ x ∈ out, x ≤ b[j] := fun x hx => (hle x hx).2 _ (by rw [hdb]; exact List.mem_cons_self)
      obtain ⟨hp1, hp2⟩ := push_spec out b[j] hA hmin
      have hpl := push_len out b[j]
      have hasc := List.pairwise_cons.mp (by rw [← hdb]; exact List.Pairwise.sublist (List.drop_sublist j b) hb)
      obtain ⟨v, K, h, hv, hm⟩ := merge_l0 a b ha hb hn d i (j + 1) (push out b[j]) (by omega) hi (by omega) (by omega) hp1 (fun x hx => by
        rcases (hp2 x).mp hx with hx | rfl
        · exact ⟨(hle x hx).1, fun y hy => (hle x hx).2 y (by rw [hdb]; exact List.mem_cons_of_mem _ hy)⟩
        · refine ⟨fun y hy => ?_, fun y hy => Int.le_of_lt (hasc.1 y hy)⟩
          have hia : i < a.length := by
            rcases Nat.lt_or_ge i a.length with h | h
            · exact h
            · rw [List.drop_of_length_le h] at hy; cases hy
          have hcmp : ¬ rd a (i : Int) ≤ rd b (j : Int) := fun h => hc ⟨hia, .inr h⟩
          rw [hrb, rd_get a i hia] at hcmp
          rw [drop_cons a i hia] at hy
          have has := List.pairwise_cons.mp (by rw [← drop_cons a i hia]; exact List.Pairwise.sublist (List.drop_sublist i a) ha)
          rcases List.mem_cons.mp hy with rfl | hy
          · omega
          · have := has.1 y hy; omega)
      refine ⟨v, K + 3, fun k hk => ?_, hv, fun x => ?_⟩
      · obtain ⟨k, rfl⟩ : ∃ m, k = m + 3 := ⟨k - 3, by omega⟩
        rw [step_b k a b out i j hjb (fun h h2 => hc ⟨h, .inr h2⟩) (by omega) (by omega), hrb]
        exact h k (by omega)
      · rw [hm, hp2, hdb, List.mem_cons]
        constructor
        · rintro ((h | h) | h | h)
          · exact .inl h
          · exact .inr (.inr (.inl h))
          · exact .inr (.inl h)
          · exact .inr (.inr (.inr h))
        · rintro (h | h | h | h)
          · exact .inl (.inl h)
          · exact .inr (.inl h)
          · exact .inl (.inr h)
          · exact .inr (.inr h)
theorem sorted_ev : ∀ (n : Nat) (l : List Int), l.length ≤ n → l.length ≤ 1048576 → ∃ v K, (∀ k, K ≤ k → spec_l11Sorted.f k l = some v) ∧ Asc v ∧ ∀ x, x ∈ v ↔ x ∈ l
  | 0, l, h, _ => by
    obtain rfl := List.eq_nil_of_length_eq_zero (Nat.le_zero.mp h)
    refine ⟨[], 1, fun k hk => ?_, List.Pairwise.nil, fun x => Iff.rfl⟩
    obtain ⟨k, rfl⟩ : ∃ m, k = m + 1 := ⟨k - 1, by omega⟩
    simp only [spec_l11Sorted.f]
    rw [if_pos (by decide), Option.bind_some, if_pos (by decide)]
    rfl
  | n + 1, l, h, hl => by
    by_cases h2 : l.length < 2
    · refine ⟨l, 1, fun k hk => ?_, ?_, fun x => Iff.rfl⟩
      · obtain ⟨k, rfl⟩ : ∃ m, k = m + 1 := ⟨k - 1, by omega⟩
        simp only [spec_l11Sorted.f]
        rw [if_pos (by omega), Option.bind_some, if_pos (by simp; omega)]
        rfl
      · match l, h2 with
        | [], _ => exact List.Pairwise.nil
        | [x], _ => exact List.pairwise_singleton _ _
    · have e1 : wrap64 ((l.length : Int) / 2) = ((l.length / 2 : Nat) : Int) := by rw [w64 (by omega) (by omega)]; omega
      obtain ⟨a, K1, h1, ha, hma⟩ := sorted_ev n (l.take (l.length / 2)) (by simp; omega) (by simp; omega)
      obtain ⟨b, K2, h2', hb, hmb⟩ := sorted_ev n (l.drop (l.length / 2)) (by simp; omega) (by simp; omega)
      have hla := nodup_sub_length a _ (asc_nodup ha) (fun x hx => (hma x).mp hx)
      have hlb := nodup_sub_length b _ (asc_nodup hb) (fun x hx => (hmb x).mp hx)
      rw [List.length_take] at hla
      rw [List.length_drop] at hlb
      obtain ⟨v, K3, h3, hv, hm⟩ := merge_l0 a b ha hb (by omega) _ 0 0 [] rfl (Nat.zero_le _) (Nat.zero_le _) (Nat.zero_le _) List.Pairwise.nil (fun x hx => by cases hx)
      refine ⟨v, K1 + K2 + K3 + 1, fun k hk => ?_, hv, fun x => ?_⟩
      · obtain ⟨k, rfl⟩ : ∃ m, k = m + 1 := ⟨k - 1, by omega⟩
        simp only [spec_l11Sorted.f]
        rw [if_neg (by omega), e1, if_pos (by omega), if_pos (by omega), Int.toNat_natCast, h1 k (by omega), Option.bind_some, h2' k (by omega), Option.bind_some]
        exact h3 k (by omega)
      · rw [hm, List.drop_zero, List.drop_zero, hma, hmb]
        constructor
        · rintro (hx | hx | hx)
          · cases hx
          · exact List.mem_of_mem_take hx
          · exact List.mem_of_mem_drop hx
        · intro hx
          rw [← List.take_append_drop (l.length / 2) l, List.mem_append] at hx
          exact .inr hx
theorem ascI_asc (l : List Int) : ascI l = asc l := rfl
theorem specSorted_ev (l : List Int) (hl : l.length ≤ 1048576) : ∃ K, ∀ k, K ≤ k → spec_l11Sorted.f k l = some (asc l) := by
  obtain ⟨v, K, h, h1, h2⟩ := sorted_ev l.length l (Nat.le_refl _) hl
  exact ⟨K, fun k hk => by rw [h k hk, asc_of l v h1 h2]⟩
theorem implOrdered_eq (l : List Int) (hl : l.length ≤ 1048576) : impl_ordered.f l = some (asc l) := by
  unfold impl_ordered.f
  rw [if_pos (by omega), ascI_asc]
end Go.Proofs.Ytbcljfbpkmlgpaa.Pure
