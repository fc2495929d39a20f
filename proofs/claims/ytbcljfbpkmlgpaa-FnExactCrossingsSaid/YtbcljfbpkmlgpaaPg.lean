/- Rings and swaps: the next robot of each, and how long a ring is. -/
import Derived.Test.YtbcljfbpkmlgpaaPl
import Derived.Test.YtbcljfbpkmlgpaaQ16
import Derived.Test.YtbcljfbpkmlgpaaQ18
import Derived.Test.YtbcljfbpkmlgpaaQ19
set_option linter.unusedSimpArgs false
set_option linter.unusedSectionVars false
namespace Go.Proofs.Ytbcljfbpkmlgpaa.Pure
open Go.RowKit Go.Proofs.Ytbcljfbpkmlgpaa.Q Go.Proofs.YtbcljfbpkmlgpaaW.PrintWords Go.Proofs.YtbcljfbpkmlgpaaW.PrintLast
theorem findI_spec {α : Type} (p : α → Bool) : ∀ l : List α, (findI p l = -1 ∧ ∀ (j : Nat) (h : j < l.length), p l[j] = false) ∨ (∃ (j : Nat) (h : j < l.length), findI p l = (j : Int) ∧ p l[j] = true)
  | [] => .inl ⟨rfl, fun j h => absurd h (Nat.not_lt_zero _)⟩
  | x :: xs => by
    unfold findI
    by_cases c : p x = true
    · rw [if_pos c]
      exact .inr ⟨0, by simp, rfl, c⟩
    · rw [if_neg c]
      rcases findI_spec p xs with ⟨h1, h2⟩ | ⟨j, h, h1, h2⟩
      · left
        refine ⟨by simp [h1], fun j h => ?_⟩
        cases j with
        | zero => simpa using c
        | succ j => simpa using h2 j (by simpa using h)
      · right
        refine ⟨j + 1, by simpa using h, ?_, by simpa using h2⟩
        simp only [h1]
        rw [if_neg (by omega)]
        omega
/-- No more than n different numbers are less than n. -/
theorem php : ∀ (n : Nat) (L : List Nat), L.Nodup → (∀ x ∈ L, x < n) → L.length ≤ n
  | 0, L, _, h => by
    cases L with
    | nil => exact Nat.le_refl _
    | cons x xs => exact absurd (h x List.mem_cons_self) (Nat.not_lt_zero _)
  | n + 1, L, hd, h => by
    by_cases c : n ∈ L
    · have h1 := php n (L.erase n) (hd.erase n) (fun x hx => by
        have := (List.Nodup.mem_erase_iff hd).mp hx
        have := h x this.2
        omega)
      have h2 := List.length_erase_of_mem c
      have h3 : 0 < L.length := List.length_pos_of_mem c
      omega
    · have h1 := php n L hd (fun x hx => by
        have := h x hx
        rcases Nat.lt_or_ge x n with g | g
        · exact g
        · exact absurd (by rwa [show n = x by omega]) c)
      omega
/-- Who comes to where way i goes: the way at that cell at time t, or -1. -/
def nxt (l : List WI) (t : Int) (i : Nat) : Int := findI (hof_nextOf.p t (rd_T42 l (i : Int)).f0) l
def nextL (l : List WI) (t : Int) : List Int := (List.range l.length).map (nxt l t)
theorem nextL_length (l : List WI) (t : Int) : (nextL l t).length = l.length := by simp [nextL]
theorem nextL_rd (l : List WI) (t : Int) (i : Nat) (h : i < l.length) : rd (nextL l t) (i : Int) = nxt l t i := by
  rw [rd_get _ i (by rw [nextL_length]; exact h)]; simp [nextL]
section
variable (l : List WI) (t : Int) (hv : Lev l t) (hm : ¬ Mt l t) (hm1 : ¬ Mt l (t + 1)) (hl : SzOk l)
include hv hl
theorem tw : wrap64 (t + 1) = t + 1 := by
  obtain ⟨g1, g2, g3, g4, g5⟩ := hv
  obtain ⟨q1, q2⟩ := len0_le l (by omega) hl
  exact w64 (by omega) (by omega)
theorem nxt_p (i : Nat) (j : Nat) (hj : j < l.length) : hof_nextOf.p t (rd_T42 l (i : Int)).f0 l[j] = decide (cel l j t = cel l i (t + 1)) := by
  unfold hof_nextOf.p cel
  rw [tw l t hv hl, rdWI_get l j hj]
include hm
theorem nxt_iff (i : Nat) (j : Nat) (hj : j < l.length) : cel l j t = cel l i (t + 1) ↔ nxt l t i = (j : Int) := by
  unfold nxt
  rcases findI_spec (hof_nextOf.p t (rd_T42 l (i : Int)).f0) l with ⟨h1, h2⟩ | ⟨q, hq, h1, h2⟩
  · rw [h1]
    constructor
    · intro h
      have := h2 j hj
      rw [nxt_p l t hv hl i j hj, decide_eq_true h] at this
      cases this
    · intro h; omega
  · rw [h1]
    rw [nxt_p l t hv hl i q hq] at h2
    have h2 := of_decide_eq_true h2
    constructor
    · intro h
      rcases Nat.lt_trichotomy q j with g | g | g
      · exact absurd ⟨j, q, g, hj, by rw [h, h2]⟩ hm
      · omega
      · exact absurd ⟨q, j, g, hq, by rw [h, h2]⟩ hm
    · intro h
      have : q = j := by omega
      subst this; exact h2
theorem nxt_range (i : Nat) : nxt l t i = -1 ∨ ∃ j : Nat, j < l.length ∧ nxt l t i = (j : Int) := by
  unfold nxt
  rcases findI_spec (hof_nextOf.p t (rd_T42 l (i : Int)).f0) l with ⟨h1, _⟩ | ⟨q, hq, h1, _⟩
  · exact .inl h1
  · exact .inr ⟨q, hq, h1⟩
include hm1
theorem nxt_inj (i j q : Nat) (hi : i < l.length) (hj : j < l.length) (hq : q < l.length) (h1 : nxt l t i = (q : Int)) (h2 : nxt l t j = (q : Int)) : i = j := by
  have e1 := (nxt_iff l t hv hm hl i q hq).mpr h1
  have e2 := (nxt_iff l t hv hm hl j q hq).mpr h2
  rcases Nat.lt_trichotomy i j with g | g | g
  · exact absurd ⟨j, i, g, hj, by rw [← e1, ← e2]⟩ hm1
  · exact g
  · exact absurd ⟨i, j, g, hi, by rw [← e1, ← e2]⟩ hm1
omit hm1
theorem specRing_l1 (i x : Nat) (size : Int) (hx : x < l.length) (v : Int) (K : Nat)
    (h : ∀ k, K ≤ k → (if nxt l t x < 0 then some 0 else if nxt l t x = (i : Int) then some size else spec_l12Ring.l0 k l t (i : Int) (nxt l t x) (wrap64 (size + 1))) = some v) :
    ∀ (d j k : Nat), j + d = l.length → K + d + 1 ≤ k → spec_l12Ring.l1 k l t (i : Int) (x : Int) size (if nxt l t x < (j : Int) then nxt l t x else -1) (j : Int) = some v
  | 0, j, k, hj, hk => by
    obtain ⟨k, rfl⟩ : ∃ m, k = m + 1 := ⟨k - 1, by omega⟩
    have hr : nxt l t x < (j : Int) := by
      rcases nxt_range l t hv hm hl x with e | ⟨q, hq, e⟩ <;> omega
    simp only [spec_l12Ring.l1]
    rw [if_neg (by omega), if_pos hr]
    exact h k (by omega)
  | d + 1, j, k, hj, hk => by
    obtain ⟨k, rfl⟩ : ∃ m, k = m + 1 := ⟨k - 1, by omega⟩
    obtain ⟨hjl, hk1, hk2⟩ : j < l.length ∧ j + 1 + d = l.length ∧ K + d + 1 ≤ k := by clear h; omega
    obtain ⟨g1, g2, g3, g4, g5⟩ := hv
    obtain ⟨b1, b2, b4, b5, b6⟩ : (j : Int) < (l.length : Int) ∧ (0 : Int) ≤ j ∧ (0 : Int) ≤ x ∧ (x : Int) < (l.length : Int) ∧ 0 ≤ t + 1 := by clear h; omega
    have b3 : t < (l[j].f0.length : Int) := by
      have a1 := g5 l[j] (List.getElem_mem _)
      clear h; omega
    have b7 : t + 1 < (l[x].f0.length : Int) := by
      have a1 := g5 l[x] (List.getElem_mem _)
      clear h; omega
    have e9 : wrap64 ((j : Int) + 1) = ((j + 1 : Nat) : Int) := by
      rw [w64 (by clear h; omega) (by clear h; omega)]; rfl
    have hv : Lev l t := ⟨g1, g2, g3, g4, g5⟩
    have ih := specRing_l1 i x size hx v K h d (j + 1) k hk1 hk2
    have hi := nxt_iff l t hv hm hl x j hjl
    have b8 := tw l t hv hl
    unfold cel at hi
    have r1 := rdWI_get l j hjl
    have r2 := rdWI_get l x hx
    rw [r1, r2] at hi
    have b9 := g3
    clear g1 g2 g3 g4 g5 hv hk hk1 hk2 h
    generalize nxt l t x = N at ih hi ⊢
    by_cases c : rd l[j].f0 t = rd l[x].f0 (t + 1)
    · have e := hi.mp c
      have b10 : N < ((j + 1 : Nat) : Int) := by clear ih hi c b3 b7 b8 e9; omega
      rw [if_pos b10, e] at ih
      simp only [spec_l12Ring.l1, r1, r2, b1, b2, b3, b4, b5, b6, b7, b8, b9, c, e9, reduceIte]
      exact ih
    · have e : N ≠ (j : Int) := fun h => c (hi.mpr h)
      simp only [spec_l12Ring.l1, r1, r2, b1, b2, b3, b4, b5, b6, b7, b8, b9, c, e9, reduceIte]
      by_cases c2 : N < (j : Int)
      · have b10 : N < ((j + 1 : Nat) : Int) := by clear ih hi c b3 b7 b8 e9; omega
        rw [if_pos c2]
        rw [if_pos b10] at ih
        exact ih
      · have b10 : ¬ N < ((j + 1 : Nat) : Int) := by clear ih hi c b3 b7 b8 e9; omega
        rw [if_neg c2]
        rw [if_neg b10] at ih
        exact ih
include hm1
theorem ring_l0 (i : Nat) (hi : i < l.length) : ∀ (d x : Nat) (tl : List Nat), tl.length + 1 + d = l.length → (x :: tl).Nodup → (∀ u ∈ x :: tl, u < l.length) → (∀ u ∈ x :: tl, u ≠ i → ∃ u' ∈ tl, nxt l t u' = (u : Int)) →
    ∃ v K, (∀ k, K ≤ k → spec_l12Ring.l0 k l t (i : Int) (x : Int) ((tl.length + 1 : Nat) : Int) = some v ∧ impl_ringOf.l0 k (nextL l t) (i : Int) ((tl.length + 1 : Nat) : Int) (nxt l t x) = some v) ∧ 0 ≤ v ∧ v ≤ l.length := by
  intro d
  induction d with
  | zero =>
    intro x tl hd hn hlt hch
    have h10 := hv.2.1
    have hx := hlt x List.mem_cons_self
    have hend : nxt l t x < 0 ∨ nxt l t x = (i : Int) := by
      rcases nxt_range l t hv hm hl x with e | ⟨q, hq, e⟩
      · left; omega
      · right
        refine Classical.byContradiction fun hne => ?_
        have hqi : q ≠ i := fun h => hne (by rw [e, h])
        have hnm : q ∉ x :: tl := fun hmem => by
          obtain ⟨u', hu', e'⟩ := hch q hmem hqi
          have := nxt_inj l t hv hm hm1 hl x u' q hx (hlt u' (List.mem_cons_of_mem _ hu')) hq e e'
          subst this
          exact (List.nodup_cons.mp hn).1 hu'
        have := php l.length (q :: x :: tl) (List.nodup_cons.mpr ⟨hnm, hn⟩) (fun u hu => by
          rcases List.mem_cons.mp hu with h | h
          · omega
          · exact hlt u h)
        simp at this
        omega
    have e1 : ((tl.length + 1 : Nat) : Int) ≤ (l.length : Int) := by omega
    by_cases c : nxt l t x < 0
    · refine ⟨0, l.length + 3, fun k hk => ⟨?_, ?_⟩, by omega, by omega⟩
      · obtain ⟨k, rfl⟩ : ∃ m, k = m + 1 := ⟨k - 1, by omega⟩
        simp only [spec_l12Ring.l0]
        rw [if_pos e1]
        have := specRing_l1 l t hv hm hl i x ((tl.length + 1 : Nat) : Int) hx 0 0 (fun k _ => by rw [if_pos c]) l.length 0 k (by omega) (by omega)
        have hz : (if nxt l t x < ((0 : Nat) : Int) then nxt l t x else -1) = -1 := by
          rcases nxt_range l t hv hm hl x with e | ⟨q, hq, e⟩
          · rw [e]; rfl
          · rw [if_neg (by omega)]
        rw [hz] at this
        exact this
      · obtain ⟨k, rfl⟩ : ∃ m, k = m + 1 := ⟨k - 1, by omega⟩
        simp only [impl_ringOf.l0]
        rw [if_neg (by omega), if_pos c]
    · have c2 : nxt l t x = (i : Int) := hend.resolve_left c
      refine ⟨((tl.length + 1 : Nat) : Int), l.length + 3, fun k hk => ⟨?_, ?_⟩, by omega, by omega⟩
      · obtain ⟨k, rfl⟩ : ∃ m, k = m + 1 := ⟨k - 1, by omega⟩
        simp only [spec_l12Ring.l0]
        rw [if_pos e1]
        have := specRing_l1 l t hv hm hl i x ((tl.length + 1 : Nat) : Int) hx ((tl.length + 1 : Nat) : Int) 0 (fun k _ => by rw [if_neg c, if_pos c2]) l.length 0 k (by omega) (by omega)
        have hz : (if nxt l t x < ((0 : Nat) : Int) then nxt l t x else -1) = -1 := by rw [if_neg (by omega)]
        rw [hz] at this
        exact this
      · obtain ⟨k, rfl⟩ : ∃ m, k = m + 1 := ⟨k - 1, by omega⟩
        simp only [impl_ringOf.l0]
        rw [if_pos c2]
  | succ d ih =>
    intro x tl hd hn hlt hch
    have h10 := hv.2.1
    have hx := hlt x List.mem_cons_self
    have e1 : ((tl.length + 1 : Nat) : Int) ≤ (l.length : Int) := by omega
    have e9 : wrap64 (((tl.length + 1 : Nat) : Int) + 1) = (((x :: tl).length + 1 : Nat) : Int) := by rw [w64 (by omega) (by omega)]; rfl
    have hz : (if nxt l t x < ((0 : Nat) : Int) then nxt l t x else -1) = -1 := by
      rcases nxt_range l t hv hm hl x with e | ⟨q, hq, e⟩
      · rw [e]; rfl
      · rw [if_neg (by omega)]
    rcases nxt_range l t hv hm hl x with e | ⟨q, hq, e⟩
    · refine ⟨0, l.length + 3, fun k hk => ⟨?_, ?_⟩, by omega, by omega⟩
      · obtain ⟨k, rfl⟩ : ∃ m, k = m + 1 := ⟨k - 1, by omega⟩
        simp only [spec_l12Ring.l0]
        rw [if_pos e1]
        have := specRing_l1 l t hv hm hl i x ((tl.length + 1 : Nat) : Int) hx 0 0 (fun k _ => by rw [if_pos (by omega)]) l.length 0 k (by omega) (by omega)
        rw [hz] at this
        exact this
      · obtain ⟨k, rfl⟩ : ∃ m, k = m + 1 := ⟨k - 1, by omega⟩
        simp only [impl_ringOf.l0]
        rw [if_neg (by omega), if_pos (by omega)]
    · by_cases c : q = i
      · refine ⟨((tl.length + 1 : Nat) : Int), l.length + 3, fun k hk => ⟨?_, ?_⟩, by omega, by omega⟩
        · obtain ⟨k, rfl⟩ : ∃ m, k = m + 1 := ⟨k - 1, by omega⟩
          simp only [spec_l12Ring.l0]
          rw [if_pos e1]
          have := specRing_l1 l t hv hm hl i x ((tl.length + 1 : Nat) : Int) hx ((tl.length + 1 : Nat) : Int) 0 (fun k _ => by rw [if_neg (by omega), if_pos (by omega)]) l.length 0 k (by omega) (by omega)
          rw [hz] at this
          exact this
        · obtain ⟨k, rfl⟩ : ∃ m, k = m + 1 := ⟨k - 1, by omega⟩
          simp only [impl_ringOf.l0]
          rw [if_pos (by omega)]
      · have hnm : q ∉ x :: tl := fun hmem => by
          obtain ⟨u', hu', e'⟩ := hch q hmem c
          have := nxt_inj l t hv hm hm1 hl x u' q hx (hlt u' (List.mem_cons_of_mem _ hu')) hq e e'
          subst this
          exact (List.nodup_cons.mp hn).1 hu'
        obtain ⟨v, K, hh, hv0, hv1⟩ := ih q (x :: tl) (by simp only [List.length_cons]; omega) (List.nodup_cons.mpr ⟨hnm, hn⟩)
          (fun u hu => by
            rcases List.mem_cons.mp hu with h | h
            · omega
            · exact hlt u h)
          (fun u hu hui => by
            rcases List.mem_cons.mp hu with h | h
            · exact ⟨x, List.mem_cons_self, by rw [e, h]⟩
            · obtain ⟨u', hu', e'⟩ := hch u h hui
              exact ⟨u', List.mem_cons_of_mem _ hu', e'⟩)
        refine ⟨v, K + l.length + 3, fun k hk => ⟨?_, ?_⟩, hv0, hv1⟩
        · obtain ⟨k, rfl⟩ : ∃ m, k = m + 1 := ⟨k - 1, by omega⟩
          simp only [spec_l12Ring.l0]
          rw [if_pos e1]
          have := specRing_l1 l t hv hm hl i x ((tl.length + 1 : Nat) : Int) hx v K (fun k hk => by rw [if_neg (by omega), if_neg (by omega), e9, e]; exact (hh k hk).1) l.length 0 k (by omega) (by omega)
          rw [hz] at this
          exact this
        · obtain ⟨k, rfl⟩ : ∃ m, k = m + 1 := ⟨k - 1, by omega⟩
          simp only [impl_ringOf.l0]
          rw [if_neg (by omega), if_neg (by omega), if_neg (by rw [nextL_length]; omega), if_pos (by omega), if_pos (by rw [nextL_length]; omega), e9, e, nextL_rd l t q hq]
          exact (hh k (by omega)).2
theorem ring_ev (i : Nat) (hi : i < l.length) : ∃ v K, (∀ k, K ≤ k → spec_l12Ring.f k l t (i : Int) = some v ∧ impl_ringOf.f k (nextL l t) (i : Int) = some v) ∧ 0 ≤ v ∧ v ≤ l.length := by
  obtain ⟨v, K, h, h1⟩ := ring_l0 l t hv hm hm1 hl i hi (l.length - 1) i [] (by simp; omega) (by simp) (by simpa using hi) (by
    intro u hu hne
    exact absurd (by simpa using hu) hne)
  refine ⟨v, K, fun k hk => ⟨(h k hk).1, ?_⟩, h1⟩
  unfold impl_ringOf.f
  rw [if_pos (by omega), if_pos (by rw [nextL_length]; omega), nextL_rd l t i hi]
  exact (h k hk).2
end
section
variable (l : List WI) (t : Int) (hv : Lev l t) (hl : SzOk l)
include hv hl
theorem implNext_l0 : ∀ (d i k : Nat), i + d = l.length → d < k → impl_nextOf.l0 k l ((List.range i).map (nxt l t)) l (l.length : Int) (i : Int) t = some (nextL l t)
  | 0, i, k, hi, hk => by
    obtain ⟨k, rfl⟩ : ∃ m, k = m + 1 := ⟨k - 1, by omega⟩
    simp only [impl_nextOf.l0]
    rw [if_neg (by omega), show i = l.length by omega]
    rfl
  | d + 1, i, k, hi, hk => by
    obtain ⟨k, rfl⟩ : ∃ m, k = m + 1 := ⟨k - 1, by omega⟩
    have ih := implNext_l0 d (i + 1) k (by omega) (by omega)
    obtain ⟨g1, g2, g3, g4, g5⟩ := hv
    obtain ⟨q1, q2⟩ := len0_le l (by omega) hl
    have a1 := g5 l[i] (List.getElem_mem _)
    simp only [impl_nextOf.l0, hof_nextOf.f]
    rw [if_pos (by omega), if_pos (by omega), if_pos (by omega), if_pos ⟨g3, by omega, by rw [rdWI_get l i (by omega)]; omega, fun x hx => by have := g5 x hx; omega⟩]
    simp only [Option.bind_some]
    rw [if_pos (by simp; omega), w64 (by omega) (by omega), show ((i : Int) + 1) = ((i + 1 : Nat) : Int) by omega]
    rw [List.range_succ, List.map_append] at ih
    exact ih
end
/-- What is asked of a time at which rings are looked for. -/
def Calm (l : List WI) (t : Int) : Prop := Lev l t ∧ ¬ Mt l t ∧ ¬ Mt l (t + 1)
theorem implNext_ev (l : List WI) (t : Int) (hl : SzOk l) : (Calm l t → ∃ K, ∀ k, K ≤ k → impl_nextOf.f k l t = some (nextL l t)) ∧ (¬ Calm l t → ∃ K, ∀ k, K ≤ k → impl_nextOf.f k l t = some []) := by
  obtain ⟨b, K, h, hb⟩ := meet_ev l t hl
  constructor
  · rintro ⟨c1, c2, c3⟩
    refine ⟨K + l.length + 2, fun k hk => ?_⟩
    obtain ⟨k, rfl⟩ : ∃ m, k = m + 1 := ⟨k - 1, by omega⟩
    have hbf : b = false := by
      cases b with
      | false => rfl
      | true => exact absurd (hb.mp rfl).2 (fun h => h.elim c2 c3)
    unfold impl_nextOf.f
    rw [implLevel_eq l t hl, Option.bind_some, decide_eq_true c1, if_pos rfl, (h (k + 1) (by omega)).2, Option.bind_some, hbf]
    simp only [impl_nextOf.j0, Bool.false_eq_true, reduceIte]
    exact implNext_l0 l t c1 hl l.length 0 k (by omega) (by omega)
  · intro hc
    refine ⟨K + 1, fun k hk => ?_⟩
    obtain ⟨k, rfl⟩ : ∃ m, k = m + 1 := ⟨k - 1, by omega⟩
    unfold impl_nextOf.f
    rw [implLevel_eq l t hl, Option.bind_some]
    by_cases c1 : Lev l t
    · have hbt : b = true := hb.mpr ⟨c1, Classical.byContradiction fun h => hc ⟨c1, fun h1 => h (.inl h1), fun h1 => h (.inr h1)⟩⟩
      rw [decide_eq_true c1, if_pos rfl, (h (k + 1) (by omega)).2, Option.bind_some, hbt]
      simp only [impl_nextOf.j0, reduceIte]
    · rw [decide_eq_false c1, if_neg (by decide)]
      simp only [impl_nextOf.j0, reduceIte]
theorem swaps_l0 (l : List WI) (t : Int) (hc : Calm l t) (hl : SzOk l) : ∀ (d i : Nat) (c : Int), i + d = l.length → 0 ≤ c → c ≤ i → ∃ v K, (∀ k, K ≤ k → spec_l12Count.l0 k l t 2 2 c (i : Int) = some v ∧ impl_SwapsAt.l0 k (nextL l t) c (l.length : Int) (i : Int) = some (wrap64 (Int.tdiv v 2))) ∧ 0 ≤ v ∧ v ≤ 10
  | 0, i, c, hi, h0, h1 => by
    have h10 := hc.1.2.1
    refine ⟨c, 1, fun k hk => ?_, by omega, by omega⟩
    obtain ⟨k, rfl⟩ : ∃ m, k = m + 1 := ⟨k - 1, by omega⟩
    have e1 : ¬ (i : Int) < (l.length : Int) := by omega
    simp only [spec_l12Count.l0, impl_SwapsAt.l0, e1, reduceIte, and_self]
  | d + 1, i, c, hi, h0, h1 => by
    have h10 := hc.1.2.1
    obtain ⟨r, K1, hr, r0, r1⟩ := ring_ev l t hc.1 hc.2.1 hc.2.2 hl i (by omega)
    have e1 : (i : Int) < (l.length : Int) := by omega
    have e9 : wrap64 ((i : Int) + 1) = ((i + 1 : Nat) : Int) := by rw [w64 (by omega) (by omega)]; rfl
    have e8 : wrap64 (c + 1) = c + 1 := w64 (by omega) (by omega)
    by_cases c2 : r = 2
    · obtain ⟨v, K, h, hv⟩ := swaps_l0 l t hc hl d (i + 1) (c + 1) (by omega) (by omega) (by omega)
      refine ⟨v, K1 + K + 1, fun k hk => ?_, hv⟩
      obtain ⟨k, rfl⟩ : ∃ m, k = m + 1 := ⟨k - 1, by omega⟩
      have hd : decide (2 ≤ r ∧ r ≤ 2) = true := decide_eq_true (by omega)
      simp only [spec_l12Count.l0, impl_SwapsAt.l0, e1, e8, e9, (hr k (by omega)).1, (hr k (by omega)).2, Option.bind_some, l01In_eq, hd, c2, reduceIte]
      simp only [c2] at hd
      simp only [hd, reduceIte]
      exact h k (by omega)
    · obtain ⟨v, K, h, hv⟩ := swaps_l0 l t hc hl d (i + 1) c (by omega) (by omega) (by omega)
      refine ⟨v, K1 + K + 1, fun k hk => ?_, hv⟩
      obtain ⟨k, rfl⟩ : ∃ m, k = m + 1 := ⟨k - 1, by omega⟩
      have hd : decide (2 ≤ r ∧ r ≤ 2) = false := decide_eq_false (by omega)
      simp only [spec_l12Count.l0, impl_SwapsAt.l0, e1, e8, e9, (hr k (by omega)).1, (hr k (by omega)).2, Option.bind_some, l01In_eq, hd, c2, Bool.false_eq_true, reduceIte]
      exact h k (by omega)
theorem rings_l0 (l : List WI) (t : Int) (hc : Calm l t) (hl : SzOk l) : ∀ (d i : Nat) (c : Int), i + d = l.length → 0 ≤ c → c ≤ i → ∃ v K, (∀ k, K ≤ k → spec_l12Count.l0 k l t 3 10 c (i : Int) = some v ∧ impl_RingsAt.l0 k (nextL l t) c (l.length : Int) (i : Int) = some v) ∧ 0 ≤ v ∧ v ≤ 10
  | 0, i, c, hi, h0, h1 => by
    have h10 := hc.1.2.1
    refine ⟨c, 1, fun k hk => ?_, by omega, by omega⟩
    obtain ⟨k, rfl⟩ : ∃ m, k = m + 1 := ⟨k - 1, by omega⟩
    have e1 : ¬ (i : Int) < (l.length : Int) := by omega
    simp only [spec_l12Count.l0, impl_RingsAt.l0, e1, reduceIte, and_self]
  | d + 1, i, c, hi, h0, h1 => by
    have h10 := hc.1.2.1
    obtain ⟨r, K1, hr, r0, r1⟩ := ring_ev l t hc.1 hc.2.1 hc.2.2 hl i (by omega)
    have e1 : (i : Int) < (l.length : Int) := by omega
    have e9 : wrap64 ((i : Int) + 1) = ((i + 1 : Nat) : Int) := by rw [w64 (by omega) (by omega)]; rfl
    have e8 : wrap64 (c + 1) = c + 1 := w64 (by omega) (by omega)
    by_cases c2 : r > 2
    · obtain ⟨v, K, h, hv⟩ := rings_l0 l t hc hl d (i + 1) (c + 1) (by omega) (by omega) (by omega)
      refine ⟨v, K1 + K + 1, fun k hk => ?_, hv⟩
      obtain ⟨k, rfl⟩ : ∃ m, k = m + 1 := ⟨k - 1, by omega⟩
      have hd : decide (3 ≤ r ∧ r ≤ 10) = true := decide_eq_true (by omega)
      simp only [spec_l12Count.l0, impl_RingsAt.l0, e1, e8, e9, (hr k (by omega)).1, (hr k (by omega)).2, Option.bind_some, l01In_eq, hd, c2, reduceIte]
      exact h k (by omega)
    · obtain ⟨v, K, h, hv⟩ := rings_l0 l t hc hl d (i + 1) c (by omega) (by omega) (by omega)
      refine ⟨v, K1 + K + 1, fun k hk => ?_, hv⟩
      obtain ⟨k, rfl⟩ : ∃ m, k = m + 1 := ⟨k - 1, by omega⟩
      have hd : decide (3 ≤ r ∧ r ≤ 10) = false := decide_eq_false (by omega)
      simp only [spec_l12Count.l0, impl_RingsAt.l0, e1, e8, e9, (hr k (by omega)).1, (hr k (by omega)).2, Option.bind_some, l01In_eq, hd, c2, Bool.false_eq_true, reduceIte]
      exact h k (by omega)
/-- What the reference counts. -/
theorem specCount_calm (l : List WI) (t a b : Int) (hc : Calm l t) (hl : SzOk l) (v : Int) (K : Nat) (h : ∀ k, K ≤ k → spec_l12Count.l0 k l t a b 0 0 = some v) : ∃ K', ∀ k, K' ≤ k → spec_l12Count.f k l t a b = some v := by
  obtain ⟨bb, K1, hm, hb⟩ := meet_ev l t hl
  have hbf : bb = false := by
    cases bb with
    | false => rfl
    | true => exact absurd (hb.mp rfl).2 (fun h => h.elim hc.2.1 hc.2.2)
  refine ⟨K + K1 + l.length + 3, fun k hk => ?_⟩
  obtain ⟨k, rfl⟩ : ∃ m, k = m + 1 := ⟨k - 1, by omega⟩
  unfold spec_l12Count.f
  rw [specLevel_ev l t hl (k + 1) (by omega), Option.bind_some, decide_eq_true hc.1, if_pos rfl, (hm (k + 1) (by omega)).1, Option.bind_some, hbf]
  simp only [spec_l12Count.j0, Bool.false_eq_true, reduceIte]
  exact h k (by omega)
theorem specCount_not (l : List WI) (t a b : Int) (hc : ¬ Calm l t) (hl : SzOk l) : ∃ K', ∀ k, K' ≤ k → spec_l12Count.f k l t a b = some 0 := by
  obtain ⟨bb, K1, hm, hb⟩ := meet_ev l t hl
  refine ⟨K1 + l.length + 3, fun k hk => ?_⟩
  obtain ⟨k, rfl⟩ : ∃ m, k = m + 1 := ⟨k - 1, by omega⟩
  unfold spec_l12Count.f
  rw [specLevel_ev l t hl (k + 1) (by omega), Option.bind_some]
  by_cases c1 : Lev l t
  · have hbt : bb = true := hb.mpr ⟨c1, Classical.byContradiction fun h => hc ⟨c1, fun h1 => h (.inl h1), fun h1 => h (.inr h1)⟩⟩
    rw [decide_eq_true c1, if_pos rfl, (hm (k + 1) (by omega)).1, Option.bind_some, hbt]
    simp only [spec_l12Count.j0, reduceIte]
  · rw [decide_eq_false c1, if_neg (by decide)]
    simp only [spec_l12Count.j0, reduceIte]
/-- The two answer alike, and with how many. -/
theorem swaps_evR (l : List WI) (t : Int) (hl : SzOk l) : ∃ v K, (∀ k, K ≤ k → spec_SwapsAt.f k l t = some v ∧ impl_SwapsAt.f k l t = some v) ∧ 0 ≤ v ∧ v ≤ 5 := by
  by_cases hc : Calm l t
  · obtain ⟨v, K, h, hv0, hv1⟩ := swaps_l0 l t hc hl l.length 0 0 (by omega) (by omega) (by omega)
    obtain ⟨K1, h1⟩ := specCount_calm l t 2 2 hc hl v K (fun k hk => (h k hk).1)
    obtain ⟨K2, h2⟩ := (implNext_ev l t hl).1 hc
    have ht : Int.tdiv v 2 = v / 2 := Int.tdiv_eq_ediv_of_nonneg hv0
    refine ⟨wrap64 (Int.tdiv v 2), K + K1 + K2 + 1, fun k hk => ⟨?_, ?_⟩, by rw [ht, w64 (by omega) (by omega)]; omega, by rw [ht, w64 (by omega) (by omega)]; omega⟩
    · unfold spec_SwapsAt.f
      rw [h1 k (by omega)]; rfl
    · unfold impl_SwapsAt.f
      rw [h2 k (by omega), Option.bind_some, nextL_length]
      exact (h k (by omega)).2
  · obtain ⟨K1, h1⟩ := specCount_not l t 2 2 hc hl
    obtain ⟨K2, h2⟩ := (implNext_ev l t hl).2 hc
    refine ⟨0, K1 + K2 + 1, fun k hk => ⟨?_, ?_⟩, by omega, by omega⟩
    · unfold spec_SwapsAt.f
      rw [h1 k (by omega)]; simp [wrap64]
    · obtain ⟨k, rfl⟩ : ∃ m, k = m + 1 := ⟨k - 1, by omega⟩
      unfold impl_SwapsAt.f
      rw [h2 (k + 1) (by omega), Option.bind_some]
      simp [impl_SwapsAt.l0, wrap64]
theorem rings_evR (l : List WI) (t : Int) (hl : SzOk l) : ∃ v K, (∀ k, K ≤ k → spec_RingsAt.f k l t = some v ∧ impl_RingsAt.f k l t = some v) ∧ 0 ≤ v ∧ v ≤ 10 := by
  by_cases hc : Calm l t
  · obtain ⟨v, K, h, hv0, hv1⟩ := rings_l0 l t hc hl l.length 0 0 (by omega) (by omega) (by omega)
    obtain ⟨K1, h1⟩ := specCount_calm l t 3 10 hc hl v K (fun k hk => (h k hk).1)
    obtain ⟨K2, h2⟩ := (implNext_ev l t hl).1 hc
    refine ⟨v, K + K1 + K2 + 1, fun k hk => ⟨?_, ?_⟩, hv0, hv1⟩
    · unfold spec_RingsAt.f
      rw [h1 k (by omega)]; rfl
    · unfold impl_RingsAt.f
      rw [h2 k (by omega), Option.bind_some, nextL_length]
      exact (h k (by omega)).2
  · obtain ⟨K1, h1⟩ := specCount_not l t 3 10 hc hl
    obtain ⟨K2, h2⟩ := (implNext_ev l t hl).2 hc
    refine ⟨0, K1 + K2 + 1, fun k hk => ⟨?_, ?_⟩, by omega, by omega⟩
    · unfold spec_RingsAt.f
      rw [h1 k (by omega)]; rfl
    · obtain ⟨k, rfl⟩ : ∃ m, k = m + 1 := ⟨k - 1, by omega⟩
      unfold impl_RingsAt.f
      rw [h2 (k + 1) (by omega), Option.bind_some]
      simp [impl_RingsAt.l0]
theorem swaps_ev (l : List WI) (t : Int) (hl : SzOk l) : ∃ v K, ∀ k, K ≤ k → spec_SwapsAt.f k l t = some v ∧ impl_SwapsAt.f k l t = some v := by
  obtain ⟨v, K, h, _⟩ := swaps_evR l t hl
  exact ⟨v, K, h⟩
theorem rings_ev (l : List WI) (t : Int) (hl : SzOk l) : ∃ v K, ∀ k, K ≤ k → spec_RingsAt.f k l t = some v ∧ impl_RingsAt.f k l t = some v := by
  obtain ⟨v, K, h, _⟩ := rings_evR l t hl
  exact ⟨v, K, h⟩
end Go.Proofs.Ytbcljfbpkmlgpaa.Pure
