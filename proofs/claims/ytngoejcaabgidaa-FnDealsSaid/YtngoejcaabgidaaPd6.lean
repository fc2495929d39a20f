/- DealOf: the program's loops and the reference's, and what both answer. -/
import Derived.Test.YtngoejcaabgidaaPd5
import Derived.Test.YtngoejcaabgidaaQ9
import Derived.Test.YtngoejcaabgidaaQ10
set_option linter.unusedSimpArgs false
namespace Go.Proofs.Ytngoejcaabgidaa.Pure
open Go.RowKit Go.Proofs.Ytngoejcaabgidaa.Q Go.Proofs.YtngoejcaabgidaaW.PrintWords Go.Proofs.YtngoejcaabgidaaW.PrintLast Go.Proofs.YtngoejcaabgidaaW.PrintMore
/-- What each gets at first. -/
def baseD (w r : List Int) (f : List Bool) (R D : Int) (i : Nat) : Int := if rdOf false f (i : Int) = true then rd r (i : Int) else if rd w (i : Int) > 0 then Int.tdiv (R * rd w (i : Int)) D else 0
/-- What is over. -/
def keyD (w : List Int) (R D : Int) (i : Nat) : Int := Int.tmod (R * rd w (i : Int)) D
def overD (w : List Int) (f : List Bool) (R D : Int) (i : Nat) : Int := if rdOf false f (i : Int) = true then -1 else if rd w (i : Int) > 0 then keyD w R D i else -1
/-- The places that share. -/
def plcD (w : List Int) (f : List Bool) : Nat → Nat → List Int
  | 0, _ => []
  | d + 1, i => if rdOf false f (i : Int) = true then plcD w f d (i + 1) else if rd w (i : Int) > 0 then (i : Int) :: plcD w f d (i + 1) else plcD w f d (i + 1)
/-- What they get together. -/
def qsumD (w : List Int) (f : List Bool) (R D : Int) : Nat → Nat → Int
  | 0, _ => 0
  | d + 1, i => (if rdOf false f (i : Int) = true then 0 else if rd w (i : Int) > 0 then Int.tdiv (R * rd w (i : Int)) D else 0) + qsumD w f R D d (i + 1)
def bsumD (w r : List Int) (f : List Bool) (R D : Int) : Nat → Nat → Int
  | 0, _ => 0
  | d + 1, i => baseD w r f R D i + bsumD w r f R D d (i + 1)
theorem bsum_eq (w r : List Int) (f : List Bool) (R D : Int) : ∀ d i, bsumD w r f R D d i = sumF r f d i + qsumD w f R D d i
  | 0, _ => rfl
  | d + 1, i => by
    unfold bsumD sumF qsumD baseD
    rw [bsum_eq w r f R D d (i + 1)]
    repeat' split
    all_goals omega
theorem plcD_mem (w : List Int) (f : List Bool) : ∀ (d i : Nat) (x : Int), x ∈ plcD w f d i ↔ ∃ a : Nat, x = (a : Int) ∧ i ≤ a ∧ a < i + d ∧ rdOf false f (a : Int) ≠ true ∧ rd w (a : Int) > 0
  | 0, i, x => by
    simp only [plcD, List.not_mem_nil, false_iff]
    rintro ⟨a, _, h1, h2, _⟩
    omega
  | d + 1, i, x => by
    have ih := plcD_mem w f d (i + 1) x
    unfold plcD
    by_cases c : rdOf false f (i : Int) = true
    · rw [if_pos c, ih]
      constructor
      · rintro ⟨a, h1, h2, h3, h4⟩; exact ⟨a, h1, by omega, by omega, h4⟩
      · rintro ⟨a, h1, h2, h3, h4, h5⟩
        by_cases e : a = i
        · subst e; exact absurd c h4
        · exact ⟨a, h1, by omega, by omega, h4, h5⟩
    · rw [if_neg c]
      by_cases c2 : rd w (i : Int) > 0
      · rw [if_pos c2, List.mem_cons, ih]
        constructor
        · rintro (e | ⟨a, h1, h2, h3, h4⟩)
          · exact ⟨i, e, Nat.le_refl _, by omega, c, c2⟩
          · exact ⟨a, h1, by omega, by omega, h4⟩
        · rintro ⟨a, h1, h2, h3, h4, h5⟩
          by_cases e : a = i
          · subst e; exact .inl h1
          · exact .inr ⟨a, h1, by omega, by omega, h4, h5⟩
      · rw [if_neg c2, ih]
        constructor
        · rintro ⟨a, h1, h2, h3, h4⟩; exact ⟨a, h1, by omega, by omega, h4⟩
        · rintro ⟨a, h1, h2, h3, h4, h5⟩
          by_cases e : a = i
          · subst e; exact absurd h5 c2
          · exact ⟨a, h1, by omega, by omega, h4, h5⟩
theorem plcD_len (w : List Int) (f : List Bool) : ∀ d i, (plcD w f d i).length ≤ d
  | 0, _ => Nat.le_refl _
  | d + 1, i => by
    have := plcD_len w f d (i + 1)
    unfold plcD
    repeat' split
    all_goals simp
    all_goals omega
theorem plcD_asc (w : List Int) (f : List Bool) : ∀ d i, (plcD w f d i).Pairwise (· < ·)
  | 0, _ => List.Pairwise.nil
  | d + 1, i => by
    have ih := plcD_asc w f d (i + 1)
    unfold plcD
    split
    · exact ih
    · split
      · refine List.pairwise_cons.mpr ⟨fun x hx => ?_, ih⟩
        obtain ⟨a, e, h, _⟩ := (plcD_mem w f d (i + 1) x).mp hx
        omega
      · exact ih
theorem prod_bound (w : List Int) (R : Int) (hw : Small w) (hR : 0 ≤ R ∧ R ≤ 160000) (i : Nat) : 0 ≤ R * rd w (i : Int) ∧ R * rd w (i : Int) ≤ 1600000000 := by
  have h := hw i
  exact ⟨Int.mul_nonneg hR.1 h.1, by have := Int.mul_le_mul hR.2 h.2 h.1 (by omega); omega⟩
section
variable (w r : List Int) (f : List Bool) (R D : Int) (hw : Small w) (hr : Small r) (hl : w.length = r.length) (hf : f.length = w.length) (hn : w.length ≤ 16) (hR : 0 ≤ R ∧ R ≤ 160000) (hD : ∀ j : Nat, j < w.length → rdOf false f (j : Int) ≠ true → rd w (j : Int) ≤ D) (hD2 : D ≤ 160000)
include hw hR hD hD2
theorem share_bound (i : Nat) (hi : i < w.length) (h1 : rdOf false f (i : Int) ≠ true) (h2 : rd w (i : Int) > 0) : 0 < D ∧ 0 ≤ Int.tdiv (R * rd w (i : Int)) D ∧ Int.tdiv (R * rd w (i : Int)) D ≤ 160000 ∧ 0 ≤ keyD w R D i := by
  have hp := prod_bound w R hw hR i
  have hd := hD i hi h1
  have hD0 : 0 < D := by omega
  refine ⟨hD0, ?_, ?_, ?_⟩
  · exact Int.tdiv_nonneg hp.1 (by omega)
  · rw [Int.tdiv_eq_ediv_of_nonneg hp.1]
    have : R * rd w (i : Int) ≤ R * D := Int.mul_le_mul_of_nonneg_left hd hR.1
    have := Int.ediv_le_of_le_mul hD0 this
    omega
  · exact Int.tmod_nonneg D hp.1
include hr
theorem base_bound (i : Nat) (hi : i < w.length) : 0 ≤ baseD w r f R D i ∧ baseD w r f R D i ≤ 160000 := by
  unfold baseD
  have := hr i
  by_cases c : rdOf false f (i : Int) = true
  · rw [if_pos c]; omega
  · rw [if_neg c]
    by_cases c2 : rd w (i : Int) > 0
    · rw [if_pos c2]
      have := share_bound w f R D hw hR hD hD2 i hi c c2
      omega
    · rw [if_neg c2]; omega
include hl hf hn
theorem spec_deal_l0 : ∀ (d i k : Nat) (left : Int), i + d = w.length → left ≤ 1000000000 → -1000000000 + 160000 * d ≤ left → spec_DealOf.l0 (k + d + 1) w r ((List.range i).map (baseD w r f R D)) f R D left ((List.range i).map (overD w f R D)) (i : Int) = spec_DealOf.l1 k ((List.range w.length).map (baseD w r f R D)) (left - qsumD w f R D d i) ((List.range w.length).map (overD w f R D)) := by
  have _ := hr
  intro d
  induction d with
  | zero =>
    intro i k left hi _ _
    obtain rfl : i = w.length := by omega
    rw [Nat.add_zero, spec_DealOf.l0, if_neg (by omega)]
    simp [qsumD]
  | succ d ih =>
    intro i k left hi hleft hlo
    have h1 : (i : Int) < (w.length : Int) := by omega
    have h2 : (0 : Int) ≤ i := by omega
    have h3 : (i : Int) < (f.length : Int) := by omega
    have h4 : (i : Int) < (r.length : Int) := by omega
    have e9 : wrap64 ((i : Int) + 1) = ((i + 1 : Nat) : Int) := by rw [w64 (by omega) (by omega)]; rfl
    have hl1 : ((List.range i).map (baseD w r f R D)).length < 17592186044416 := by simp; omega
    have hl2 : ((List.range i).map (overD w f R D)).length < 17592186044416 := by simp; omega
    have hb : (List.range (i + 1)).map (baseD w r f R D) = (List.range i).map (baseD w r f R D) ++ [baseD w r f R D i] := by rw [List.range_succ, List.map_append]; rfl
    have ho : (List.range (i + 1)).map (overD w f R D) = (List.range i).map (overD w f R D) ++ [overD w f R D i] := by rw [List.range_succ, List.map_append]; rfl
    rw [show k + (d + 1) + 1 = (k + d + 1) + 1 by omega, spec_DealOf.l0, if_pos h1, if_pos h2, if_pos h3]
    by_cases c : rdOf false f (i : Int) = true
    · have eb : baseD w r f R D i = rd r (i : Int) := by unfold baseD; rw [if_pos c]
      have eo : overD w f R D i = -1 := by unfold overD; rw [if_pos c]
      rw [if_pos c, if_pos h4, if_pos hl1, if_pos hl2, e9, ← eb, ← eo, ← hb, ← ho, ih (i + 1) k left (by omega) hleft (by omega), qsumD, if_pos c]
      congr 1
      omega
    · by_cases c2 : rd w (i : Int) > 0
      · have hs := share_bound w f R D hw hR hD hD2 i (by omega) c c2
        have hp := prod_bound w R hw hR i
        have eb : baseD w r f R D i = Int.tdiv (R * rd w (i : Int)) D := by unfold baseD; rw [if_neg c, if_pos c2]
        have eo : overD w f R D i = Int.tmod (R * rd w (i : Int)) D := by unfold overD keyD; rw [if_neg c, if_pos c2]
        have e1 : wrap64 (R * rd w (i : Int)) = R * rd w (i : Int) := w64 (by omega) (by omega)
        have e2 : wrap64 (Int.tdiv (R * rd w (i : Int)) D) = Int.tdiv (R * rd w (i : Int)) D := w64 (by omega) (by omega)
        have e3 : wrap64 (left - Int.tdiv (R * rd w (i : Int)) D) = left - Int.tdiv (R * rd w (i : Int)) D := w64 (by omega) (by omega)
        have hD0 : ¬ D = 0 := by omega
        rw [if_neg c, if_pos c2, if_neg hD0, if_pos hl1, if_pos hl2, e1, e2, e3, e9, ← eo, ← ho]
        have hih := ih (i + 1) k (left - Int.tdiv (R * rd w (i : Int)) D) (by omega) (by omega) (by omega)
        rw [hb, eb] at hih
        rw [hih, qsumD, if_neg c, if_pos c2]
        congr 1
        omega
      · have eb : baseD w r f R D i = 0 := by unfold baseD; rw [if_neg c, if_neg c2]
        have eo : overD w f R D i = -1 := by unfold overD; rw [if_neg c, if_neg c2]
        rw [if_neg c, if_neg c2, if_pos hl1, if_pos hl2, e9, ← eo, ← ho]
        have hih := ih (i + 1) k left (by omega) hleft (by omega)
        rw [hb, eb] at hih
        rw [hih, qsumD, if_neg c, if_neg c2]
        congr 1
        omega
theorem impl_deal_l0 : ∀ (d i k : Nat) (places : List Int) (rest : Int), i + d = w.length → places.length ≤ i → rest ≤ 1000000000 → -1000000000 + 160000 * d ≤ rest → impl_DealOf.l0 (k + d + 1) r f ((List.range w.length).map fun j => if j < i then baseD w r f R D j else 0) places rest (w.length : Int) (i : Int) w R D = ((hof_DealOf.f (places ++ plcD w f d i) R w D).bind fun t348 => (if 0 ≤ (mx 0 (mn (rest - bsumD w r f R D d i) ((places ++ plcD w f d i).length : Int))) then (if (mx 0 (mn (rest - bsumD w r f R D d i) ((places ++ plcD w f d i).length : Int))) ≤ ((places ++ plcD w f d i).length : Int) then ((some (t348.take ((mx 0 (mn (rest - bsumD w r f R D d i) ((places ++ plcD w f d i).length : Int))) : Int).toNat : List Int)).bind fun y349 => (impl_DealOf.l1 k ((List.range w.length).map (baseD w r f R D)) y349 (y349.length : Int) 0)) else (none)) else (none))) := by
  intro d
  induction d with
  | zero =>
    intro i k places rest hi _ _ _
    obtain rfl : i = w.length := by omega
    have hm : ((List.range w.length).map fun j => if j < w.length then baseD w r f R D j else 0) = (List.range w.length).map (baseD w r f R D) := by
      refine List.map_congr_left fun j hj => ?_
      rw [if_pos (List.mem_range.mp hj)]
    rw [hm, Nat.add_zero, impl_DealOf.l0, if_neg (by omega)]
    simp only [plcD, bsumD, List.append_nil, Int.sub_zero]
  | succ d ih =>
    intro i k places rest hi hpl hrest hlo
    have h1 : (i : Int) < (w.length : Int) := by omega
    have h2 : (0 : Int) ≤ i := by omega
    have h3 : (i : Int) < (f.length : Int) := by omega
    have h4 : (i : Int) < (r.length : Int) := by omega
    have e9 : wrap64 ((i : Int) + 1) = ((i + 1 : Nat) : Int) := by rw [w64 (by omega) (by omega)]; rfl
    have h5 : (i : Int) < (((List.range w.length).map fun j => if j < i then baseD w r f R D j else 0).length : Int) := by simp; omega
    have hset : ∀ x, x = baseD w r f R D i → ((List.range w.length).map fun j => if j < i then baseD w r f R D j else 0).set i x = (List.range w.length).map fun j => if j < i + 1 then baseD w r f R D j else 0 := fun x hx => by
      refine map_set w.length _ _ i x ?_ ?_
      · rw [hx, if_pos (by omega)]
      · intro j hj
        by_cases c : j < i
        · rw [if_pos c, if_pos (by omega)]
        · rw [if_neg c, if_neg (by omega)]
    have hrd : rd ((List.range w.length).map fun j => if j < i + 1 then baseD w r f R D j else 0) (i : Int) = baseD w r f R D i := by
      rw [rd_map w.length _ i (by omega), if_pos (by omega)]
    have hbb := base_bound w r f R D hw hr hR hD hD2 i (by omega)
    have e8 : wrap64 (rest - baseD w r f R D i) = rest - baseD w r f R D i := w64 (by omega) (by omega)
    rw [show k + (d + 1) + 1 = (k + d + 1) + 1 by omega, impl_DealOf.l0, if_pos h1, if_pos h2, if_pos h3]
    by_cases c : rdOf false f (i : Int) = true
    · have eb : rd r (i : Int) = baseD w r f R D i := by unfold baseD; rw [if_pos c]
      rw [if_pos c, if_pos h4, if_pos h5, Option.bind_some, Int.toNat_natCast, hset _ eb, hrd, e8, e9, ih (i + 1) k places (rest - baseD w r f R D i) (by omega) (by omega) (by omega) (by omega), plcD, if_pos c, bsumD, Int.sub_sub]
    · rw [if_neg c, if_pos h1]
      by_cases c2 : rd w (i : Int) > 0
      · have hs := share_bound w f R D hw hR hD hD2 i (by omega) c c2
        have hp := prod_bound w R hw hR i
        have eb : Int.tdiv (R * rd w (i : Int)) D = baseD w r f R D i := by unfold baseD; rw [if_neg c, if_pos c2]
        have e1 : wrap64 (R * rd w (i : Int)) = R * rd w (i : Int) := w64 (by omega) (by omega)
        have e2 : wrap64 (Int.tdiv (R * rd w (i : Int)) D) = Int.tdiv (R * rd w (i : Int)) D := w64 (by omega) (by omega)
        have hD0 : ¬ D = 0 := by omega
        rw [if_pos c2, if_neg hD0, if_pos h5, Option.bind_some, if_pos (by omega), Int.toNat_natCast, e1, e2, hset _ eb, hrd, e8, e9, ih (i + 1) k (places ++ [(i : Int)]) (rest - baseD w r f R D i) (by omega) (by simp; omega) (by omega) (by omega), plcD, if_neg c, if_pos c2, bsumD, Int.sub_sub, List.append_assoc, List.singleton_append]
      · have eb : (0 : Int) = baseD w r f R D i := by unfold baseD; rw [if_neg c, if_neg c2]
        have hrd0 : rd ((List.range w.length).map fun j => if j < i then baseD w r f R D j else 0) (i : Int) = baseD w r f R D i := by
          rw [rd_map w.length _ i (by omega), if_neg (by omega), eb]
        have hsame : ((List.range w.length).map fun j => if j < i then baseD w r f R D j else 0) = (List.range w.length).map fun j => if j < i + 1 then baseD w r f R D j else 0 := by
          refine List.map_congr_left fun j hj => ?_
          by_cases e : j = i
          · subst e; rw [if_neg (by omega), if_pos (by omega), eb]
          · by_cases c3 : j < i
            · rw [if_pos c3, if_pos (by omega)]
            · rw [if_neg c3, if_neg (by omega)]
        rw [if_neg c2, if_pos h5, hrd0, e8, e9, hsame, ih (i + 1) k places (rest - baseD w r f R D i) (by omega) (by omega) (by omega) (by omega), plcD, if_neg c, if_neg c2, bsumD, Int.sub_sub]
end
end Go.Proofs.Ytngoejcaabgidaa.Pure
