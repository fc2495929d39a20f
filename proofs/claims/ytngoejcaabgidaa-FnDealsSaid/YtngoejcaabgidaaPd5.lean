/- Those that get one more: the first ones of the places, sorted by what is over. -/
import Derived.Test.YtngoejcaabgidaaPd4
import Derived.Test.YtngoejcaabgidaaPsto
import Derived.Test.YtngoejcaabgidaaQ10
import Derived.Test.YtngoejcaabgidaaQ9
set_option linter.unusedSimpArgs false
namespace Go.Proofs.Ytngoejcaabgidaa.Pure
open Go.RowKit Go.Proofs.Ytngoejcaabgidaa.Q Go.Proofs.YtngoejcaabgidaaW.PrintWords Go.Proofs.YtngoejcaabgidaaW.PrintLast Go.Proofs.YtngoejcaabgidaaW.PrintMore
theorem rd_map (n : Nat) (g : Nat → Int) (i : Nat) (h : i < n) : rd ((List.range n).map g) (i : Int) = g i := by
  rw [rd_get _ i (by simpa using h)]
  simp
theorem map_set (n : Nat) (g h : Nat → Int) (a : Nat) (x : Int) (hx : x = h a) (hg : ∀ i, i ≠ a → g i = h i) : ((List.range n).map g).set a x = (List.range n).map h := by
  apply List.ext_getElem
  · simp
  · intro i h1 h2
    rw [List.getElem_set]
    by_cases e : a = i
    · subst e; rw [if_pos rfl, hx]; simp
    · rw [if_neg e]; simp [hg i (Ne.symm e)]
/-- What each gets, one more for those in l. -/
def outAt (base : Nat → Int) (n : Nat) (l : List Int) : List Int := (List.range n).map fun i : Nat => base i + if (i : Int) ∈ l then 1 else 0
/-- What is over of each in l; -1. -/
def restAt (key : Nat → Int) (n : Nat) (l : List Int) : List Int := (List.range n).map fun i : Nat => if (i : Int) ∈ l then key i else -1
theorem outAt_set (base : Nat → Int) (n : Nat) (l : List Int) (a : Nat) (ha : a < n) (hl : (a : Int) ∉ l) : (outAt base n l).set a (rd (outAt base n l) (a : Int) + 1) = outAt base n (l ++ [(a : Int)]) := by
  unfold outAt
  refine map_set n _ _ a _ ?_ ?_
  · rw [rd_map n _ a ha, if_neg hl, if_pos (by simp)]
    omega
  · intro i hi
    have : ((i : Int) ∈ l ++ [(a : Int)]) ↔ (i : Int) ∈ l := by
      rw [List.mem_append, List.mem_singleton]
      exact ⟨fun h => h.elim id (fun e => absurd (Int.ofNat.inj e) hi), .inl⟩
    simp only [this]
theorem restAt_set (key : Nat → Int) (n : Nat) (l : List Int) (a : Nat) (hl : (a : Int) ∉ l) : (restAt key n ((a : Int) :: l)).set a (-1) = restAt key n l := by
  unfold restAt
  refine map_set n _ _ a _ ?_ ?_
  · rw [if_neg hl]
  · intro i hi
    have : ((i : Int) ∈ (a : Int) :: l) ↔ (i : Int) ∈ l := by
      rw [List.mem_cons]
      exact ⟨fun h => h.elim (fun e => absurd (Int.ofNat.inj e) hi) id, .inr⟩
    simp only [this]
/-- The best of the first i. -/
def Best (rests : List Int) (i : Nat) (b : Int) : Prop := (b = -1 ∧ ∀ j : Nat, j < i → rd rests (j : Int) < 0) ∨ ∃ a : Nat, b = (a : Int) ∧ a < i ∧ 0 ≤ rd rests (a : Int) ∧ ∀ j : Nat, j < i → 0 ≤ rd rests (j : Int) → rd rests (j : Int) < rd rests (a : Int) ∨ rd rests (j : Int) = rd rests (a : Int) ∧ a ≤ j
theorem best_l2 (out rests : List Int) (left : Int) (hl : rests.length ≤ 16) : ∀ (d i : Nat) (b : Int), i + d = rests.length → Best rests i b → ∃ b', Best rests rests.length b' ∧ ∀ k, spec_DealOf.l2 (k + d + 1) out left rests b (i : Int) = (if b' < 0 then (some out) else (if 0 ≤ b' then (if b' < (out.length : Int) then (if b' < (rests.length : Int) then (spec_DealOf.l1 k (out.set (b' : Int).toNat (wrap64 ((rd out b') + 1))) (wrap64 (left - 1)) (rests.set (b' : Int).toNat (-1))) else (none)) else (none)) else (none)))
  | 0, i, b, hi, hb => by
    obtain rfl : i = rests.length := by omega
    refine ⟨b, hb, fun k => ?_⟩
    rw [Nat.add_zero, spec_DealOf.l2, if_neg (by omega)]
  | d + 1, i, b, hi, hb => by
    have h1 : (i : Int) < (rests.length : Int) := by omega
    have h2 : (0 : Int) ≤ i := by omega
    have e9 : wrap64 ((i : Int) + 1) = ((i + 1 : Nat) : Int) := by rw [w64 (by omega) (by omega)]; rfl
    have hstep : ∀ k, spec_DealOf.l2 (k + (d + 1) + 1) out left rests b (i : Int) = (if (rd rests (i : Int)) ≥ 0 then (if b < 0 then (spec_DealOf.l2 (k + d + 1) out left rests (i : Int) ((i + 1 : Nat) : Int)) else (if 0 ≤ b then (if b < (rests.length : Int) then (if (rd rests (i : Int)) > (rd rests b) then (spec_DealOf.l2 (k + d + 1) out left rests (i : Int) ((i + 1 : Nat) : Int)) else (spec_DealOf.l2 (k + d + 1) out left rests b ((i + 1 : Nat) : Int))) else (none)) else (none))) else (spec_DealOf.l2 (k + d + 1) out left rests b ((i + 1 : Nat) : Int))) := fun k => by
      rw [show k + (d + 1) + 1 = (k + d + 1) + 1 by omega, spec_DealOf.l2, if_pos h1, if_pos h2, e9]
    by_cases c : rd rests (i : Int) ≥ 0
    · rcases hb with ⟨rfl, hb⟩ | ⟨a, rfl, ha, hb1, hb2⟩
      · obtain ⟨b', q1, q2⟩ := best_l2 out rests left hl d (i + 1) (i : Int) (by omega) (.inr ⟨i, rfl, by omega, c, fun j hj h0 => by
          by_cases e : j = i
          · subst e; exact .inr ⟨rfl, Nat.le_refl _⟩
          · have := hb j (by omega); omega⟩)
        exact ⟨b', q1, fun k => by rw [hstep, if_pos c, if_pos (by decide)]; exact q2 k⟩
      · by_cases c2 : rd rests (i : Int) > rd rests (a : Int)
        · obtain ⟨b', q1, q2⟩ := best_l2 out rests left hl d (i + 1) (i : Int) (by omega) (.inr ⟨i, rfl, by omega, c, fun j hj h0 => by
            by_cases e : j = i
            · subst e; exact .inr ⟨rfl, Nat.le_refl _⟩
            · have := hb2 j (by omega) h0; omega⟩)
          exact ⟨b', q1, fun k => by rw [hstep, if_pos c, if_neg (by omega), if_pos (by omega), if_pos (by omega), if_pos c2]; exact q2 k⟩
        · obtain ⟨b', q1, q2⟩ := best_l2 out rests left hl d (i + 1) (a : Int) (by omega) (.inr ⟨a, rfl, by omega, hb1, fun j hj h0 => by
            by_cases e : j = i
            · subst e; omega
            · exact hb2 j (by omega) h0⟩)
          exact ⟨b', q1, fun k => by rw [hstep, if_pos c, if_neg (by omega), if_pos (by omega), if_pos (by omega), if_neg c2]; exact q2 k⟩
    · obtain ⟨b', q1, q2⟩ := best_l2 out rests left hl d (i + 1) b (by omega) (by
        rcases hb with ⟨e, hb⟩ | ⟨a, e, ha, hb1, hb2⟩
        · exact .inl ⟨e, fun j hj => by
            by_cases e : j = i
            · subst e; omega
            · exact hb j (by omega)⟩
        · exact .inr ⟨a, e, by omega, hb1, fun j hj h0 => by
            by_cases e : j = i
            · subst e; omega
            · exact hb2 j (by omega) h0⟩)
      exact ⟨b', q1, fun k => by rw [hstep, if_neg c]; exact q2 k⟩
/-- Each goes before those behind it. -/
def Ordered (key : Nat → Int) (n : Nat) (s : List Int) : Prop := (∀ x ∈ s, ∃ a : Nat, x = (a : Int) ∧ a < n ∧ 0 ≤ key a) ∧ s.Pairwise fun x y => key y.toNat < key x.toNat ∨ key y.toNat = key x.toNat ∧ x < y
theorem Ordered.nodup {key : Nat → Int} {n : Nat} {s : List Int} (h : Ordered key n s) : s.Nodup := List.Pairwise.imp (fun h e => by subst e; omega) h.2
theorem Ordered.tail {key : Nat → Int} {n : Nat} {x : Int} {s : List Int} (h : Ordered key n (x :: s)) : Ordered key n s := ⟨fun y hy => h.1 y (List.mem_cons_of_mem _ hy), (List.pairwise_cons.mp h.2).2⟩
/-- The best is the first. -/
theorem best_first (key : Nat → Int) (n : Nat) (x : Int) (l : List Int) (h : Ordered key n (x :: l)) (b : Int) (hb : Best (restAt key n (x :: l)) n b) : b = x := by
  obtain ⟨a, rfl, ha, hka⟩ := h.1 x List.mem_cons_self
  have hra : rd (restAt key n ((a : Int) :: l)) (a : Int) = key a := by
    unfold restAt
    rw [rd_map n _ a ha, if_pos List.mem_cons_self]
  rcases hb with ⟨_, hb⟩ | ⟨c, rfl, hc, hb1, hb2⟩
  · have := hb a ha
    omega
  · have hrc : rd (restAt key n ((a : Int) :: l)) (c : Int) = if (c : Int) ∈ (a : Int) :: l then key c else -1 := by
      unfold restAt
      rw [rd_map n _ c hc]
    by_cases hm : (c : Int) ∈ (a : Int) :: l
    · rw [if_pos hm] at hrc
      have h1 := hb2 a ha (by omega)
      rcases List.mem_cons.mp hm with e | hm
      · exact e
      · have h2 := (List.pairwise_cons.mp h.2).1 _ hm
        simp only [Int.toNat_natCast] at h2
        rw [hra, hrc] at h1
        omega
    · rw [if_neg hm] at hrc
      omega
theorem best_none (key : Nat → Int) (n : Nat) (b : Int) (hb : Best (restAt key n []) n b) : b = -1 := by
  rcases hb with ⟨e, _⟩ | ⟨c, rfl, hc, hb1, _⟩
  · exact e
  · unfold restAt at hb1
    rw [rd_map n _ c hc, if_neg (by simp)] at hb1
    omega
theorem restAt_length (key : Nat → Int) (n : Nat) (l : List Int) : (restAt key n l).length = n := by simp [restAt]
theorem outAt_length (base : Nat → Int) (n : Nat) (l : List Int) : (outAt base n l).length = n := by simp [outAt]
/-- How many get one more. -/
def more (left : Int) (n : Nat) : Nat := (mx 0 (mn left (n : Int))).toNat
theorem more_eq (left : Int) (n : Nat) : (more left n : Int) = if left ≤ 0 then 0 else if left ≤ (n : Int) then left else (n : Int) := by
  unfold more mx mn
  repeat' split
  all_goals omega
theorem deal_spec_l1 (base key : Nat → Int) (n : Nat) (hn : n ≤ 16) (hbase : ∀ i, -1000000 ≤ base i ∧ base i ≤ 1000000) : ∀ (l taken : List Int) (left : Int), Ordered key n l → (∀ x ∈ l, x ∉ taken) → left ≤ 1000000 → ∃ K, ∀ k, K ≤ k → spec_DealOf.l1 k (outAt base n taken) left (restAt key n l) = some (outAt base n (taken ++ l.take (more left l.length)))
  | l, taken, left, ho, hd, hleft => by
    by_cases hpos : left > 0
    · obtain ⟨b, hb, hk⟩ := best_l2 (outAt base n taken) (restAt key n l) left (by rw [restAt_length]; exact hn) n 0 (-1) (by rw [restAt_length]; omega) (.inl ⟨rfl, fun j hj => by omega⟩)
      rw [restAt_length] at hb
      match l, ho, hd with
      | [], _, _ =>
        have := best_none key n b hb
        subst this
        refine ⟨n + 2, fun k hkk => ?_⟩
        obtain ⟨k, rfl⟩ : ∃ m, k = m + n + 1 + 1 := ⟨k - n - 2, by omega⟩
        have h0 := hk k
        rw [show ((0 : Nat) : Int) = 0 from rfl, if_pos (by decide)] at h0
        rw [spec_DealOf.l1, if_pos hpos, h0]
        simp
      | x :: l, ho, hd =>
        have hbx := best_first key n x l ho b hb
        subst hbx
        obtain ⟨a, rfl, ha, hka⟩ := ho.1 b List.mem_cons_self
        have hnd := List.nodup_cons.mp ho.nodup
        have hout : (outAt base n taken).set a (rd (outAt base n taken) (a : Int) + 1) = outAt base n (taken ++ [(a : Int)]) := outAt_set base n taken a ha (hd _ List.mem_cons_self)
        have hrest := restAt_set key n l a hnd.1
        have hrdb : rd (outAt base n taken) (a : Int) = base a := by
          unfold outAt
          rw [rd_map n _ a ha, if_neg (hd _ List.mem_cons_self), Int.add_zero]
        have hba := hbase a
        obtain ⟨K, h⟩ := deal_spec_l1 base key n hn hbase l (taken ++ [(a : Int)]) (left - 1) ho.tail (fun y hy => by
          rw [List.mem_append, List.mem_singleton]
          rintro (e | e)
          · exact hd y (List.mem_cons_of_mem _ hy) e
          · subst e; exact hnd.1 hy) (by omega)
        refine ⟨K + n + 2, fun k hkk => ?_⟩
        obtain ⟨k, rfl⟩ : ∃ m, k = m + n + 1 + 1 := ⟨k - n - 2, by omega⟩
        have h0 := hk k
        rw [show ((0 : Nat) : Int) = 0 from rfl, if_neg (by omega), if_pos (by omega), if_pos (by rw [outAt_length]; omega), if_pos (by rw [restAt_length]; omega), Int.toNat_natCast, w64 (by omega) (by omega), w64 (by omega) (by omega), hout, hrest, h k (by omega)] at h0
        rw [spec_DealOf.l1, if_pos hpos, h0]
        have hm : more left ((a : Int) :: l).length = more (left - 1) l.length + 1 := by
          have h1 := more_eq left ((a : Int) :: l).length
          have h2 := more_eq (left - 1) l.length
          simp only [List.length_cons] at h1 ⊢
          repeat' split at h1
          all_goals repeat' split at h2
          all_goals omega
        rw [hm, List.take_succ_cons, List.append_assoc, List.singleton_append]
    · refine ⟨1, fun k hkk => ?_⟩
      obtain ⟨k, rfl⟩ : ∃ m, k = m + 1 := ⟨k - 1, by omega⟩
      have hm : more left l.length = 0 := by
        have h1 := more_eq left l.length
        rw [if_pos (by omega)] at h1
        omega
      rw [spec_DealOf.l1, if_neg hpos, hm]
      simp
theorem deal_impl_l1 (base : Nat → Int) (n : Nat) (hbase : ∀ i, -1000000 ≤ base i ∧ base i ≤ 1000000) (y : List Int) (hy : ∀ x ∈ y, ∃ a : Nat, x = (a : Int) ∧ a < n) (hyn : y.Nodup) (hyl : y.length ≤ 16) : ∀ (d i : Nat), i + d = y.length → ∃ K, ∀ k, K ≤ k → impl_DealOf.l1 k (outAt base n (y.take i)) y (y.length : Int) (i : Int) = some (outAt base n y)
  | 0, i, hi => by
    refine ⟨1, fun k hk => ?_⟩
    obtain ⟨k, rfl⟩ : ∃ m, k = m + 1 := ⟨k - 1, by omega⟩
    rw [impl_DealOf.l1, if_neg (by omega), List.take_of_length_le (by omega)]
  | d + 1, i, hi => by
    have hlt : i < y.length := by omega
    obtain ⟨a, ea, ha⟩ := hy y[i] (List.getElem_mem hlt)
    have hrd : rd y (i : Int) = (a : Int) := by rw [rd_get y i hlt, ea]
    have hts : y.take (i + 1) = y.take i ++ [(a : Int)] := by rw [List.take_succ_eq_append_getElem hlt, ea]
    have hnot : (a : Int) ∉ y.take i := by
      rw [← ea]
      intro hm
      obtain ⟨j, hj, e⟩ := List.getElem_of_mem hm
      rw [List.length_take] at hj
      rw [List.getElem_take] at e
      have := List.pairwise_iff_getElem.mp hyn j i (by omega) hlt (by omega)
      exact this e
    have hrdb : rd (outAt base n (y.take i)) (a : Int) = base a := by
      unfold outAt
      rw [rd_map n _ a ha, if_neg hnot, Int.add_zero]
    have hba := hbase a
    have hout := outAt_set base n (y.take i) a ha hnot
    have e9 : wrap64 ((i : Int) + 1) = ((i + 1 : Nat) : Int) := by rw [w64 (by omega) (by omega)]; rfl
    obtain ⟨K, h⟩ := deal_impl_l1 base n hbase y hy hyn hyl d (i + 1) (by omega)
    refine ⟨K + 1, fun k hk => ?_⟩
    obtain ⟨k, rfl⟩ : ∃ m, k = m + 1 := ⟨k - 1, by omega⟩
    rw [impl_DealOf.l1, if_pos (by omega), if_pos (by omega), if_pos (by omega), hrd, if_pos (by omega), if_pos (by rw [outAt_length]; omega), Int.toNat_natCast, w64 (by omega) (by omega), hout, ← hts, e9]
    exact h k (by omega)
end Go.Proofs.Ytngoejcaabgidaa.Pure
