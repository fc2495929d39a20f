/- DealOf: what the program and the reference answer. -/
import Derived.Test.YtngoejcaabgidaaPd6
import Derived.Test.YtngoejcaabgidaaQ9
import Derived.Test.YtngoejcaabgidaaQ10
set_option linter.unusedSimpArgs false
namespace Go.Proofs.Ytngoejcaabgidaa.Pure
open Go.RowKit Go.Proofs.Ytngoejcaabgidaa.Q Go.Proofs.YtngoejcaabgidaaW.PrintWords Go.Proofs.YtngoejcaabgidaaW.PrintLast Go.Proofs.YtngoejcaabgidaaW.PrintMore
/-- The places, sorted. -/
def sortD (w : List Int) (f : List Bool) (R D : Int) : List Int := stabQ (fun x => restQ R w D (clampQ w.length x)) (plcD w f w.length 0)
theorem key_eq (w : List Int) (R D : Int) (hw : Small w) (hR : 0 ≤ R ∧ R ≤ 160000) (a : Nat) (ha : a < w.length) : restQ R w D (clampQ w.length (a : Int)) = keyD w R D a := by
  have hp := prod_bound w R hw hR a
  unfold restQ clampQ keyD
  rw [if_pos (by omega), w64 (by omega) (by omega)]
theorem sortD_spec (w : List Int) (f : List Bool) (R D : Int) (hw : Small w) (hR : 0 ≤ R ∧ R ≤ 160000) : (sortD w f R D).Perm (plcD w f w.length 0) ∧ Ordered (keyD w R D) w.length (sortD w f R D) := by
  have hasc := plcD_asc w f w.length 0
  have hmem := plcD_mem w f w.length 0
  have hmono : ∀ p q, p < q → q < (plcD w f w.length 0).toArray.size → ((plcD w f w.length 0).toArray[p]!).toNat < ((plcD w f w.length 0).toArray[q]!).toNat := by
    intro p q hpq hq
    have hq' : q < (plcD w f w.length 0).length := by simpa using hq
    have h1 := List.pairwise_iff_getElem.mp hasc p q (by omega) hq' hpq
    obtain ⟨a, ea, _⟩ := (hmem _).mp (List.getElem_mem (show p < (plcD w f w.length 0).length by omega))
    rw [getElem!_pos _ p (by simp; omega), getElem!_pos _ q hq]
    simp only [List.getElem_toArray]
    omega
  obtain ⟨h1, h2⟩ := insertionSort_key (fun x => restQ R w D (clampQ w.length x)) Int.toNat (plcD w f w.length 0).toArray hmono
  have e : (Go.Sort.insertionSort (byKey (fun x => restQ R w D (clampQ w.length x))) (plcD w f w.length 0).toArray 0 (plcD w f w.length 0).toArray.size).toList = sortD w f R D := by
    unfold sortD stabQ
    rw [List.size_toArray]
    rfl
  rw [e] at h1 h2
  have hin : ∀ x ∈ sortD w f R D, ∃ a : Nat, x = (a : Int) ∧ a < w.length := fun x hx => by
    obtain ⟨a, ea, _, h, _⟩ := (hmem x).mp (h1.mem_iff.mp hx)
    exact ⟨a, ea, by omega⟩
  refine ⟨h1, fun x hx => ?_, ?_⟩
  · obtain ⟨a, ea, ha⟩ := hin x hx
    exact ⟨a, ea, ha, Int.tmod_nonneg D (prod_bound w R hw hR a).1⟩
  · refine List.Pairwise.imp_of_mem (fun {x y} hx hy h => ?_) h2
    obtain ⟨a, rfl, ha⟩ := hin x hx
    obtain ⟨b, rfl, hb⟩ := hin y hy
    rw [key_eq w R D hw hR a ha, key_eq w R D hw hR b hb] at h
    simp only [Int.toNat_natCast] at h ⊢
    omega
/-- What DealOf answers. -/
def dealL (w r : List Int) (t : Int) : List Int := if DOk w r t = true then outAt (baseD w r (fullL w r t) (left2 w r t (fullL w r t)).1 (left2 w r t (fullL w r t)).2) w.length ((sortD w (fullL w r t) (left2 w r t (fullL w r t)).1 (left2 w r t (fullL w r t)).2).take (more ((left2 w r t (fullL w r t)).1 - qsumD w (fullL w r t) (left2 w r t (fullL w r t)).1 (left2 w r t (fullL w r t)).2 w.length 0) (sortD w (fullL w r t) (left2 w r t (fullL w r t)).1 (left2 w r t (fullL w r t)).2).length)) else []
theorem dealL_le (w r : List Int) (t : Int) : (dealL w r t).length ≤ 16 := by
  unfold dealL
  split
  · rename_i h
    rw [outAt_length]
    exact (DOk_len w r t h).2.1
  · simp
theorem outAt_nil (base : Nat → Int) (n : Nat) : outAt base n [] = (List.range n).map base := by
  unfold outAt
  exact List.map_congr_left fun i _ => by simp
section
variable (w r : List Int) (f : List Bool) (R D : Int) (hw : Small w) (hr : Small r) (hl : w.length = r.length) (hf : f.length = w.length) (hn : w.length ≤ 16) (hR : 0 ≤ R ∧ R ≤ 160000) (hD : ∀ j : Nat, j < w.length → rdOf false f (j : Int) ≠ true → rd w (j : Int) ≤ D) (hD2 : D ≤ 160000)
include hw hR
theorem over_rest : (List.range w.length).map (overD w f R D) = restAt (keyD w R D) w.length (sortD w f R D) := by
  obtain ⟨hp, _⟩ := sortD_spec w f R D hw hR
  unfold restAt
  refine List.map_congr_left fun i hi => ?_
  have hi' := List.mem_range.mp hi
  have hiff : (i : Int) ∈ sortD w f R D ↔ rdOf false f (i : Int) ≠ true ∧ rd w (i : Int) > 0 := by
    rw [hp.mem_iff, plcD_mem]
    constructor
    · rintro ⟨a, e, _, _, h⟩
      obtain rfl : i = a := Int.ofNat.inj e
      exact h
    · rintro h
      exact ⟨i, rfl, Nat.zero_le _, by omega, h⟩
  unfold overD
  by_cases c : rdOf false f (i : Int) = true
  · rw [if_pos c, if_neg (fun h => (hiff.mp h).1 c)]
  · rw [if_neg c]
    by_cases c2 : rd w (i : Int) > 0
    · rw [if_pos c2, if_pos (hiff.mpr ⟨c, c2⟩)]
    · rw [if_neg c2, if_neg (fun h => c2 (hiff.mp h).2)]
include hD hD2
theorem qsum_bound : ∀ d i, i + d ≤ w.length → 0 ≤ qsumD w f R D d i ∧ qsumD w f R D d i ≤ 160000 * d := by
  intro d
  induction d with
  | zero => intro i _; simp [qsumD]
  | succ d ih =>
    intro i hi
    have h := ih (i + 1) (by omega)
    unfold qsumD
    by_cases c : rdOf false f (i : Int) = true
    · rw [if_pos c]; omega
    · rw [if_neg c]
      by_cases c2 : rd w (i : Int) > 0
      · rw [if_pos c2]
        have := share_bound w f R D hw hR hD hD2 i (by omega) c c2
        omega
      · rw [if_neg c2]; omega
include hr hl hf hn
theorem spec_deal : ∃ K, ∀ k, K ≤ k → spec_DealOf.l0 k w r [] f R D R [] 0 = some (outAt (baseD w r f R D) w.length ((sortD w f R D).take (more (R - qsumD w f R D w.length 0) (sortD w f R D).length))) := by
  have hq := qsum_bound w f R D hw hR hD hD2 w.length 0 (by omega)
  have hb : ∀ i, -1000000 ≤ (fun i => if i < w.length then baseD w r f R D i else 0) i ∧ (fun i => if i < w.length then baseD w r f R D i else 0) i ≤ 1000000 := fun i => by
    show -1000000 ≤ (if i < w.length then baseD w r f R D i else 0) ∧ (if i < w.length then baseD w r f R D i else 0) ≤ 1000000
    by_cases c : i < w.length
    · rw [if_pos c]
      have := base_bound w r f R D hw hr hR hD hD2 i c
      omega
    · rw [if_neg c]; omega
  have hcut : ∀ l, outAt (fun i => if i < w.length then baseD w r f R D i else 0) w.length l = outAt (baseD w r f R D) w.length l := fun l => by
    unfold outAt
    exact List.map_congr_left fun i hi => by dsimp only; rw [if_pos (List.mem_range.mp hi)]
  obtain ⟨_, ho⟩ := sortD_spec w f R D hw hR
  obtain ⟨K, h⟩ := deal_spec_l1 (fun i => if i < w.length then baseD w r f R D i else 0) (keyD w R D) w.length hn hb (sortD w f R D) [] (R - qsumD w f R D w.length 0) ho (fun x _ => by simp) (by omega)
  refine ⟨K + w.length + 1, fun k hk => ?_⟩
  obtain ⟨k, rfl⟩ : ∃ m, k = m + w.length + 1 := ⟨k - w.length - 1, by omega⟩
  have h0 := spec_deal_l0 w r f R D hw hr hl hf hn hR hD hD2 w.length 0 k R (by omega) (by omega) (by omega)
  rw [show ((0 : Nat) : Int) = 0 from rfl] at h0
  have h1 := h k (by omega)
  rw [List.nil_append, hcut, hcut, outAt_nil, ← over_rest w f R D hw hR] at h1
  have e : (List.range 0).map (baseD w r f R D) = [] := rfl
  have e2 : (List.range 0).map (overD w f R D) = [] := rfl
  rw [e, e2] at h0
  rw [h0]
  exact h1
theorem impl_deal (t : Int) (ht : 0 ≤ t ∧ t ≤ 160000) (hRt : R = t - sumF r f w.length 0) : ∃ K, ∀ k, K ≤ k → impl_DealOf.l0 k r f (List.replicate w.length 0) [] t (w.length : Int) 0 w R D = some (outAt (baseD w r f R D) w.length ((sortD w f R D).take (more (R - qsumD w f R D w.length 0) (sortD w f R D).length))) := by
  have hpl := plcD_len w f w.length 0
  obtain ⟨hp, ho⟩ := sortD_spec w f R D hw hR
  have hlen := hp.length_eq
  have hb : ∀ i, -1000000 ≤ (fun i => if i < w.length then baseD w r f R D i else 0) i ∧ (fun i => if i < w.length then baseD w r f R D i else 0) i ≤ 1000000 := fun i => by
    show -1000000 ≤ (if i < w.length then baseD w r f R D i else 0) ∧ (if i < w.length then baseD w r f R D i else 0) ≤ 1000000
    by_cases c : i < w.length
    · rw [if_pos c]
      have := base_bound w r f R D hw hr hR hD hD2 i c
      omega
    · rw [if_neg c]; omega
  have hcut : ∀ l, outAt (fun i => if i < w.length then baseD w r f R D i else 0) w.length l = outAt (baseD w r f R D) w.length l := fun l => by
    unfold outAt
    exact List.map_congr_left fun i hi => by dsimp only; rw [if_pos (List.mem_range.mp hi)]
  have hcond : (∀ x ∈ plcD w f w.length 0, 0 ≤ x ∧ x < (w.length : Int)) ∧ (0 < (plcD w f w.length 0).length → 0 < D ∧ D ≤ 4611686018427387904) ∧ (plcD w f w.length 0).length < 20 := by
    refine ⟨fun x hx => ?_, fun h => ?_, by omega⟩
    · obtain ⟨a, e, _, h, _⟩ := (plcD_mem w f w.length 0 x).mp hx
      omega
    · have hne : ∃ x, x ∈ plcD w f w.length 0 := by
        match hq : plcD w f w.length 0, h with
        | x :: _, _ => exact ⟨x, List.mem_cons_self⟩
      obtain ⟨x, hx⟩ := hne
      obtain ⟨a, e, _, h1, h2, h3⟩ := (plcD_mem w f w.length 0 x).mp hx
      have := share_bound w f R D hw hR hD hD2 a (by omega) h2 h3
      omega
  have hhof : hof_DealOf.f (plcD w f w.length 0) R w D = some (sortD w f R D) := by
    unfold hof_DealOf.f
    rw [if_pos hcond]
    rfl
  have hrest : t - bsumD w r f R D w.length 0 = R - qsumD w f R D w.length 0 := by
    rw [bsum_eq, hRt]
    omega
  obtain ⟨K, h⟩ := deal_impl_l1 (fun i => if i < w.length then baseD w r f R D i else 0) w.length hb ((sortD w f R D).take (more (R - qsumD w f R D w.length 0) (sortD w f R D).length)) (fun x hx => by
      obtain ⟨a, e, ha, _⟩ := ho.1 x (List.mem_of_mem_take hx)
      exact ⟨a, e, ha⟩) (List.Pairwise.sublist (List.take_sublist _ _) ho.nodup) (by rw [List.length_take]; omega) _ 0 (Nat.zero_add _)
  refine ⟨K + w.length + 1, fun k hk => ?_⟩
  obtain ⟨k, rfl⟩ : ∃ m, k = m + w.length + 1 := ⟨k - w.length - 1, by omega⟩
  have h0 := impl_deal_l0 w r f R D hw hr hl hf hn hR hD hD2 w.length 0 k [] t (by omega) (Nat.le_refl _) (by omega) (by omega)
  have hz : ((List.range w.length).map fun j => if j < 0 then baseD w r f R D j else 0) = List.replicate w.length 0 := by
    apply List.ext_getElem
    · simp
    · intro i h1 h2; simp
  have hm := more_eq (R - qsumD w f R D w.length 0) (sortD w f R D).length
  have hmx : mx 0 (mn (R - qsumD w f R D w.length 0) ((plcD w f w.length 0).length : Int)) = (more (R - qsumD w f R D w.length 0) (sortD w f R D).length : Int) := by
    rw [hm, hlen]
    unfold mx mn
    repeat' split
    all_goals omega
  rw [show ((0 : Nat) : Int) = 0 from rfl, hz, List.nil_append, hhof, hrest, Option.bind_some, hmx, if_pos (by omega), if_pos (by rw [hm, ← hlen]; repeat' split; all_goals omega), Option.bind_some, Int.toNat_natCast] at h0
  have h1 := h k (by omega)
  rw [List.take_zero, hcut, hcut, outAt_nil, show ((0 : Nat) : Int) = 0 from rfl] at h1
  rw [h0]
  exact h1
end
theorem deal_ev (w r : List Int) (t : Int) (hwl : w.length ≤ 1048576) (hrl : r.length ≤ 1048576) : ∃ K, ∀ k, K ≤ k → spec_DealOf.f k w r t = some (dealL w r t) ∧ impl_DealOf.f k w r t = some (dealL w r t) := by
  obtain ⟨K1, h1⟩ := specFull_ev w r t hwl hrl
  obtain ⟨K2, h2⟩ := implFull_ev w r t hwl
  have h3 := fun k hk => specDealOk_ev w r t hwl hrl k hk
  have h4 := fun k hk => implDealOk_ev w r t hwl k hk
  by_cases hd : DOk w r t = true
  · obtain ⟨hw, hr, hl, hn, ht0, ht1, hR0, hR1⟩ := DOk_facts w r t hd
    have hf := fullL_length w r t hd
    have hN := sumN_bound w hw (fullL w r t) w.length 0
    have hD : ∀ j : Nat, j < w.length → rdOf false (fullL w r t) (j : Int) ≠ true → rd w (j : Int) ≤ (left2 w r t (fullL w r t)).2 := fun j hj hc => sumN_one w hw _ w.length 0 j (Nat.zero_le _) (by omega) hc
    have hD2 : (left2 w r t (fullL w r t)).2 ≤ 160000 := by show sumN w (fullL w r t) w.length 0 ≤ 160000; omega
    obtain ⟨K3, q1⟩ := spec_deal w r (fullL w r t) _ _ hw hr hl hf hn ⟨hR0, hR1⟩ hD hD2
    obtain ⟨K4, q2⟩ := impl_deal w r (fullL w r t) _ _ hw hr hl hf hn ⟨hR0, hR1⟩ hD hD2 t ⟨ht0, ht1⟩ rfl
    have hrest := restL_left2 w r hw hr t ⟨ht0, by omega⟩ hn (fullL w r t)
    refine ⟨K1 + K2 + K3 + K4 + w.length + r.length + 3, fun k hk => ?_⟩
    have e1 := specRest_l0 w r (fullL w r t) hl.symm hf hn w.length 0 k t 0 (by omega) (by omega)
    have e2 := implLeft_l0 w r (fullL w r t) hl.symm hf hn w.length 0 k t 0 (by omega) (by omega)
    rw [hrest, show ((0 : Nat) : Int) = 0 from rfl] at e1 e2
    unfold dealL
    rw [if_pos hd]
    constructor
    · unfold spec_DealOf.f
      rw [Option.bind_some, h3 k (by omega), Option.bind_some, if_pos hd, h1 k (by omega), Option.bind_some]
      unfold spec_l18Rest.f
      rw [e1, Option.bind_some]
      exact q1 k (by omega)
    · unfold impl_DealOf.f
      rw [h4 k (by omega), Option.bind_some, if_pos hd, h2 k (by omega), Option.bind_some]
      unfold impl_left.f
      rw [e2, Option.bind_some, if_pos (by omega), if_pos (by omega), Option.bind_some, Int.toNat_natCast, List.length_replicate]
      exact q2 k (by omega)
  · refine ⟨K1 + K2 + w.length + r.length + 3, fun k hk => ?_⟩
    unfold dealL spec_DealOf.f impl_DealOf.f
    rw [if_neg hd, Option.bind_some, h3 k (by omega), h4 k (by omega), Option.bind_some, Option.bind_some, if_neg hd, if_neg hd]
    exact ⟨rfl, rfl⟩
end Go.Proofs.Ytngoejcaabgidaa.Pure
