/- A joint step of drawn robots is taken back with as many moves; to stay takes none. -/
import Derived.Test.YtooofofeihkpcaaPAllFnJointSteps
import Derived.Test.YtooofofeihkpcaaQ8
import Derived.Test.YtooofofeihkpcaaQ5
import Derived.Test.YtooofofeihkpcaaQ7
set_option linter.unusedSimpArgs false
namespace Go.Proofs.Ytooofofeihkpcaa.Pure
open Go.RowKit Go.Proofs.Ytooofofeihkpcaa.Q Go.Proofs.YtooofofeihkpcaaW.PrintWords Go.Proofs.YtooofofeihkpcaaW.PrintLast
theorem same_l0 (x : List Int) (hx : x.length ≤ 1000) : ∀ (d i k : Nat), i + d = x.length → d < k → laws_sameInts.l0 k x x (i : Int) = some true
  | 0, i, k, hi, hk => by
    obtain ⟨k, rfl⟩ : ∃ m, k = m + 1 := ⟨k - 1, by omega⟩
    rw [laws_sameInts.l0, if_neg (by omega)]
  | d + 1, i, k, hi, hk => by
    obtain ⟨k, rfl⟩ : ∃ m, k = m + 1 := ⟨k - 1, by omega⟩
    have e9 : wrap64 ((i : Int) + 1) = ((i + 1 : Nat) : Int) := by rw [w64 (by omega) (by omega)]; rfl
    rw [laws_sameInts.l0, if_pos (by omega), if_pos (by omega), if_pos (by omega), if_pos rfl, e9]
    exact same_l0 x hx d (i + 1) k (by omega) (by omega)
theorem FnJointSteps : laws_FnJointSteps.Pure := by
  intro l _ _ _
  by_cases hbig : l.length ≤ 1048576
  · obtain ⟨a, b, g, st, w, K1, h1, hG, g9, n1, n3, hF, hA⟩ := drawSmall_ev l hbig
    obtain ⟨P, K2, h2, p1, p2⟩ := places_ev l hbig
    have hfl : (frees a b g).length ≤ 9 := by
      have := fr_len g g.size 0
      unfold frees
      rw [if_pos hG]
      omega
    obtain ⟨K3, h3⟩ := stands_evI a b g (by omega) st.length hfl n1 n3
    have hmem := standsF_has (frees a b g) st st.length n1 n3 rfl hF hA
    have hok := standsF_ok (frees a b g) st.length n1 n3
    generalize hL : standsF (frees a b g) st.length = L at h3 hmem hok
    have hpos : 0 < L.length := List.length_pos_of_mem hmem
    have x0 : 0 ≤ rd P 0 := p2 _ (by
      rw [show (0 : Int) = ((0 : Nat) : Int) from rfl, rd_get P 0 (by omega)]
      exact List.getElem_mem _)
    have t0 : 0 ≤ Int.tmod (rd P 0) (L.length : Int) := Int.tmod_nonneg _ x0
    have t1 : Int.tmod (rd P 0) (L.length : Int) < (L.length : Int) := Int.tmod_lt_of_pos _ (by omega)
    obtain ⟨J, hJ⟩ := Int.eq_ofNat_of_zero_le t0
    have hBm : rd_L3 L (J : Int) ∈ L := by
      have hJl : J < L.length := by omega
      have : rd_L3 L (J : Int) = L[J] := by simp [rd_L3, hJl]
      rw [this]
      exact List.getElem_mem _
    generalize hB : rd_L3 L (J : Int) = B at hBm
    obtain ⟨b1, b2, b3⟩ := hok B hBm
    have sS := stand_of a b g hG st n1 n3 hF hA
    have sB := stand_of a b g hG B (by omega) (by omega) b2 b3
    obtain ⟨v1, K4, B1, h4⟩ := jstep_ev a b g (by omega) st B sS sB b1.symm
    obtain ⟨v2, K5, B2, h5⟩ := jstep_ev a b g (by omega) B st sB sS b1
    obtain ⟨v3, K6, B3, h6⟩ := jstep_ev a b g (by omega) st st sS sS rfl
    have e12 : v1 = v2 := best_sym _ (adj_sym a b g hG) st B n1 n3 b1.symm hA b3 B1 B2
    have e3 : v3 = 0 := best_self _ (fun _ => .inl rfl) st n1 n3 hA B3
    have c1 : ([] : List Int).length + st.length < 17592186044416 := by rw [List.length_nil]; omega
    have c2 : ([] : List Int).length + B.length < 17592186044416 := by rw [List.length_nil]; omega
    refine ⟨K1 + K2 + K3 + K4 + K5 + K6 + 10, ?_⟩
    unfold laws_FnJointSteps.f laws_big.f
    rw [Option.bind_some, decide_eq_false (by omega), if_neg (by decide), h1 _ (by omega), Option.bind_some]
    dsimp only
    rw [h3 _ (by omega), Option.bind_some, h2 _ (by omega), Option.bind_some, if_neg (by omega), if_pos (by omega), hJ, if_pos (by omega), if_pos (by omega), hB]
    rw [Option.bind_some, if_pos c1, Option.bind_some, if_pos c2, List.nil_append, List.nil_append, h4 _ (by omega), Option.bind_some, Option.bind_some, if_pos c2, Option.bind_some, if_pos c1, List.nil_append, List.nil_append, h5 _ (by omega), Option.bind_some, if_pos e12, Option.bind_some, if_pos c1, Option.bind_some, if_pos c1, List.nil_append, h6 _ (by omega), Option.bind_some, if_pos e3]
    by_cases hv : v1 = 0
    · rw [if_pos hv]
      subst hv
      have hSB := best_zero _ st B n1 n3 b1.symm hA b3 B1
      subst hSB
      unfold laws_sameInts.f
      rw [if_pos rfl]
      have := same_l0 st (by omega) st.length 0 (K1 + K2 + K3 + K4 + K5 + K6 + 10) (by omega) (by omega)
      rw [show ((0 : Nat) : Int) = 0 from rfl] at this
      rw [this, Option.bind_some]
    · rw [if_neg hv]
  · refine ⟨0, ?_⟩
    unfold laws_FnJointSteps.f laws_big.f
    rw [Option.bind_some, decide_eq_true (by omega), if_pos rfl]
end Go.Proofs.Ytooofofeihkpcaa.Pure
