/- The program's SameStands answers what the reference's answers, for all paths. -/
import Derived.Test.YtbcljfbpkmlgpaaPreg
import Derived.Test.YtbcljfbpkmlgpaaPso
import Derived.Test.YtbcljfbpkmlgpaaQ10
set_option linter.unusedSimpArgs false
namespace Go.Proofs.Ytbcljfbpkmlgpaa.Pure
open Go.RowKit Go.Proofs.Ytbcljfbpkmlgpaa.Q Go.Proofs.YtbcljfbpkmlgpaaW.PrintWords Go.Proofs.YtbcljfbpkmlgpaaW.PrintLast
theorem szWayS_more (l : List WL) (a : Int) (h0 : 0 ≤ a) (ha : a ≤ 1048576) (hn : l.length ≤ 9223372036854775807) (hx : ∀ x ∈ l, x.f0.length ≤ 9223372036854775807) : ∃ v K, (∀ k, K ≤ k → laws_szWayS.f k l a = some v) ∧ (0 ≤ v → SzOk (l.map toW)) := by
  by_cases h : (l.length : Int) ≤ a
  · obtain ⟨v, K, hK, hv⟩ := szWayS_l0 l l.length 0 (a - l.length) (by omega) (by omega) (by omega) (by omega) hx
    refine ⟨v, K, fun k hk => ?_, fun h0 => ?_⟩
    · unfold laws_szWayS.f
      rw [w64 (by omega) (by omega), if_neg (by omega)]
      exact hK k hk
    · have := hv h0
      simp only [List.drop_zero] at this
      unfold SzOk
      simp only [List.length_map]
      omega
  · refine ⟨-1, 0, fun k _ => ?_, fun h => absurd h (by decide)⟩
    unfold laws_szWayS.f
    rw [w64 (by omega) (by omega), if_pos (by omega)]
/-- The cells at a time. -/
def stood (l : List WI) (t : Int) : List Int := l.map fun x => rd x.f0 t
theorem stand_l0 (l : List WI) (t : Int) (h0 : 0 ≤ t) (hx : ∀ x ∈ l, t < (x.f0.length : Int)) (hn : l.length ≤ 10) : ∀ (d i : Nat) (acc : List Int), i + d = l.length → acc.length ≤ i → ∃ K, ∀ k, K ≤ k → spec_l13Stand.l0 k l t acc (i : Int) = some (asc (acc ++ stood (l.drop i) t)) ∧ impl_standsAt.l0 k t acc l (l.length : Int) (i : Int) = some (asc (acc ++ stood (l.drop i) t))
  | 0, i, acc, hi, ha => by
    obtain ⟨K, h⟩ := specSorted_ev acc (by omega)
    refine ⟨K + 1, fun k hk => ?_⟩
    obtain ⟨k, rfl⟩ : ∃ m, k = m + 1 := ⟨k - 1, by omega⟩
    have h1 : ¬ (i : Int) < (l.length : Int) := by omega
    rw [List.drop_of_length_le (by omega), stood, List.map_nil, List.append_nil, spec_l13Stand.l0, impl_standsAt.l0, if_neg h1, if_neg h1, h k (by omega), implOrdered_eq acc (by omega)]
    exact ⟨rfl, rfl⟩
  | d + 1, i, acc, hi, ha => by
    have hlt : i < l.length := by omega
    have h1 : (i : Int) < (l.length : Int) := by omega
    have h2 : (0 : Int) ≤ i := by omega
    have h3 := hx l[i] (List.getElem_mem hlt)
    have h5 : acc.length < 17592186044416 := by omega
    have e9 : wrap64 ((i : Int) + 1) = ((i + 1 : Nat) : Int) := by rw [w64 (by omega) (by omega)]; rfl
    obtain ⟨K, h⟩ := stand_l0 l t h0 hx hn d (i + 1) (acc ++ [rd (l[i]).f0 t]) (by omega) (by simp; omega)
    refine ⟨K + 1, fun k hk => ?_⟩
    obtain ⟨k, rfl⟩ : ∃ m, k = m + 1 := ⟨k - 1, by omega⟩
    obtain ⟨q1, q2⟩ := h k (by omega)
    rw [drop_cons l i hlt, stood, List.map_cons, spec_l13Stand.l0, impl_standsAt.l0, if_pos h1, if_pos h1, if_pos h2, if_pos h2, if_pos h1, rdWI_get l i hlt, if_pos h0, if_pos h0, if_pos h3, if_pos h3, if_pos h5, if_pos h5, e9, q1, q2, List.append_assoc, List.singleton_append]
    exact ⟨rfl, rfl⟩
theorem stand_ev (l : List WI) (t : Int) (h0 : 0 ≤ t) (hx : ∀ x ∈ l, t < (x.f0.length : Int)) (hn : l.length ≤ 10) : ∃ K, ∀ k, K ≤ k → spec_l13Stand.f k l t = some (asc (stood l t)) ∧ impl_standsAt.f k l t = some (asc (stood l t)) := by
  obtain ⟨K, h⟩ := stand_l0 l t h0 hx hn l.length 0 [] (by omega) (Nat.zero_le _)
  refine ⟨K, fun k hk => ?_⟩
  have := h k hk
  rw [List.nil_append, List.drop_zero, show ((0 : Nat) : Int) = 0 from rfl] at this
  exact this
theorem equal_l0 (a b : List Int) (hl : a.length = b.length) (hn : a.length ≤ 1048576) : ∀ (d i k : Nat), i + d = a.length → d < k → slices_Equal_int_int.l0 k a b (a.length : Int) (i : Int) = some (decide (a.drop i = b.drop i))
  | 0, i, k, hi, hk => by
    obtain ⟨k, rfl⟩ : ∃ m, k = m + 1 := ⟨k - 1, by omega⟩
    rw [slices_Equal_int_int.l0, if_neg (by omega), List.drop_of_length_le (by omega), List.drop_of_length_le (by omega)]
    rfl
  | d + 1, i, k, hi, hk => by
    obtain ⟨k, rfl⟩ : ∃ m, k = m + 1 := ⟨k - 1, by omega⟩
    have e9 : wrap64 ((i : Int) + 1) = ((i + 1 : Nat) : Int) := by rw [w64 (by omega) (by omega)]; rfl
    rw [slices_Equal_int_int.l0, if_pos (by omega), if_pos (by omega), if_pos (by omega), if_pos (by omega), rd_get a i (by omega), rd_get b i (by omega), drop_cons a i (by omega), drop_cons b i (by omega), e9]
    by_cases h : a[i]'(by omega) = b[i]'(by omega)
    · rw [if_pos h, equal_l0 a b hl hn d (i + 1) k (by omega) (by omega)]
      simp only [h, List.cons.injEq, true_and]
    · rw [if_neg h]
      simp only [List.cons.injEq, h, false_and, decide_false]
theorem equal_eq (a b : List Int) (hn : a.length ≤ 1048576) (k : Nat) (hk : a.length < k) : slices_Equal_int_int.f k a b = some (decide (a = b)) := by
  unfold slices_Equal_int_int.f
  by_cases h : a.length = b.length
  · rw [if_pos (by omega)]
    have := equal_l0 a b h hn a.length 0 k (by omega) hk
    simpa using this
  · rw [if_neg (by omega), decide_eq_false (fun e => h (by rw [e]))]
theorem same_l1 (l m : List WI) (t : Int) (a b : List Int) (hl : a.length = b.length) (hn : a.length ≤ 1048576) : ∀ (d i k : Nat), i + d = a.length → spec_SameStands.l1 (k + d + 1) l m t a b (i : Int) = if a.drop i = b.drop i then spec_SameStands.l0 k l m (wrap64 (t + 1)) else some false
  | 0, i, k, hi => by
    rw [Nat.add_zero, spec_SameStands.l1, if_neg (by omega), List.drop_of_length_le (by omega), List.drop_of_length_le (by omega), if_pos rfl]
  | d + 1, i, k, hi => by
    have e9 : wrap64 ((i : Int) + 1) = ((i + 1 : Nat) : Int) := by rw [w64 (by omega) (by omega)]; rfl
    rw [show k + (d + 1) + 1 = (k + d + 1) + 1 by omega, spec_SameStands.l1, if_pos (by omega), if_pos (by omega), if_pos (by omega), rd_get a i (by omega), rd_get b i (by omega), drop_cons a i (by omega), drop_cons b i (by omega), e9]
    by_cases h : a[i]'(by omega) = b[i]'(by omega)
    · rw [if_pos h, same_l1 l m t a b hl hn d (i + 1) k (by omega)]
      simp only [h, List.cons.injEq, true_and]
    · rw [if_neg h, if_neg (by simp only [List.cons.injEq, h, false_and]; exact fun h => h)]
theorem same_l0 (l m : List WI) (hl : Alev l) (hm : Alev m) (he : len0 l = len0 m) (hz : len0 l ≤ 1048576) : ∀ (d t : Nat), (t : Int) + d = len0 l → ∃ g K, ∀ k, K ≤ k → spec_SameStands.l0 k l m (t : Int) = some g ∧ someT (fun k t => hof_SameStands.p k l m t) k (len0 l) (t : Int) = some (!g)
  | 0, t, ht => by
    refine ⟨true, 1, fun k hk => ?_⟩
    obtain ⟨k, rfl⟩ : ∃ m, k = m + 1 := ⟨k - 1, by omega⟩
    have h0 : (0 : Int) < (l.length : Int) := by have := hl.1; omega
    have h1 : ¬ (t : Int) < len0 l := by omega
    have h2 : ¬ (t : Int) < ((rd_T42 l 0).f0.length : Int) := h1
    rw [spec_SameStands.l0, if_pos h0, if_neg h2, someT, if_neg h1]
    exact ⟨rfl, rfl⟩
  | d + 1, t, ht => by
    have h0 : (0 : Int) < (l.length : Int) := by have := hl.1; omega
    have h1 : (t : Int) < len0 l := by omega
    have h2 : (t : Int) < ((rd_T42 l 0).f0.length : Int) := h1
    have ht0 : (0 : Int) ≤ t := by omega
    have e9 : wrap64 ((t : Int) + 1) = ((t + 1 : Nat) : Int) := by rw [w64 (by omega) (by omega)]; rfl
    obtain ⟨K1, q1⟩ := stand_ev l (t : Int) ht0 (fun x hx => by have := hl.2.2 x hx; omega) hl.2.1
    obtain ⟨K2, q2⟩ := stand_ev m (t : Int) ht0 (fun x hx => by have := hm.2.2 x hx; omega) hm.2.1
    have hla : (asc (stood l (t : Int))).length ≤ 1048576 := Nat.le_trans (asc_length _) (by unfold stood; simp; have := hl.2.1; omega)
    have hp : ∀ k, K1 + K2 + (asc (stood l (t : Int))).length + 1 ≤ k → hof_SameStands.p k l m (t : Int) = some (!(decide (asc (stood l (t : Int)) = asc (stood m (t : Int))))) := fun k hk => by
      unfold hof_SameStands.p
      rw [(q1 k (by omega)).2, Option.bind_some, (q2 k (by omega)).2, Option.bind_some, equal_eq _ _ hla k (by omega), Option.bind_some]
    by_cases hc : asc (stood l (t : Int)) = asc (stood m (t : Int))
    · obtain ⟨g, K, h⟩ := same_l0 l m hl hm he hz d (t + 1) (by omega)
      refine ⟨g, K + K1 + K2 + (asc (stood l (t : Int))).length + 3, fun k hk => ?_⟩
      obtain ⟨k, rfl⟩ : ∃ q, k = q + (asc (stood l (t : Int))).length + 1 + 1 := ⟨k - (asc (stood l (t : Int))).length - 2, by omega⟩
      have hs1 := same_l1 l m (t : Int) (asc (stood l (t : Int))) (asc (stood m (t : Int))) (by rw [hc]) hla _ 0 k (Nat.zero_add _)
      rw [List.drop_zero, List.drop_zero, if_pos hc, e9, show ((0 : Nat) : Int) = 0 from rfl, (h k (by omega)).1] at hs1
      constructor
      · rw [spec_SameStands.l0, if_pos h0, if_pos h2, (q1 _ (by omega)).1, Option.bind_some, (q2 _ (by omega)).1, Option.bind_some, if_pos (by rw [hc])]
        exact hs1
      · rw [someT, if_pos h1, hp _ (by omega), decide_eq_true hc, Option.bind_some, if_neg (by decide), e9]
        exact (h _ (by omega)).2
    · refine ⟨false, K1 + K2 + (asc (stood l (t : Int))).length + 3, fun k hk => ?_⟩
      obtain ⟨k, rfl⟩ : ∃ q, k = q + (asc (stood l (t : Int))).length + 1 + 1 := ⟨k - (asc (stood l (t : Int))).length - 2, by omega⟩
      constructor
      · rw [spec_SameStands.l0, if_pos h0, if_pos h2, (q1 _ (by omega)).1, Option.bind_some, (q2 _ (by omega)).1, Option.bind_some]
        by_cases hlen : (asc (stood l (t : Int))).length = (asc (stood m (t : Int))).length
        · have hs1 := same_l1 l m (t : Int) (asc (stood l (t : Int))) (asc (stood m (t : Int))) hlen hla _ 0 k (Nat.zero_add _)
          rw [List.drop_zero, List.drop_zero, if_neg hc, show ((0 : Nat) : Int) = 0 from rfl] at hs1
          rw [if_pos (by omega)]
          exact hs1
        · rw [if_neg (by omega)]
      · rw [someT, if_pos h1, hp _ (by omega), decide_eq_false hc, Option.bind_some, if_pos (by rfl)]
        rfl
theorem same_ev (l m : List WI) (hl : SzOk l) (hm : SzOk m) : ∃ v K, ∀ k, K ≤ k → spec_SameStands.f k l m = some v ∧ impl_SameStands.f k l m = some v := by
  obtain ⟨a1, K1, h1, e1⟩ := specReg_ev l hl
  obtain ⟨a2, K2, h2, e2⟩ := specReg_ev m hm
  obtain ⟨b1, K3, h3, f1⟩ := implReg_ev l hl
  obtain ⟨b2, K4, h4, f2⟩ := implReg_ev m hm
  have r1 : a1 = b1 := Bool.eq_iff_iff.mpr (e1.trans f1.symm)
  have r2 : a2 = b2 := Bool.eq_iff_iff.mpr (e2.trans f2.symm)
  subst r1
  subst r2
  have hj : ∀ k, spec_SameStands.j0 (k + 1) l m true = some false := fun k => by rw [spec_SameStands.j0, if_pos rfl]
  cases a1 with
  | false =>
    refine ⟨false, K1 + K3 + 1, fun k hk => ?_⟩
    obtain ⟨k, rfl⟩ : ∃ q, k = q + 1 := ⟨k - 1, by omega⟩
    unfold spec_SameStands.f impl_SameStands.f
    rw [h1 _ (by omega), h3 _ (by omega), Option.bind_some, Option.bind_some, if_neg (by decide), if_neg (by decide), hj]
    exact ⟨rfl, rfl⟩
  | true =>
    cases a2 with
    | false =>
      refine ⟨false, K1 + K2 + K3 + K4 + 1, fun k hk => ?_⟩
      obtain ⟨k, rfl⟩ : ∃ q, k = q + 1 := ⟨k - 1, by omega⟩
      unfold spec_SameStands.f impl_SameStands.f
      rw [h1 _ (by omega), h3 _ (by omega), Option.bind_some, Option.bind_some, if_pos rfl, if_pos rfl, h2 _ (by omega), h4 _ (by omega), Option.bind_some, Option.bind_some, if_neg (by decide), if_neg (by decide), hj]
      exact ⟨rfl, rfl⟩
    | true =>
      obtain ⟨gl, _, _⟩ := e1.mp rfl
      obtain ⟨gm, _, _⟩ := e2.mp rfl
      have c1 : (0 : Int) < (l.length : Int) := by have := gl.1; omega
      have c2 : (0 : Int) < (m.length : Int) := by have := gm.1; omega
      by_cases he : len0 l = len0 m
      · have hz := len0_le l (by have := gl.1; omega) hl
        obtain ⟨D, hD⟩ : ∃ D : Nat, ((0 : Nat) : Int) + D = len0 l := ⟨(len0 l).toNat, by omega⟩
        obtain ⟨g, K, h⟩ := same_l0 l m gl gm he hz.1 D 0 hD
        refine ⟨g, K + K1 + K2 + K3 + K4 + 1, fun k hk => ?_⟩
        obtain ⟨k, rfl⟩ : ∃ q, k = q + 1 := ⟨k - 1, by omega⟩
        obtain ⟨p1, _⟩ := h k (by omega)
        obtain ⟨_, p2⟩ := h (k + 1) (by omega)
        rw [show ((0 : Nat) : Int) = 0 from rfl] at p1 p2
        have hne : (((rd_T42 l 0).f0.length : Int) != ((rd_T42 m 0).f0.length : Int)) = false := bne_eq_false_iff_eq.mpr he
        have heq : ((rd_T42 l 0).f0.length : Int) = ((rd_T42 m 0).f0.length : Int) := he
        unfold spec_SameStands.f impl_SameStands.f
        rw [h1 _ (by omega), h3 _ (by omega), Option.bind_some, Option.bind_some, if_pos rfl, if_pos rfl, h2 _ (by omega), h4 _ (by omega), Option.bind_some, Option.bind_some, if_pos rfl, if_pos rfl, if_pos c1, if_pos c1, if_pos c2, if_pos c2, hne, if_pos heq, spec_SameStands.j0, if_neg (by decide), p1]
        have hf : hof_SameStands.f (k + 1) ((rd_T42 l 0).f0.length : Int) l m = some (!g) := p2
        rw [hf, Option.bind_some, Bool.not_not]
        exact ⟨rfl, rfl⟩
      · refine ⟨false, K1 + K2 + K3 + K4 + 1, fun k hk => ?_⟩
        obtain ⟨k, rfl⟩ : ∃ q, k = q + 1 := ⟨k - 1, by omega⟩
        have hne : (((rd_T42 l 0).f0.length : Int) != ((rd_T42 m 0).f0.length : Int)) = true := bne_iff_ne.mpr he
        have heq : ¬ ((rd_T42 l 0).f0.length : Int) = ((rd_T42 m 0).f0.length : Int) := he
        unfold spec_SameStands.f impl_SameStands.f
        rw [h1 _ (by omega), h3 _ (by omega), Option.bind_some, Option.bind_some, if_pos rfl, if_pos rfl, h2 _ (by omega), h4 _ (by omega), Option.bind_some, Option.bind_some, if_pos rfl, if_pos rfl, if_pos c1, if_pos c1, if_pos c2, if_pos c2, hne, if_neg heq, hj]
        exact ⟨rfl, rfl⟩
theorem FnExactSameStands : laws_FnExactSameStands.Pure := by
  intro l m hn hw hn2 hw2
  obtain ⟨s, K0, h0, hs⟩ := szWayS_ev l hn (fun x hx => (hw x hx).1)
  by_cases hsz : s < 0
  · refine ⟨K0, ?_⟩
    unfold laws_FnExactSameStands.f
    rw [h0 K0 (by omega), Option.bind_some, if_pos hsz]
  · obtain ⟨hl, hsv⟩ := hs (by omega)
    obtain ⟨s2, K6, h6, hs2⟩ := szWayS_more m s (by omega) (by omega) hn2 (fun x hx => (hw2 x hx).1)
    by_cases hsz2 : s2 < 0
    · refine ⟨K0 + K6, ?_⟩
      unfold laws_FnExactSameStands.f
      rw [h0 _ (by omega), Option.bind_some, if_neg hsz, h6 _ (by omega), Option.bind_some, if_pos hsz2]
    · have hm := hs2 (by omega)
      obtain ⟨K1, h1⟩ := toWayS_ev l hl
      obtain ⟨K5, h5⟩ := toWayS_ev m hm
      obtain ⟨v, K2, h2⟩ := same_ev _ _ hl hm
      obtain ⟨K3, h3⟩ := eqWayS_ev _ hl
      obtain ⟨K4, h4⟩ := eqWayS_ev _ hm
      obtain ⟨h7, h8⟩ := h2 (K0 + K1 + K2 + K3 + K4 + K5 + K6) (by omega)
      refine ⟨K0 + K1 + K2 + K3 + K4 + K5 + K6, ?_⟩
      unfold laws_FnExactSameStands.f
      simp (disch := omega) only [h0, h1, h5, h6, h7, h8, h3, h4, hsz, hsz2, Option.bind_some, reduceIte, bne_self_eq_false, Bool.false_eq_true]
end Go.Proofs.Ytbcljfbpkmlgpaa.Pure
