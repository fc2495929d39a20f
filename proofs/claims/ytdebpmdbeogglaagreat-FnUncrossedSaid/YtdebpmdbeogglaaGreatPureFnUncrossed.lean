/- Uncrossed, the ways of a drawn plan stand on the same cells at each time, cross nowhere, stay the same when they are uncrossed again, have as many moves less as went round, and make a plan without a fault; for all bytes that the plan is drawn from. -/
import Derived.Test.YtdebpmdbeogglaaGreatPAllFnUncrossed
import Derived.Test.YtdebpmdbeogglaaGreatQ20
import Derived.Test.YtdebpmdbeogglaaGreatQ1
set_option linter.unusedSimpArgs false
set_option linter.unusedSectionVars false
set_option linter.unusedVariables false
namespace Go.Proofs.YtdebpmdbeogglaaGreat.Pure
open Go.RowKit Go.Proofs.YtdebpmdbeogglaaGreat.Q Go.Proofs.YtdebpmdbeogglaaGreatW.PrintWords Go.Proofs.YtdebpmdbeogglaaGreatW.PrintLast
theorem FnUncrossed : laws_FnUncrossed.Pure := by
  intro s _ _ _
  by_cases hb : (s.length : Int) > 1048576
  · refine ⟨0, ?_⟩
    unfold laws_FnUncrossed.f laws_big.f
    rw [decide_eq_true hb, Option.bind_some, if_pos rfl]
  · obtain ⟨a, b, g, n, st, d, sp, mv, T, K0, h, h0⟩ := drawWalk_ev s (by omega)
    have hs := h.sp5
    have hn := h.n5
    have hst := (dr_st h).1
    have hx : ∀ T, 0 < (waysT n T).length := fun T => by rw [waysT_len]; exact h.n1
    obtain ⟨T', h', hU, hN, hS, _⟩ := un_drawn (waysT n T) (hx T) (dr_len0 h) sp 0 T (by omega) h
    obtain ⟨T2, _, hU2, _, _, hZ⟩ := un_drawn (waysT n T') (hx T') (dr_len0 h') sp 0 T' (by omega) h'
    rw [hZ (fun u _ hu => (hN u hu).1 (Nat.zero_le _))] at hU2
    obtain ⟨K1, e1⟩ := un_f _ (dr_sz h) (dr_reg h) _ hU
    obtain ⟨K2, e2⟩ := un_f _ (dr_sz h') (dr_reg h') _ hU2
    obtain ⟨K3, e3⟩ := cross_ev _ (dr_reg h) (dr_sz h) sp (by rw [dr_len0 h]; omega)
    obtain ⟨K4, e4⟩ := cross_ev _ (dr_reg h') (dr_sz h') sp (by rw [dr_len0 h']; omega)
    obtain ⟨K5, e5⟩ := same_pos _ _ (dr_sz h') (dr_sz h) (dr_reg h') (dr_reg h) (by rw [dr_len0 h, dr_len0 h']) (sp + 1) (by rw [dr_len0 h']; omega) hS
    obtain ⟨K6, e6⟩ := moves_ev _ (dr_sz h')
    obtain ⟨K7, e7⟩ := moves_ev _ (dr_sz h)
    obtain ⟨K8, e8⟩ := fault_ev h' (fun t ht => by
      obtain ⟨s, q, e, _, _, K, hK⟩ := counts_ev _ t (dr_calm h' t ht) (dr_sz h')
      rw [(hN t ht).1 (Nat.zero_le _)] at e
      obtain ⟨rfl, rfl⟩ : s = 0 ∧ q = 0 := by omega
      exact ⟨K, fun k hk => ⟨(hK k hk).1.2, (hK k hk).2.2⟩⟩)
    have c0 : sm (rN (waysT n T')) sp = 0 := by rw [sm_congr _ (fun _ => 0) sp (fun u hu => (hN u hu).1 (Nat.zero_le _)), sm_none]
    rw [c0] at e4
    have hM : mvs (waysT n T) = mvs (waysT n T') + sm (rN (waysT n T)) sp := by
      rw [dr_mvs h, dr_mvs h', ← sm_add]
      exact sm_congr _ _ sp (fun u hu => by have q := hN u hu; have := q.1 (Nat.zero_le _); omega)
    have hB : mvs (waysT n T) ≤ 10 * sp := by
      rw [dr_mvs h]
      exact sm_le _ 10 sp (fun u _ => Nat.le_trans (cnt_le _ _) (by rw [waysT_len]; omega))
    have hc := copied_ev _ (dr_sz h)
    have hc' := copied_ev _ (dr_sz h')
    have hw := sameWays_l0 _ (dr_sz h') n 0
    rw [waysT_len] at hc hc' hw
    have hsame : ∀ k, 1048576 + n < k → laws_sameWays.f k (waysT n T') (waysT n T') = some true := fun k hk => by
      rw [laws_sameWays.f, if_pos rfl]
      exact hw k (by omega) hk
    have hdl : d.length ≤ n := by
      have h1 := h.goals.length_le
      have h2 := asc_length (lasts (waysT n T))
      have h3 := lasts_len (waysT n T)
      rw [waysT_len] at h3
      unfold endsOf at h1
      omega
    generalize waysT n T = l at *
    generalize waysT n T' = l' at *
    generalize sm (rN l) sp = N at *
    generalize mvs l' = M' at *
    have hwr : wrap64 ((mvs l : Int) - (N : Int)) = (M' : Int) := by
      rw [w64 (by omega) (by omega)]
      omega
    obtain ⟨k, hk⟩ : ∃ k, k = K0 + K1 + K2 + K3 + K4 + K5 + K6 + K7 + K8 + n + 1048600 := ⟨_, rfl⟩
    have z0 := h0 (k + 1) (by clear hwr; omega)
    have z1 := e1 (k + 1) (by clear hwr; omega)
    have z2 := e2 (k + 1) (by clear hwr; omega)
    have z3 := e3 (k + 1) (by clear hwr; omega)
    have z4 := (e4 (k + 1) (by clear hwr; omega)).2
    have z5 := e5 (k + 1) (by clear hwr; omega)
    have z6 := (e6 (k + 1) (by clear hwr; omega)).2
    have z7 := (e7 (k + 1) (by clear hwr; omega)).2
    have y6 := (e6 k (by clear hwr; omega)).2
    have y8 := e8 k (by clear hwr; omega)
    have yc := hc' k (by clear hwr; omega)
    have zc := hc (k + 1) (by clear hwr; omega)
    have zc' := hc' (k + 1) (by clear hwr; omega)
    have zs := hsame (k + 1) (by clear hwr; omega)
    have b1 : ([] : List Int).length + st.length < 17592186044416 := by clear hwr; rw [List.length_nil]; omega
    have b2 : ([] : List Int).length + d.length < 17592186044416 := by clear hwr; rw [List.length_nil]; omega
    have b3 : ¬ (N : Int) < 0 := by clear hwr; omega
    have hj : laws_FnUncrossed.j0 (k + 1) st d l' false a b g (sp : Int) mv l = some true := by
      rw [laws_FnUncrossed.j0, if_neg (by decide), Option.bind_some, if_pos b1, Option.bind_some, if_pos b2, yc, Option.bind_some, y6, Option.bind_some, Option.bind_some, List.nil_append, List.nil_append, y8]
      rfl
    have hne : ((M' : Int) != (M' : Int)) = false := bne_self_eq_false _
    refine ⟨k + 1, ?_⟩
    clear hk h0 e1 e2 e3 e4 e5 e6 e7 e8 hc hc' hsame hw hS hN hU hU2
    unfold laws_FnUncrossed.f laws_big.f
    rw [decide_eq_false hb, Option.bind_some, if_neg (by decide), z0, Option.bind_some]
    simp only
    rw [zc, Option.bind_some, z1, Option.bind_some, Option.bind_some, z3.2, Option.bind_some]
    simp only
    rw [zc', Option.bind_some, z2, Option.bind_some]
    simp only [reduceIte]
    rw [if_neg b3, z3.1, Option.bind_some, if_pos rfl, Option.bind_some, z4, Option.bind_some, if_pos (by rfl), zs, Option.bind_some, if_pos rfl, Option.bind_some, Option.bind_some, z5, Option.bind_some, if_pos rfl, Option.bind_some, z6, Option.bind_some, Option.bind_some, z7, Option.bind_some, hwr, hne]
    exact hj
end Go.Proofs.YtdebpmdbeogglaaGreat.Pure
