/- Prices show that the cheapest flow of a drawn net is the cheapest; a drawn flow of its size costs no less, and as much when prices show it. -/
import Derived.Test.YtkdemainohfgfaaPAllFnPriced
import Derived.Test.YtkdemainohfgfaaQ14
set_option linter.unusedSimpArgs false
set_option linter.unusedVariables false
namespace Go.Proofs.Ytkdemainohfgfaa.Pure
open Go.RowKit Go.Proofs.Ytkdemainohfgfaa.Q Go.Proofs.YtkdemainohfgfaaW.PrintWords Go.Proofs.YtkdemainohfgfaaW.PrintLast
theorem FnPriced : laws_FnPriced.Pure := by
  intro s _ hl _
  by_cases hs : s.length ≤ 1048576
  · obtain ⟨h0, K0, e0⟩ := new_ev s hs
    obtain ⟨n, l, c1, h1, K1, ⟨hN, hn8, hc1⟩, e1⟩ := right_ev s hs 0 h0 (Int.le_refl _)
    obtain ⟨sz, c2, h2, e2, z0, z1, _⟩ := below_ev s hs c1 h1 9 hc1 (by omega) (by omega)
    obtain ⟨F, m, K3, ⟨hF, m0, m8⟩, e3⟩ := ps_ev hN sz z0 (by omega)
    obtain ⟨m, rfl⟩ := Int.eq_ofNat_of_zero_le m0
    have hn := hN.1
    have hl2 := hN.2.1
    obtain ⟨B, K4, hB, e4⟩ := cp_l0 hN (by omega) hF m 0 (List.replicate l.length 0) (by omega) (finv_zero hN)
    obtain ⟨K5, e5⟩ := so_ev hN
    obtain ⟨g, K6, e6, hg⟩ := net_ev n l (by omega)
    obtain rfl := hg.mpr hN
    obtain ⟨q, hq, _⟩ := hB.pot
    obtain ⟨⟨p, ok⟩, K7, ⟨p1, p2, p3⟩, e7⟩ := bm_ev hN hB.len hB.fl
    obtain ⟨rfl, hpb⟩ := p2 ⟨q, hq⟩
    obtain ⟨hA, hpl⟩ := p1 rfl
    simp only at hA hpl hpb p3
    obtain ⟨K8, e8⟩ := pok_ev hN hB.toFl p hpl hpb hA
    obtain ⟨K9, e9⟩ := size_ev hN hF
    obtain ⟨KA, eA⟩ := ok_ev hN hF
    obtain ⟨KB, eB⟩ := ok_ev hN hB.toFl
    obtain ⟨⟨pF, okF⟩, KC, ⟨f1, f2, _⟩, eC⟩ := bm_ev hN hF.len hF.fl
    simp only at f1 f2
    obtain ⟨b1, b2⟩ := best hN hB.toFl hF (fun z => rd p z) hA
    have hok : okF = (cs l F l.length == cs l B l.length) := by
      by_cases c : cs l B l.length = cs l F l.length
      · rw [(f2 ⟨fun v => rd p (v : Int), res_ap hN _ (b2 c)⟩).1, c]; simp
      · cases okF with
        | false => symm; simpa using fun e => c e.symm
        | true => exact absurd (Int.le_antisymm b1 (best hN hF hB.toFl _ (f1 rfl).1).1) c
    have hFl := hF.len
    have hBl := hB.len
    have prc : ∀ (f : List Int) (v : List Int × Bool) (K : Nat), (∀ k, K ≤ k → impl_PricesOf.l0 k f (List.replicate n.toNat 0) 0 n l = some v) → (∀ k, K ≤ k → impl_FlowOk.f k n l f = some true) → ∀ k, K ≤ k → impl_PricesOf.f k n l f = some v := fun f v K h1 h2 k hk => by
      unfold impl_PricesOf.f
      rw [h2 k hk, Option.bind_some, if_pos rfl, if_pos (by omega), if_pos (by omega)]
      exact h1 k hk
    have eP := prc B _ (K7 + KB) (fun k hk => e7 k (by omega)) (fun k hk => (eB k (by omega)).2)
    have eQ := prc F _ (KC + KA) (fun k hk => eC k (by omega)) (fun k hk => (eA k (by omega)).2)
    have eCh : ∀ k, K4 + K5 + K6 + 1 ≤ k → impl_Cheapest.f k n l (m : Int) = some (B, cs l B l.length, true) := fun k hk => by
      unfold impl_Cheapest.f
      rw [(e6 k (by omega)).2, Option.bind_some, if_pos rfl, if_neg (by omega), decide_eq_false (by omega)]
      obtain ⟨k, rfl⟩ : ∃ m, k = m + 1 := ⟨k - 1, by omega⟩
      rw [impl_Cheapest.j0, if_neg (by decide), e5 k (by omega), Option.bind_some, if_pos (by omega), if_pos (by omega), Int.toNat_natCast]
      have := e4 k (by omega)
      rw [show (m : Int) - ((0 : Nat) : Int) = (m : Int) by omega] at this
      exact this
    refine ⟨K0 + K1 + K3 + K4 + K5 + K6 + K7 + K8 + K9 + KA + KB + KC + 1, ?_⟩
    generalize hk : K0 + K1 + K3 + K4 + K5 + K6 + K7 + K8 + K9 + KA + KB + KC + 1 = k
    have q0 := e0 k (by omega)
    have q1 := e1 k (by omega)
    have q3 := e3 k (by omega)
    have q4 := eCh k (by omega)
    have q5 := eP k (by omega)
    have q6 := eQ k (by omega)
    have q8 := e8 k (by omega)
    have q9 := e9 k (by omega)
    have n1 : B.length < 17592186044416 := by omega
    have n2 : F.length < 17592186044416 := by omega
    have n3 : p.length < 17592186044416 := by omega
    unfold laws_FnPriced.f laws_big.f spec_DrawPushed.f impl_NoneCheaper.f
    rw [decide_eq_false (by omega)]
    simp only [q0, q1, e2, q3, q9.1, q9.2, q4, q5, q6, q8, Option.bind_some, List.nil_append, List.length_nil, Nat.zero_add, n1, n2, n3, Bool.false_eq_true, reduceIte, ge_iff_le, b1, hok, beq_self_eq_true]
  · refine ⟨0, ?_⟩
    unfold laws_FnPriced.f laws_big.f
    rw [decide_eq_true (by omega), Option.bind_some, if_pos rfl]
end Go.Proofs.Ytkdemainohfgfaa.Pure
