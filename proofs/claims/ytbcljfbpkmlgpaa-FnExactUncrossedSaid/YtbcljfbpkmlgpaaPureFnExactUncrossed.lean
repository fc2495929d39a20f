/- The program's Uncrossed answers what the reference's answers, for all ways; the answer is new memory. -/
import Derived.Test.YtbcljfbpkmlgpaaPAllFnExactUncrossed
import Derived.Test.YtbcljfbpkmlgpaaQ8
import Derived.Test.YtbcljfbpkmlgpaaQ7
import Derived.Test.YtbcljfbpkmlgpaaQ1
set_option linter.unusedSimpArgs false
namespace Go.Proofs.Ytbcljfbpkmlgpaa.Pure
open Go.RowKit Go.Proofs.Ytbcljfbpkmlgpaa.Q Go.Proofs.YtbcljfbpkmlgpaaW.PrintWords Go.Proofs.YtbcljfbpkmlgpaaW.PrintLast
theorem iotaQ_eq : ∀ (m : Int) (d : Nat), iotaQ m d = iota m d
  | _, 0 => rfl
  | m, d + 1 => by unfold iotaQ iota; rw [iotaQ_eq (m + 1) d]
theorem waysLen_tot : ∀ L : List WI, waysLen L = tot L
  | [] => rfl
  | x :: L => by
    have h := waysLen_tot L
    unfold waysLen at h ⊢
    rw [List.map_cons, List.sum_cons, h, tot]
theorem heldW_l0 (L : List WI) (hL : SzOk L) : ∀ (d i : Nat), i + d = L.length → ∃ K, ∀ k, K ≤ k → laws_heldWayS.l0 k (waysMark L 1) (1 + (waysLen (L.take i) : Int)) (i : Int) = some (1 + (waysLen L : Int))
  | 0, i, hi => by
    have hn : ¬ (i : Int) < ((waysMark L 1).length : Int) := by rw [waysMark_length]; omega
    refine ⟨1, fun k hk => ?_⟩
    obtain ⟨k, rfl⟩ : ∃ m, k = m + 1 := ⟨k - 1, by omega⟩
    rw [laws_heldWayS.l0, if_neg hn, List.take_of_length_le (by omega)]
  | d + 1, i, hi => by
    have hil : i < L.length := by omega
    have hml : i < (waysMark L 1).length := by rw [waysMark_length]; exact hil
    have hlt : (i : Int) < ((waysMark L 1).length : Int) := by omega
    have h0 : (0 : Int) ≤ (i : Int) := by omega
    have hg := waysMark_get L 1 i hil
    have hr : (rd_T42 (waysMark L 1) (i : Int)).f0 = iota (1 + (waysLen (L.take i) : Int)) (L[i]).f0.length := by
      rw [rdWI_get _ i hml]
      rw [List.getElem?_eq_getElem hml] at hg
      rw [Option.some.inj hg, ← iotaQ_eq]
    have hs1 := SzOk_len hL
    have hs2 := waysLen_le L (i + 1)
    have hs3 := waysLen_take L i hil
    have hs4 := waysLen_tot L
    unfold SzOk at hL
    have e9 : wrap64 ((i : Int) + 1) = ((i + 1 : Nat) : Int) := w64 (by omega) (by omega)
    obtain ⟨K1, h1⟩ := heldIntS_ev (L[i]).f0.length (1 + (waysLen (L.take i) : Int)) (by omega) (by omega) (by omega)
    obtain ⟨K2, h2⟩ := heldW_l0 L hL d (i + 1) (by omega)
    have hp : ¬ (1 + (waysLen (L.take i) : Int) + ((L[i]).f0.length : Int)) < 0 := by omega
    have he : 1 + (waysLen (L.take i) : Int) + ((L[i]).f0.length : Int) = 1 + ((waysLen (L.take i) + (L[i]).f0.length : Nat) : Int) := by omega
    refine ⟨K1 + K2 + 1, fun k hk => ?_⟩
    obtain ⟨k, rfl⟩ : ∃ m, k = m + 1 := ⟨k - 1, by omega⟩
    have h2 := h2 k (by omega)
    rw [hs3] at h2
    rw [laws_heldWayS.l0, if_pos hlt, if_pos h0, hr, h1 k (by omega), Option.bind_some, if_neg hp, e9, he]
    exact h2
theorem heldW_ev (L : List WI) (hL : SzOk L) : ∃ K, ∀ k, K ≤ k → laws_heldWayS.f k (waysMark L 1) 1 = some (1 + (waysLen L : Int)) := by
  obtain ⟨K, h⟩ := heldW_l0 L hL L.length 0 (by omega)
  refine ⟨K, fun k hk => ?_⟩
  have := h k hk
  unfold laws_heldWayS.f
  simpa [waysLen] using this
theorem FnExactUncrossed : laws_FnExactUncrossed.Pure := by
  intro l hn hw
  obtain ⟨v, K0, hv, hz⟩ := szWayS_ev l hn (fun x hx => (hw x hx).1)
  by_cases c : v < 0
  · refine ⟨K0, ?_⟩
    unfold laws_FnExactUncrossed.f
    rw [hv K0 (Nat.le_refl _), Option.bind_some, if_pos c]
  · have hl := (hz (by omega)).1
    obtain ⟨K1, h1⟩ := toWayS_ev l hl
    generalize l.map toW = L at hl h1
    obtain ⟨g, b, K2, h2, hg⟩ := uncrossed_ev L hl
    obtain ⟨K3, h3⟩ := eqWayS_ev L hl
    obtain ⟨K4, h4⟩ := eqWayS_ev g hg
    obtain ⟨K5, h5⟩ := heldW_ev g hg
    have hm : ∀ L : List WI, SzOk L → laws_markWayS.f L 1 = some (1 + (waysLen L : Int), waysMark L 1) := fun L hL => by
      have := waysLen_tot L
      unfold SzOk at hL
      unfold laws_markWayS.f
      rw [if_pos ⟨by omega, by omega⟩]
    have hq : ∀ n : Nat, ¬ (1 + (n : Int)) < 0 := fun n => by omega
    obtain ⟨k, hk⟩ : ∃ k, k = K0 + K1 + K2 + K3 + K4 + K5 := ⟨_, rfl⟩
    have e0 := hv k (by omega)
    have e1 := h1 k (by omega)
    have e2 := (h2 k (by omega)).1
    have e3 := (h2 k (by omega)).2
    have e4 := h3 k (by omega)
    have e5 := h4 k (by omega)
    have e6 := h5 k (by omega)
    have e7 := hm L hl
    have e8 := hm g hg
    refine ⟨k, ?_⟩
    unfold laws_FnExactUncrossed.f
    rw [e0, Option.bind_some, if_neg c]
    simp only [e1, e2, e3, e4, e5, e6, e7, e8, hq, Option.bind_some, reduceIte]
end Go.Proofs.Ytbcljfbpkmlgpaa.Pure
