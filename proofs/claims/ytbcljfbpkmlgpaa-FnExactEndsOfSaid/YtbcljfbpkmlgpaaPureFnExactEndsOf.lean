/- The program's EndsOf answers what the reference's answers, for all paths; the answer is new memory. -/
import Derived.Test.YtbcljfbpkmlgpaaPends
import Derived.Test.YtbcljfbpkmlgpaaQ11
set_option linter.unusedSimpArgs false
namespace Go.Proofs.Ytbcljfbpkmlgpaa.Pure
open Go.RowKit Go.Proofs.Ytbcljfbpkmlgpaa.Q Go.Proofs.YtbcljfbpkmlgpaaW.PrintWords Go.Proofs.YtbcljfbpkmlgpaaW.PrintLast
theorem FnExactEndsOf : laws_FnExactEndsOf.Pure := by
  intro l hn hx
  obtain ⟨v, K0, h0, hv⟩ := szWayS_ev l hn (fun x hxl => (hx x hxl).1)
  by_cases hneg : v < 0
  · refine ⟨K0, ?_⟩
    unfold laws_FnExactEndsOf.f
    rw [h0 K0 (Nat.le_refl _), Option.bind_some, if_pos hneg]
  · obtain ⟨hz, _⟩ := hv (by omega)
    have hr : (endsOf (l.map toW)).length ≤ 1048576 := by
      unfold endsOf
      refine Nat.le_trans (asc_length _) ?_
      have := lasts_len (l.map toW); have := SzOk_len hz; omega
    obtain ⟨K1, h1⟩ := toWayS_ev l hz
    obtain ⟨K2, h2⟩ := ends_ev (l.map toW) hz
    obtain ⟨K3, h3⟩ := eqWayS_ev (l.map toW) hz
    obtain ⟨K5, h5⟩ := eqIntS_ev (endsOf (l.map toW)) (endsOf (l.map toW)) (by omega)
    obtain ⟨K7, h7⟩ := markIntS_ev (endsOf (l.map toW)) 1 (by omega) (by omega) (by omega)
    obtain ⟨K8, h8⟩ := heldIntS_ev (endsOf (l.map toW)).length 1 (by omega) (by omega) (by omega)
    have h6 := markWayS_eq (l.map toW) hz
    have hm : ¬ (1 + (tot (l.map toW) : Int)) < 0 := by omega
    have hq : ¬ (1 + ((endsOf (l.map toW)).length : Int)) < 0 := by omega
    refine ⟨K0 + K1 + K2 + K3 + K5 + K7 + K8 + 1, ?_⟩
    unfold laws_FnExactEndsOf.f
    rw [h0 _ (by omega), Option.bind_some, if_neg hneg]
    simp (disch := omega) only [h1, h2, h3, h5, h6, h7, h8, hm, hq, Option.bind_some, reduceIte, and_self, decide_true, Bool.not_true, Bool.false_eq_true, bne_self_eq_false]
    simp only [laws_FnExactEndsOf.j0]
    simp (disch := omega) only [h1, h2, h3, h5, h6, h7, h8, hm, hq, Option.bind_some, reduceIte, and_self, decide_true, Bool.not_true, Bool.false_eq_true, bne_self_eq_false]
end Go.Proofs.Ytbcljfbpkmlgpaa.Pure
