/- The program's RoomsOf answers what the reference's answers, for all arguments; the answer is new memory. -/
import Derived.Test.YtooofofeihkpcaaPrm
import Derived.Test.YtooofofeihkpcaaPgz
import Derived.Test.YtooofofeihkpcaaPim
import Derived.Test.YtooofofeihkpcaaQ28
set_option linter.unusedSimpArgs false
namespace Go.Proofs.Ytooofofeihkpcaa.Pure
open Go.RowKit Go.Proofs.Ytooofofeihkpcaa.Q Go.Proofs.YtooofofeihkpcaaW.PrintWords Go.Proofs.YtooofofeihkpcaaW.PrintLast
theorem FnExactRoomsOf : laws_FnExactRoomsOf.Pure := by
  intro a b s l _ _ hs _ _
  by_cases hl : l.length ≤ 1048576
  · by_cases hz : s.size ≤ 1048576
    · have hr := rooms_len a b s l
      obtain ⟨K1, h1⟩ := toIntS_ev l (by omega)
      obtain ⟨K2, h2⟩ := specRooms_ev a b s hz l hl
      obtain ⟨K3, h3⟩ := implRooms_ev a b s hz l
      obtain ⟨K4, h4⟩ := eqIntS_ev l l (by omega)
      obtain ⟨K5, h5⟩ := eqIntS_ev (rooms a b s l) (rooms a b s l) (by omega)
      obtain ⟨K6, h6⟩ := markIntS_ev l 1 (by omega) (by omega) (by omega)
      obtain ⟨K7, h7⟩ := markIntS_ev (rooms a b s l) 1 (by omega) (by omega) (by omega)
      obtain ⟨K8, h8⟩ := heldIntS_ev (rooms a b s l).length 1 (by omega) (by omega) (by omega)
      refine ⟨K1 + K2 + K3 + K4 + K5 + K6 + K7 + K8 + 1, ?_⟩
      have hm : ¬ (1 + (l.length : Int)) < 0 := by omega
      have hq : ¬ (1 + ((rooms a b s l).length : Int)) < 0 := by omega
      unfold laws_FnExactRoomsOf.f
      rw [if_neg (by omega), szGrid_eq a b s hs 1048576 (by omega) (by omega), if_pos (by omega), Option.bind_some, if_neg (by omega)]
      simp (disch := omega) only [laws_toGrid.f, h1, h2, h3, h4, h5, h6, h7, h8, hm, hq, Option.bind_some, reduceIte, and_self, decide_true, Bool.not_true, Bool.false_eq_true, bne_self_eq_false]
      simp only [laws_FnExactRoomsOf.j0]
      simp (disch := omega) only [laws_toGrid.f, h1, h2, h3, h4, h5, h6, h7, h8, hm, hq, Option.bind_some, reduceIte, and_self, decide_true, Bool.not_true, Bool.false_eq_true, bne_self_eq_false]
    · refine ⟨0, ?_⟩
      unfold laws_FnExactRoomsOf.f
      rw [if_neg (by omega), szGrid_eq a b s hs 1048576 (by omega) (by omega), if_neg (by omega), Option.bind_some, if_pos (by decide)]
  · refine ⟨0, ?_⟩
    unfold laws_FnExactRoomsOf.f
    rw [if_pos (by omega)]
end Go.Proofs.Ytooofofeihkpcaa.Pure
