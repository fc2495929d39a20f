-- Written by a session's own program (wip/tools/myprint.py) over the kit's printer, out of the translation. Not trusted: Lean checks it.
import Derived.Test.YtbcljfbpkmlgpaaQ0
import Derived.Test.YtbcljfbpkmlgpaaQ2
namespace Go.Proofs.Ytbcljfbpkmlgpaa.Q
open Go.RowKit Go.Proofs.YtbcljfbpkmlgpaaW.PrintWords Go.Proofs.YtbcljfbpkmlgpaaW.PrintLast Go.Proofs.YtbcljfbpkmlgpaaW.PrintMore
attribute [local go_sem] max2_int min2_int max_two min_two max_three min_three max_four min_four   -- for this text's walks alone
set_option linter.unusedVariables false
set_option linter.unusedSimpArgs false

/-! ### spec_MeetAt: function 20 -/
mutual
def spec_MeetAt.l0 : Nat → List (S42) → Int → Int → Option (Bool)
  | 0, _, _, _ => none
  | k + 1, x0, x1, x5 => if x5 < (x0.length : Int) then (spec_MeetAt.l1 k x0 x1 x5 0) else (some false)
def spec_MeetAt.l1 : Nat → List (S42) → Int → Int → Int → Option (Bool)
  | 0, _, _, _, _ => none
  | k + 1, x0, x1, x5, x6 => if x6 < x5 then (if 0 ≤ x5 then (if x5 < (x0.length : Int) then (if 0 ≤ x1 then (if x1 < (((rd_T42 x0 x5).f0).length : Int) then (if 0 ≤ x6 then (if x6 < (x0.length : Int) then (if x1 < (((rd_T42 x0 x6).f0).length : Int) then (if (rd ((rd_T42 x0 x5).f0) x1) = (rd ((rd_T42 x0 x6).f0) x1) then (some true) else (if 0 ≤ (wrap64 (x1 + 1)) then (if (wrap64 (x1 + 1)) < (((rd_T42 x0 x5).f0).length : Int) then (if (wrap64 (x1 + 1)) < (((rd_T42 x0 x6).f0).length : Int) then (if (rd ((rd_T42 x0 x5).f0) (wrap64 (x1 + 1))) = (rd ((rd_T42 x0 x6).f0) (wrap64 (x1 + 1))) then (some true) else (spec_MeetAt.l1 k x0 x1 x5 (wrap64 (x6 + 1)))) else (none)) else (none)) else (none))) else (none)) else (none)) else (none)) else (none)) else (none)) else (none)) else (none)) else (spec_MeetAt.l0 k x0 x1 (wrap64 (x5 + 1)))
end
def spec_MeetAt.f (k : Nat) (l0 : List (S42)) (a1 : Int) : Option (Bool) := (spec_LevelWays.f k l0 a1).bind fun t136 => (if t136 = true then (spec_MeetAt.l0 k l0 a1 0) else (some false))
theorem spec_MeetAt.mono_l : ∀ k, (∀ y0 y1 y2, LeO (spec_MeetAt.l0 k y0 y1 y2) (spec_MeetAt.l0 (k + 1) y0 y1 y2)) ∧ (∀ y0 y1 y2 y3, LeO (spec_MeetAt.l1 k y0 y1 y2 y3) (spec_MeetAt.l1 (k + 1) y0 y1 y2 y3))
  | 0 => ⟨fun _ _ _ r h => by simp [spec_MeetAt.l0] at h, fun _ _ _ _ r h => by simp [spec_MeetAt.l1] at h⟩
  | k + 1 => by
    obtain ⟨ih0, ih1⟩ := spec_MeetAt.mono_l k
    refine ⟨?_, ?_⟩
    · intro y0 y1 y2
      unfold spec_MeetAt.l0
      repeat' first
      | (with_reducible exact ih0 _ _ _)
      | (with_reducible exact ih1 _ _ _ _)
      | (with_reducible exact spec_LevelWays.mono _ _ _)
      | (with_reducible exact LeO.refl _)
      | (with_reducible exact LeO.none _)
      | (with_reducible refine LeO.ite ?_ ?_)
      | (with_reducible refine LeO.bind ?_ (fun _ => ?_))
      | exact ih0 _ _ _
      | exact ih1 _ _ _ _
      | exact spec_LevelWays.mono _ _ _
      | exact LeO.none _
      | refine LeO.ite ?_ ?_
      | refine LeO.bind ?_ (fun _ => ?_)
    · intro y0 y1 y2 y3
      unfold spec_MeetAt.l1
      repeat' first
      | (with_reducible exact ih0 _ _ _)
      | (with_reducible exact ih1 _ _ _ _)
      | (with_reducible exact spec_LevelWays.mono _ _ _)
      | (with_reducible exact LeO.refl _)
      | (with_reducible exact LeO.none _)
      | (with_reducible refine LeO.ite ?_ ?_)
      | (with_reducible refine LeO.bind ?_ (fun _ => ?_))
      | exact ih0 _ _ _
      | exact ih1 _ _ _ _
      | exact spec_LevelWays.mono _ _ _
      | exact LeO.none _
      | refine LeO.ite ?_ ?_
      | refine LeO.bind ?_ (fun _ => ?_)
theorem spec_MeetAt.mono : ∀ a0 a1 k, LeO (spec_MeetAt.f k a0 a1) (spec_MeetAt.f (k + 1) a0 a1) := by
  intro a0 a1 k
  obtain ⟨ih0, ih1⟩ := spec_MeetAt.mono_l k
  unfold spec_MeetAt.f
  repeat' first
      | (with_reducible exact ih0 _ _ _)
      | (with_reducible exact ih1 _ _ _ _)
      | (with_reducible exact spec_LevelWays.mono _ _ _)
      | (with_reducible exact LeO.refl _)
      | (with_reducible exact LeO.none _)
      | (with_reducible refine LeO.ite ?_ ?_)
      | (with_reducible refine LeO.bind ?_ (fun _ => ?_))
      | exact ih0 _ _ _
      | exact ih1 _ _ _ _
      | exact spec_LevelWays.mono _ _ _
      | exact LeO.none _
      | refine LeO.ite ?_ ?_
      | refine LeO.bind ?_ (fun _ => ?_)
set_option maxHeartbeats 8000000 in
set_option maxRecDepth 100000 in
theorem spec_MeetAt.calls (k : Nat) (A0 : Option Addr) (c0 : Nat) (l0 : List (S42)) (a1 : Int) (r : Bool) (w : World) (hr0 : Kd.C k42 w A0 l0.length l0) (hc0 : l0.length ≤ c0) (h : spec_MeetAt.f k l0 a1 = some r) :
    Calls Try.prog 20 #[.slice A0 l0.length c0, .int .i64 a1] w fun e w' => e = .returned (.bool r) ∧ Drawn0 w w' := by
  have HR0 := Aside0.mk hr0
  have HC0 := Aside0.mk hc0
  clear hr0 hc0
  have H : ((spec_LevelWays.f k l0 a1).bind fun t136 => (if t136 = true then (spec_MeetAt.l0 k l0 a1 0) else (some false))) = some r := h
  clear h
  replace H := Option.bind_eq_some_iff.mp H
  obtain ⟨t136, A30, H⟩ := H
  replace H : (if t136 = true then (spec_MeetAt.l0 k l0 a1 0) else (some false)) = some r := H
  have A3 := Aside0.mk A30
  clear A30
  by_cases c4 : t136 = true
  · subst c4
    have H1 : (spec_MeetAt.l0 k l0 a1 0) = some r := by rw [if_pos rfl] at H; exact H
    clear H
    have H := H1
    clear H1
    have H' := Aside0.mk H
    clear H
    go_enter Try.func20, Try.ntmps20
    go_wp2_with (first | (go_at_call 18; (with_reducible refine (spec_LevelWays.calls k _ _ l0 a1 true _ ?side1 ?side2 A3.out).mono ?_); (case side1 => repeat (first | exact HR0.out | (with_reducible refine Kd.C_alloc ?_ _) | (with_reducible refine Kd.C_drewN ?_ _) | (with_reducible refine Kd.C_drew ?_))); (case side2 => exact HC0.out); rintro e w' ⟨rfl, ⟨nd, rfl⟩⟩; (try first | exact ⟨rfl, _, World.drewN_drewN _ _ _⟩ | exact ⟨rfl, _, Eq.trans (World.drewN_drewN _ _ _) (congrArg (World.drewN _) (Nat.add_assoc _ _ _))⟩)))
    repeat (go_quiet (first | (go_at_call 18; (with_reducible refine (spec_LevelWays.calls k _ _ l0 a1 true _ ?side1 ?side2 A3.out).mono ?_); (case side1 => repeat (first | exact HR0.out | (with_reducible refine Kd.C_alloc ?_ _) | (with_reducible refine Kd.C_drewN ?_ _) | (with_reducible refine Kd.C_drew ?_))); (case side2 => exact HC0.out); rintro e w' ⟨rfl, ⟨nd, rfl⟩⟩; (try first | exact ⟨rfl, _, World.drewN_drewN _ _ _⟩ | exact ⟨rfl, _, Eq.trans (World.drewN_drewN _ _ _) (congrArg (World.drewN _) (Nat.add_assoc _ _ _))⟩))); try go_wp2_with (first | (go_at_call 18; (with_reducible refine (spec_LevelWays.calls k _ _ l0 a1 true _ ?side1 ?side2 A3.out).mono ?_); (case side1 => repeat (first | exact HR0.out | (with_reducible refine Kd.C_alloc ?_ _) | (with_reducible refine Kd.C_drewN ?_ _) | (with_reducible refine Kd.C_drew ?_))); (case side2 => exact HC0.out); rintro e w' ⟨rfl, ⟨nd, rfl⟩⟩; (try first | exact ⟨rfl, _, World.drewN_drewN _ _ _⟩ | exact ⟨rfl, _, Eq.trans (World.drewN_drewN _ _ _) (congrArg (World.drewN _) (Nat.add_assoc _ _ _))⟩))))
    go_loopg [5] k (fun kq v5 w' => ∃ (x5_1 : Int), v5 = .int .i64 x5_1 ∧ Aside0 (spec_MeetAt.l0 kq l0 a1 x5_1 = some r) ∧ Aside0 (kq ≤ k) ∧ Drawn0 w w')
    case atStart => exact ⟨(0), (by first | rfl | (simp; done) | (simp [*]; done)), H', ⟨Nat.le_refl _⟩, by repeat (first | exact Drawn0.refl _ | apply Drawn0.step)⟩
    case round =>
      clear H'
      try clear c2
      try clear p2
      try clear c4
      obtain ⟨x5_1, rfl, HA, HK1, ⟨m1, rfl⟩⟩ := hrel
      cases gk with
      | zero => exact absurd HA.out (by simp [spec_MeetAt.l0])
      | succ k1 =>
        have H := HA.out
        clear HA
        simp only [spec_MeetAt.l0] at H
        by_cases c5 : x5_1 < (l0.length : Int)
        · rw [if_pos c5] at H
          have c5b0 : decide (x5_1 < (l0.length : Int)) = true := decide_eq_true c5
          clear c5
          have H' := Aside0.mk H
          clear H
          go_wp2
          repeat (go_quiet (fail); try go_wp2)
          go_loopg [6] k1 (fun kq v6 w' => ∃ (x6_2 : Int), v6 = .int .i64 x6_2 ∧ Aside0 (spec_MeetAt.l1 kq l0 a1 x5_1 x6_2 = some r) ∧ Aside0 (kq ≤ k1) ∧ Drawn0 w w')
          case atStart => exact ⟨(0), (by first | rfl | (simp; done) | (simp [*]; done)), H', ⟨Nat.le_refl _⟩, by repeat (first | exact Drawn0.refl _ | apply Drawn0.step)⟩
          case round =>
            clear H'
            try clear c2
            try clear p2
            try clear c4
            try clear c5
            try clear c5b0
            try clear p2
            obtain ⟨x6_2, rfl, HA, HK2, ⟨m2, rfl⟩⟩ := hrel
            cases gk with
            | zero => exact absurd HA.out (by simp [spec_MeetAt.l1])
            | succ k2 =>
              have H := HA.out
              clear HA
              simp only [spec_MeetAt.l1] at H
              by_cases c6 : x6_2 < x5_1
              · rw [if_pos c6] at H
                have c6b0 : decide (x6_2 < x5_1) = true := decide_eq_true c6
                clear c6
                by_cases c7 : 0 ≤ x5_1
                · rw [if_pos c7] at H
                  have c7b0 : decide (0 ≤ x5_1) = true := decide_eq_true c7
                  clear c7
                  by_cases c8 : x5_1 < (l0.length : Int)
                  · rw [if_pos c8] at H
                    have c8b0 : decide (x5_1 < (l0.length : Int)) = true := decide_eq_true c8
                    clear c8
                    by_cases c9 : 0 ≤ a1
                    · rw [if_pos c9] at H
                      have c9b0 : decide (0 ≤ a1) = true := decide_eq_true c9
                      clear c9
                      by_cases c10 : a1 < (((rd_T42 l0 x5_1).f0).length : Int)
                      · rw [if_pos c10] at H
                        have c10b0 : decide (a1 < (((rd_T42 l0 x5_1).f0).length : Int)) = true := decide_eq_true c10
                        clear c10
                        by_cases c11 : 0 ≤ x6_2
                        · rw [if_pos c11] at H
                          have c11b0 : decide (0 ≤ x6_2) = true := decide_eq_true c11
                          clear c11
                          by_cases c12 : x6_2 < (l0.length : Int)
                          · rw [if_pos c12] at H
                            have c12b0 : decide (x6_2 < (l0.length : Int)) = true := decide_eq_true c12
                            clear c12
                            by_cases c13 : a1 < (((rd_T42 l0 x6_2).f0).length : Int)
                            · rw [if_pos c13] at H
                              have c13b0 : decide (a1 < (((rd_T42 l0 x6_2).f0).length : Int)) = true := decide_eq_true c13
                              clear c13
                              by_cases c14 : (rd ((rd_T42 l0 x5_1).f0) a1) = (rd ((rd_T42 l0 x6_2).f0) a1)
                              · rw [if_pos c14] at H
                                have c14b0 : ((rd ((rd_T42 l0 x5_1).f0) a1) == (rd ((rd_T42 l0 x6_2).f0) a1)) = true := beq_iff_eq.mpr c14
                                have c14b1 : ((rd ((rd_T42 l0 x5_1).f0) a1) != (rd ((rd_T42 l0 x6_2).f0) a1)) = false := bne_eq_false_iff_eq.mpr c14
                                clear c14
                                obtain rfl := Option.some.inj H
                                have p137 : 0 ≤ (x5_1 : Int) := of_decide_eq_true (by first | (with_reducible assumption) | assumption)
                                have q137 : x5_1 < (l0.length : Int) := of_decide_eq_true (by first | (with_reducible assumption) | assumption)
                                obtain ⟨ad137, A137_0, c137_0, e137, hx137_0, hl137_0, hi137_0⟩ := at_T42 HR0.out x5_1 p137 q137
                                cases e137
                                have HR137_0 := Aside0.mk hi137_0
                                have HC137_0 := Aside0.mk hl137_0
                                clear hi137_0 hl137_0
                                replace p137 := eq_true p137
                                replace q137 := eq_true q137
                                have p138 : 0 ≤ (a1 : Int) := of_decide_eq_true (by first | (with_reducible assumption) | assumption)
                                have q138 : a1 < (((rd_T42 l0 x5_1).f0).length : Int) := of_decide_eq_true (by first | (with_reducible assumption) | assumption)
                                obtain ⟨ad138, e138, hx138_0⟩ := Kd.at_int HR137_0.out a1 p138 q138
                                cases e138
                                replace p138 := eq_true p138
                                replace q138 := eq_true q138
                                have p139 : 0 ≤ (x6_2 : Int) := of_decide_eq_true (by first | (with_reducible assumption) | assumption)
                                have q139 : x6_2 < (l0.length : Int) := of_decide_eq_true (by first | (with_reducible assumption) | assumption)
                                obtain ⟨ad139, A139_0, c139_0, e139, hx139_0, hl139_0, hi139_0⟩ := at_T42 HR0.out x6_2 p139 q139
                                obtain rfl : ad137 = ad139 := (by injection e139)
                                have HR139_0 := Aside0.mk hi139_0
                                have HC139_0 := Aside0.mk hl139_0
                                clear hi139_0 hl139_0
                                replace p139 := eq_true p139
                                replace q139 := eq_true q139
                                have p140 : 0 ≤ (a1 : Int) := of_decide_eq_true (by first | (with_reducible assumption) | assumption)
                                have q140 : a1 < (((rd_T42 l0 x6_2).f0).length : Int) := of_decide_eq_true (by first | (with_reducible assumption) | assumption)
                                obtain ⟨ad140, e140, hx140_0⟩ := Kd.at_int HR139_0.out a1 p140 q140
                                cases e140
                                replace p140 := eq_true p140
                                replace q140 := eq_true q140
                                go_wp2
                                repeat (go_quiet (fail); try go_wp2)
                                go_ret
                                exact ⟨by first | rfl | (simp; done) | (simp [*]; done), by repeat (first | exact Drawn0.refl _ | apply Drawn0.step)⟩
                              · rw [if_neg c14] at H
                                have c14b0 : ((rd ((rd_T42 l0 x5_1).f0) a1) == (rd ((rd_T42 l0 x6_2).f0) a1)) = false := beq_eq_false_iff_ne.mpr c14
                                have c14b1 : ((rd ((rd_T42 l0 x5_1).f0) a1) != (rd ((rd_T42 l0 x6_2).f0) a1)) = true := bne_iff_ne.mpr c14
                                obtain ⟨ji15, hji15⟩ : ∃ j_ : Int, (wrap64 (a1 + 1)) = j_ := ⟨_, rfl⟩
                                replace H : (if 0 ≤ (ji15) then (if (ji15) < (((rd_T42 l0 x5_1).f0).length : Int) then (if (ji15) < (((rd_T42 l0 x6_2).f0).length : Int) then (if (rd ((rd_T42 l0 x5_1).f0) (ji15)) = (rd ((rd_T42 l0 x6_2).f0) (ji15)) then (some true) else (spec_MeetAt.l1 k2 l0 a1 x5_1 (wrap64 (x6_2 + 1)))) else (none)) else (none)) else (none)) = some r := by first | (rw [hji15] at H; exact H) | (simp only [hji15] at H ⊢; exact H)
                                have hji15w : (IntKind.i64.wrap (a1 + 1)) = ji15 := (i64_w _).trans hji15
                                by_cases c16 : 0 ≤ (ji15)
                                · rw [if_pos c16] at H
                                  have c16b0 : decide (0 ≤ (ji15)) = true := decide_eq_true c16
                                  clear c16
                                  by_cases c17 : (ji15) < (((rd_T42 l0 x5_1).f0).length : Int)
                                  · rw [if_pos c17] at H
                                    have c17b0 : decide ((ji15) < (((rd_T42 l0 x5_1).f0).length : Int)) = true := decide_eq_true c17
                                    clear c17
                                    by_cases c18 : (ji15) < (((rd_T42 l0 x6_2).f0).length : Int)
                                    · rw [if_pos c18] at H
                                      have c18b0 : decide ((ji15) < (((rd_T42 l0 x6_2).f0).length : Int)) = true := decide_eq_true c18
                                      clear c18
                                      by_cases c19 : (rd ((rd_T42 l0 x5_1).f0) (ji15)) = (rd ((rd_T42 l0 x6_2).f0) (ji15))
                                      · rw [if_pos c19] at H
                                        have c19b0 : ((rd ((rd_T42 l0 x5_1).f0) (ji15)) == (rd ((rd_T42 l0 x6_2).f0) (ji15))) = true := beq_iff_eq.mpr c19
                                        have c19b1 : ((rd ((rd_T42 l0 x5_1).f0) (ji15)) != (rd ((rd_T42 l0 x6_2).f0) (ji15))) = false := bne_eq_false_iff_eq.mpr c19
                                        clear c19
                                        obtain rfl := Option.some.inj H
                                        have p137 : 0 ≤ (x5_1 : Int) := of_decide_eq_true (by first | (with_reducible assumption) | assumption)
                                        have q137 : x5_1 < (l0.length : Int) := of_decide_eq_true (by first | (with_reducible assumption) | assumption)
                                        obtain ⟨ad137, A137_0, c137_0, e137, hx137_0, hl137_0, hi137_0⟩ := at_T42 HR0.out x5_1 p137 q137
                                        cases e137
                                        have HR137_0 := Aside0.mk hi137_0
                                        have HC137_0 := Aside0.mk hl137_0
                                        clear hi137_0 hl137_0
                                        replace p137 := eq_true p137
                                        replace q137 := eq_true q137
                                        have p138 : 0 ≤ (a1 : Int) := of_decide_eq_true (by first | (with_reducible assumption) | assumption)
                                        have q138 : a1 < (((rd_T42 l0 x5_1).f0).length : Int) := of_decide_eq_true (by first | (with_reducible assumption) | assumption)
                                        obtain ⟨ad138, e138, hx138_0⟩ := Kd.at_int HR137_0.out a1 p138 q138
                                        cases e138
                                        replace p138 := eq_true p138
                                        replace q138 := eq_true q138
                                        have p139 : 0 ≤ (x6_2 : Int) := of_decide_eq_true (by first | (with_reducible assumption) | assumption)
                                        have q139 : x6_2 < (l0.length : Int) := of_decide_eq_true (by first | (with_reducible assumption) | assumption)
                                        obtain ⟨ad139, A139_0, c139_0, e139, hx139_0, hl139_0, hi139_0⟩ := at_T42 HR0.out x6_2 p139 q139
                                        obtain rfl : ad137 = ad139 := (by injection e139)
                                        have HR139_0 := Aside0.mk hi139_0
                                        have HC139_0 := Aside0.mk hl139_0
                                        clear hi139_0 hl139_0
                                        replace p139 := eq_true p139
                                        replace q139 := eq_true q139
                                        have p140 : 0 ≤ (a1 : Int) := of_decide_eq_true (by first | (with_reducible assumption) | assumption)
                                        have q140 : a1 < (((rd_T42 l0 x6_2).f0).length : Int) := of_decide_eq_true (by first | (with_reducible assumption) | assumption)
                                        obtain ⟨ad140, e140, hx140_0⟩ := Kd.at_int HR139_0.out a1 p140 q140
                                        cases e140
                                        replace p140 := eq_true p140
                                        replace q140 := eq_true q140
                                        have p141 : 0 ≤ (x5_1 : Int) := of_decide_eq_true (by first | (with_reducible assumption) | assumption)
                                        have q141 : x5_1 < (l0.length : Int) := of_decide_eq_true (by first | (with_reducible assumption) | assumption)
                                        obtain ⟨ad141, A141_0, c141_0, e141, hx141_0, hl141_0, hi141_0⟩ := at_T42 HR0.out x5_1 p141 q141
                                        obtain rfl : ad137 = ad141 := (by injection e141)
                                        have HR141_0 := Aside0.mk hi141_0
                                        have HC141_0 := Aside0.mk hl141_0
                                        clear hi141_0 hl141_0
                                        replace p141 := eq_true p141
                                        replace q141 := eq_true q141
                                        have ea_ := Option.some.inj (hx137_0.symm.trans hx141_0)
                                        injection ea_ with ea_ en_ ec_
                                        subst ea_
                                        subst ec_
                                        clear en_
                                        have p142 : 0 ≤ ((ji15) : Int) := of_decide_eq_true (by first | (with_reducible assumption) | assumption)
                                        have q142 : (ji15) < (((rd_T42 l0 x5_1).f0).length : Int) := of_decide_eq_true (by first | (with_reducible assumption) | assumption)
                                        obtain ⟨ad142, e142, hx142_0⟩ := Kd.at_int HR141_0.out (ji15) p142 q142
                                        cases e142
                                        replace p142 := eq_true p142
                                        replace q142 := eq_true q142
                                        have p143 : 0 ≤ (x6_2 : Int) := of_decide_eq_true (by first | (with_reducible assumption) | assumption)
                                        have q143 : x6_2 < (l0.length : Int) := of_decide_eq_true (by first | (with_reducible assumption) | assumption)
                                        obtain ⟨ad143, A143_0, c143_0, e143, hx143_0, hl143_0, hi143_0⟩ := at_T42 HR0.out x6_2 p143 q143
                                        obtain rfl : ad137 = ad143 := (by injection e143)
                                        have HR143_0 := Aside0.mk hi143_0
                                        have HC143_0 := Aside0.mk hl143_0
                                        clear hi143_0 hl143_0
                                        replace p143 := eq_true p143
                                        replace q143 := eq_true q143
                                        have ea_ := Option.some.inj (hx139_0.symm.trans hx143_0)
                                        injection ea_ with ea_ en_ ec_
                                        subst ea_
                                        subst ec_
                                        clear en_
                                        have p144 : 0 ≤ ((ji15) : Int) := of_decide_eq_true (by first | (with_reducible assumption) | assumption)
                                        have q144 : (ji15) < (((rd_T42 l0 x6_2).f0).length : Int) := of_decide_eq_true (by first | (with_reducible assumption) | assumption)
                                        obtain ⟨ad144, e144, hx144_0⟩ := Kd.at_int HR143_0.out (ji15) p144 q144
                                        cases e144
                                        replace p144 := eq_true p144
                                        replace q144 := eq_true q144
                                        go_wp2
                                        repeat (go_quiet (fail); try go_wp2)
                                        go_ret
                                        exact ⟨by first | rfl | (simp; done) | (simp only [← hji15] <;> (first | rfl | simp)) | (simp [*]; done), by repeat (first | exact Drawn0.refl _ | apply Drawn0.step)⟩
                                      · rw [if_neg c19] at H
                                        have c19b0 : ((rd ((rd_T42 l0 x5_1).f0) (ji15)) == (rd ((rd_T42 l0 x6_2).f0) (ji15))) = false := beq_eq_false_iff_ne.mpr c19
                                        have c19b1 : ((rd ((rd_T42 l0 x5_1).f0) (ji15)) != (rd ((rd_T42 l0 x6_2).f0) (ji15))) = true := bne_iff_ne.mpr c19
                                        have H' := Aside0.mk H
                                        clear H
                                        have p137 : 0 ≤ (x5_1 : Int) := of_decide_eq_true (by first | (with_reducible assumption) | assumption)
                                        have q137 : x5_1 < (l0.length : Int) := of_decide_eq_true (by first | (with_reducible assumption) | assumption)
                                        obtain ⟨ad137, A137_0, c137_0, e137, hx137_0, hl137_0, hi137_0⟩ := at_T42 HR0.out x5_1 p137 q137
                                        cases e137
                                        have HR137_0 := Aside0.mk hi137_0
                                        have HC137_0 := Aside0.mk hl137_0
                                        clear hi137_0 hl137_0
                                        replace p137 := eq_true p137
                                        replace q137 := eq_true q137
                                        have p138 : 0 ≤ (a1 : Int) := of_decide_eq_true (by first | (with_reducible assumption) | assumption)
                                        have q138 : a1 < (((rd_T42 l0 x5_1).f0).length : Int) := of_decide_eq_true (by first | (with_reducible assumption) | assumption)
                                        obtain ⟨ad138, e138, hx138_0⟩ := Kd.at_int HR137_0.out a1 p138 q138
                                        cases e138
                                        replace p138 := eq_true p138
                                        replace q138 := eq_true q138
                                        have p139 : 0 ≤ (x6_2 : Int) := of_decide_eq_true (by first | (with_reducible assumption) | assumption)
                                        have q139 : x6_2 < (l0.length : Int) := of_decide_eq_true (by first | (with_reducible assumption) | assumption)
                                        obtain ⟨ad139, A139_0, c139_0, e139, hx139_0, hl139_0, hi139_0⟩ := at_T42 HR0.out x6_2 p139 q139
                                        obtain rfl : ad137 = ad139 := (by injection e139)
                                        have HR139_0 := Aside0.mk hi139_0
                                        have HC139_0 := Aside0.mk hl139_0
                                        clear hi139_0 hl139_0
                                        replace p139 := eq_true p139
                                        replace q139 := eq_true q139
                                        have p140 : 0 ≤ (a1 : Int) := of_decide_eq_true (by first | (with_reducible assumption) | assumption)
                                        have q140 : a1 < (((rd_T42 l0 x6_2).f0).length : Int) := of_decide_eq_true (by first | (with_reducible assumption) | assumption)
                                        obtain ⟨ad140, e140, hx140_0⟩ := Kd.at_int HR139_0.out a1 p140 q140
                                        cases e140
                                        replace p140 := eq_true p140
                                        replace q140 := eq_true q140
                                        have p141 : 0 ≤ (x5_1 : Int) := of_decide_eq_true (by first | (with_reducible assumption) | assumption)
                                        have q141 : x5_1 < (l0.length : Int) := of_decide_eq_true (by first | (with_reducible assumption) | assumption)
                                        obtain ⟨ad141, A141_0, c141_0, e141, hx141_0, hl141_0, hi141_0⟩ := at_T42 HR0.out x5_1 p141 q141
                                        obtain rfl : ad137 = ad141 := (by injection e141)
                                        have HR141_0 := Aside0.mk hi141_0
                                        have HC141_0 := Aside0.mk hl141_0
                                        clear hi141_0 hl141_0
                                        replace p141 := eq_true p141
                                        replace q141 := eq_true q141
                                        have ea_ := Option.some.inj (hx137_0.symm.trans hx141_0)
                                        injection ea_ with ea_ en_ ec_
                                        subst ea_
                                        subst ec_
                                        clear en_
                                        have p142 : 0 ≤ ((ji15) : Int) := of_decide_eq_true (by first | (with_reducible assumption) | assumption)
                                        have q142 : (ji15) < (((rd_T42 l0 x5_1).f0).length : Int) := of_decide_eq_true (by first | (with_reducible assumption) | assumption)
                                        obtain ⟨ad142, e142, hx142_0⟩ := Kd.at_int HR141_0.out (ji15) p142 q142
                                        cases e142
                                        replace p142 := eq_true p142
                                        replace q142 := eq_true q142
                                        have p143 : 0 ≤ (x6_2 : Int) := of_decide_eq_true (by first | (with_reducible assumption) | assumption)
                                        have q143 : x6_2 < (l0.length : Int) := of_decide_eq_true (by first | (with_reducible assumption) | assumption)
                                        obtain ⟨ad143, A143_0, c143_0, e143, hx143_0, hl143_0, hi143_0⟩ := at_T42 HR0.out x6_2 p143 q143
                                        obtain rfl : ad137 = ad143 := (by injection e143)
                                        have HR143_0 := Aside0.mk hi143_0
                                        have HC143_0 := Aside0.mk hl143_0
                                        clear hi143_0 hl143_0
                                        replace p143 := eq_true p143
                                        replace q143 := eq_true q143
                                        have ea_ := Option.some.inj (hx139_0.symm.trans hx143_0)
                                        injection ea_ with ea_ en_ ec_
                                        subst ea_
                                        subst ec_
                                        clear en_
                                        have p144 : 0 ≤ ((ji15) : Int) := of_decide_eq_true (by first | (with_reducible assumption) | assumption)
                                        have q144 : (ji15) < (((rd_T42 l0 x6_2).f0).length : Int) := of_decide_eq_true (by first | (with_reducible assumption) | assumption)
                                        obtain ⟨ad144, e144, hx144_0⟩ := Kd.at_int HR143_0.out (ji15) p144 q144
                                        cases e144
                                        replace p144 := eq_true p144
                                        replace q144 := eq_true q144
                                        go_wp2
                                        repeat (go_quiet (fail); try go_wp2)
                                        go_roundg k2
                                        case measure => have := HK1.out; have := HK2.out; omega
                                        case rel => exact ⟨(wrap64 (x6_2 + 1)), (by first | rfl | (simp; done) | (simp [*]; done)), H', ⟨by have := HK1.out; have := HK2.out; omega⟩, by repeat (first | exact Drawn0.refl _ | apply Drawn0.step)⟩
                                    · rw [if_neg c18] at H
                                      exact absurd H (by simp)
                                  · rw [if_neg c17] at H
                                    exact absurd H (by simp)
                                · rw [if_neg c16] at H
                                  exact absurd H (by simp)
                            · rw [if_neg c13] at H
                              exact absurd H (by simp)
                          · rw [if_neg c12] at H
                            exact absurd H (by simp)
                        · rw [if_neg c11] at H
                          exact absurd H (by simp)
                      · rw [if_neg c10] at H
                        exact absurd H (by simp)
                    · rw [if_neg c9] at H
                      exact absurd H (by simp)
                  · rw [if_neg c8] at H
                    exact absurd H (by simp)
                · rw [if_neg c7] at H
                  exact absurd H (by simp)
              · rw [if_neg c6] at H
                have c6b0 : decide (x6_2 < x5_1) = false := decide_eq_false c6
                clear c6
                have H' := Aside0.mk H
                clear H
                go_wp2
                repeat (go_quiet (fail); try go_wp2)
                go_roundg k2
                case measure => have := HK1.out; have := HK2.out; omega
                case rel => exact ⟨(wrap64 (x5_1 + 1)), (by first | rfl | (simp; done) | (simp [*]; done)), H', ⟨by have := HK1.out; have := HK2.out; omega⟩, by repeat (first | exact Drawn0.refl _ | apply Drawn0.step)⟩
        · rw [if_neg c5] at H
          have c5b0 : decide (x5_1 < (l0.length : Int)) = false := decide_eq_false c5
          clear c5
          obtain rfl := Option.some.inj H
          go_wp2
          repeat (go_quiet (fail); try go_wp2)
          go_ret
          exact ⟨by first | rfl | (simp; done) | (simp [*]; done), by repeat (first | exact Drawn0.refl _ | apply Drawn0.step)⟩
  · replace c4 := Bool.eq_false_iff.mpr c4
    subst c4
    have H1 : (some false) = some r := by rw [if_neg (show ¬ (false = true) by decide)] at H; exact H
    clear H
    have H := H1
    clear H1
    obtain rfl := Option.some.inj H
    go_enter Try.func20, Try.ntmps20
    go_wp2_with (first | (go_at_call 18; (with_reducible refine (spec_LevelWays.calls k _ _ l0 a1 false _ ?side1 ?side2 A3.out).mono ?_); (case side1 => repeat (first | exact HR0.out | (with_reducible refine Kd.C_alloc ?_ _) | (with_reducible refine Kd.C_drewN ?_ _) | (with_reducible refine Kd.C_drew ?_))); (case side2 => exact HC0.out); rintro e w' ⟨rfl, ⟨nd, rfl⟩⟩; (try first | exact ⟨rfl, _, World.drewN_drewN _ _ _⟩ | exact ⟨rfl, _, Eq.trans (World.drewN_drewN _ _ _) (congrArg (World.drewN _) (Nat.add_assoc _ _ _))⟩)))
    repeat (go_quiet (first | (go_at_call 18; (with_reducible refine (spec_LevelWays.calls k _ _ l0 a1 false _ ?side1 ?side2 A3.out).mono ?_); (case side1 => repeat (first | exact HR0.out | (with_reducible refine Kd.C_alloc ?_ _) | (with_reducible refine Kd.C_drewN ?_ _) | (with_reducible refine Kd.C_drew ?_))); (case side2 => exact HC0.out); rintro e w' ⟨rfl, ⟨nd, rfl⟩⟩; (try first | exact ⟨rfl, _, World.drewN_drewN _ _ _⟩ | exact ⟨rfl, _, Eq.trans (World.drewN_drewN _ _ _) (congrArg (World.drewN _) (Nat.add_assoc _ _ _))⟩))); try go_wp2_with (first | (go_at_call 18; (with_reducible refine (spec_LevelWays.calls k _ _ l0 a1 false _ ?side1 ?side2 A3.out).mono ?_); (case side1 => repeat (first | exact HR0.out | (with_reducible refine Kd.C_alloc ?_ _) | (with_reducible refine Kd.C_drewN ?_ _) | (with_reducible refine Kd.C_drew ?_))); (case side2 => exact HC0.out); rintro e w' ⟨rfl, ⟨nd, rfl⟩⟩; (try first | exact ⟨rfl, _, World.drewN_drewN _ _ _⟩ | exact ⟨rfl, _, Eq.trans (World.drewN_drewN _ _ _) (congrArg (World.drewN _) (Nat.add_assoc _ _ _))⟩))))
    go_ret
    exact ⟨by first | rfl | (simp; done) | (simp [*]; done), by repeat (first | exact Drawn0.refl _ | apply Drawn0.step)⟩

/-! ### slices.IndexFunc, slices.ContainsFunc over whole numbers, at whatever function value that tells p -/
def findI {α : Type} (p : α → Bool) : List α → Int
  | [] => -1
  | x :: xs => if p x then 0 else (let r := findI p xs; if r < 0 then -1 else r + 1)
theorem findI_range {α : Type} (p : α → Bool) : ∀ l : List α, -1 ≤ findI p l ∧ findI p l < l.length ∨ findI p l = -1
  | [] => .inr rfl
  | x :: xs => by
    unfold findI
    have := findI_range p xs
    by_cases h : p x = true
    · rw [if_pos h]; left; simp only [List.length_cons]; omega
    · rw [if_neg h]; simp only [List.length_cons]
      by_cases h2 : findI p xs < 0
      · rw [if_pos h2]; right; rfl
      · rw [if_neg h2]; left; omega
theorem findI_hit {α : Type} (p : α → Bool) : ∀ (l : List α) (d : α) (k : Nat), k < l.length → p (l.getD k d) = true → (∀ j, j < k → p (l.getD j d) = false) → findI p l = (k : Int)
  | [], d, k, h, _, _ => absurd h (Nat.not_lt_zero _)
  | x :: xs, d, 0, _, hp, _ => by unfold findI; rw [if_pos (by simpa using hp)]; rfl
  | x :: xs, d, k + 1, h, hp, hn => by
    unfold findI
    have h0 := hn 0 (Nat.succ_pos _)
    rw [if_neg (by simpa using h0)]
    have := findI_hit p xs d k (by simpa using h) (by simpa using hp) (fun j hj => by simpa using hn (j + 1) (by omega))
    simp only [this]; rw [if_neg (by omega)]; omega
theorem findI_miss {α : Type} (p : α → Bool) : ∀ (l : List α) (d : α), (∀ j, j < l.length → p (l.getD j d) = false) → findI p l = -1
  | [], _, _ => rfl
  | x :: xs, d, hn => by
    unfold findI
    have h0 := hn 0 (by simp)
    rw [if_neg (by simpa using h0)]
    have := findI_miss p xs d (fun j hj => by simpa using hn (j + 1) (by simpa using hj))
    simp only [this]; rfl
theorem findI_any {α : Type} (p : α → Bool) : ∀ l : List α, decide (findI p l ≥ 0) = l.any p
  | [] => rfl
  | x :: xs => by
    have ih := findI_any p xs
    unfold findI
    by_cases h : p x = true
    · rw [if_pos h]; simp [h]
    · rw [if_neg h]
      simp only [List.any_cons, Bool.eq_false_iff.mpr h, Bool.false_or, ← ih]
      by_cases h2 : findI p xs < 0
      · simp only [if_pos h2]; rw [decide_eq_false (by omega), decide_eq_false (by omega)]
      · simp only [if_neg h2]; rw [decide_eq_true (by omega), decide_eq_true (by omega)]
theorem entersOf {f : FuncId} {fn : Func} {c : Code} (hf : Try.prog.funcs[f]? = some fn) (hn : (fn.name == "runtime.NumGoroutine") = false) (hb : fn.body = some c) : ∀ args w, (callFunc f args).run Try.prog w = .ok (.enter f args) w := by
  intro args w
  have h : fn.name ≠ "runtime.NumGoroutine" := fun e => by rw [e] at hn; simp at hn
  simp [callFunc, hf, h, hb, mark]
/-- What a function value owes: called at an element of l in any world that leaves w as it was, it tells p of it and leaves that world as it was. -/
def Tells {α : Type} (g : Nat) (lb : Array Value) (enc : α → Value) (p : α → Bool) (l : List α) (w : World) : Prop :=
  ∀ (W : World) (x : α), x ∈ l → Below w.heap.size w W → Calls Try.prog g (#[enc x] ++ lb) W fun e w' => e = .returned (.bool (p x)) ∧ Below W.heap.size W w'

/-! ### slices.IndexFunc, slices.ContainsFunc over ways, at whatever function value that tells p -/
/-- What a function value over ways owes. -/
def TellsWay (g : Nat) (lb : Array Value) (p : S42 → Bool) (l : List S42) (w : World) : Prop :=
  ∀ (W : World) (x : S42) (Ax : Option Addr) (cx : Nat), x ∈ l → Below w.heap.size w W → x.f0.length ≤ cx → (Kd.int .i64).C W Ax x.f0.length x.f0 → Calls Try.prog g (#[Value.agg #[.slice Ax x.f0.length cx]] ++ lb) W fun e w' => e = .returned (.bool (p x)) ∧ Below W.heap.size W w'
set_option maxHeartbeats 8000000 in
set_option maxRecDepth 100000 in
theorem indexFunc_Way (p : S42 → Bool) (g : Nat) (lb : Array Value) (eg : ∀ args w, (callFunc g args).run Try.prog w = .ok (.enter g args) w)
    (A : Option Addr) (c : Nat) (l : List S42) (w : World) (hr : Kd.C k42 w A l.length l) (hc : l.length ≤ c) (hp : TellsWay g lb p l w) :
    Calls Try.prog 69 #[.slice A l.length c, .func (.func g) #[] lb] w fun e w' => e = .returned (.int .i64 (findI p l)) ∧ Below w.heap.size w w' := by
  have HP : Aside0 (∀ (W : World) (x : S42) (Ax : Option Addr) (cx : Nat), x ∈ l → Below w.heap.size w W → x.f0.length ≤ cx → (Kd.int .i64).C W Ax x.f0.length x.f0 → Calls Try.prog g (#[Value.agg #[.slice Ax x.f0.length cx]] ++ lb) W fun e w' => e = .returned (.bool (p x)) ∧ Below W.heap.size W w') := ⟨hp⟩
  have HR := Aside0.mk hr
  have hn : l.length ≤ 9223372036854775807 := hr.2.1
  clear hp hr
  go_enter Try.func69, Try.ntmps69
  go_wp2
  go_loopg [5, 8] l.length (fun gg _ s8 wr => ∃ kk : Nat, kk ≤ l.length ∧ l.length - kk ≤ gg ∧ s8 = .int .i64 kk ∧ Aside0 (Below w.heap.size w wr) ∧ Aside0 (∀ j, j < kk → p (l.getD j z42) = false))
  case atStart => exact ⟨0, Nat.zero_le _, by omega, rfl, ⟨Below.refl _ _⟩, ⟨fun j hj => absurd hj (Nat.not_lt_zero _)⟩⟩
  case round =>
    obtain ⟨kk, hkk, hg, rfl, HB, HA⟩ := hrel
    by_cases hlt : kk < l.length
    · have hltz : (kk : Int) < (l.length : Int) := by omega
      obtain ⟨ad, Ax, cx, ead, hx0, hlx, hix⟩ := at_T42 HR.out (kk : Int) (by omega) hltz
      cases ead
      rw [Int.toNat_natCast] at hx0
      replace hx0 := (HB.out.cell (World.block_lt_of_cell? w _ hx0)).trans hx0
      replace hix := Kd.C_below hix HB.out
      have hcall := HP.out _ (rd_T42 l kk) Ax cx (by rw [rd_T42, Int.toNat_natCast, List.getD_eq_getElem?_getD, List.getElem?_eq_getElem hlt]; exact List.getElem_mem hlt) HB.out hlx hix
      clear hix hlx
      have HX : Aside0 (rd_T42 l kk = l.getD kk z42) := ⟨by simp [rd_T42]⟩
      generalize hy : rd_T42 l kk = y at hcall hx0 HX
      clear hy
      cases hq : p y with
      | true =>
        rw [hq] at hcall
        have HCALL := Aside0.mk hcall
        clear hcall
        have HQ := Aside0.mk hq
        clear hq
        go_wp2_with fail
        refine HCALL.out.mono ?_
        rintro e w' ⟨rfl, hb⟩
        go_wp2
        go_ret
        refine ⟨?_, below_step HB.out hb⟩
        rw [findI_hit p l z42 kk hlt (by rw [← HX.out]; exact HQ.out) HA.out]
        rfl
      | false =>
        rw [hq] at hcall
        have HCALL := Aside0.mk hcall
        clear hcall
        have HQ := Aside0.mk hq
        clear hq
        go_wp2_with fail
        refine HCALL.out.mono ?_
        rintro e w' ⟨rfl, hb⟩
        go_wp2
        have HB2 := Aside0.mk (below_step HB.out hb)
        go_roundg (l.length - (kk + 1))
        case measure => omega
        case rel =>
          refine ⟨kk + 1, by omega, by omega, by go_num, HB2, ⟨fun j hj => ?_⟩⟩
          by_cases e : j = kk
          · subst e; rw [← HX.out]; exact HQ.out
          · exact HA.out j (by omega)
    · have hltz : ¬ (kk : Int) < (l.length : Int) := by omega
      have hkl : kk = l.length := by omega
      have HA2 : Aside0 (∀ j, j < l.length → p (l.getD j z42) = false) := ⟨by rw [← hkl]; exact HA.out⟩
      clear hkl HA
      go_wp2
      go_ret
      exact ⟨by rw [findI_miss p l z42 HA2.out]; rfl, HB.out⟩

set_option maxHeartbeats 8000000 in
set_option maxRecDepth 100000 in
theorem containsFunc_Way (p : S42 → Bool) (g : Nat) (lb : Array Value) (eg : ∀ args w, (callFunc g args).run Try.prog w = .ok (.enter g args) w)
    (A : Option Addr) (c : Nat) (l : List S42) (w : World) (hr : Kd.C k42 w A l.length l) (hc : l.length ≤ c) (hp : TellsWay g lb p l w) :
    Calls Try.prog 67 #[.slice A l.length c, .func (.func g) #[] lb] w fun e w' => e = .returned (.bool (l.any p)) ∧ Below w.heap.size w w' := by
  have H := indexFunc_Way p g lb eg A c l w hr hc hp
  rw [← findI_any]
  generalize findI p l = y at H
  clear hp hr
  go_enter Try.func67, Try.ntmps67
  go_wp2_with (go_at_call 69; refine H.mono ?_; rintro e w' ⟨rfl, hb⟩)
  go_ret
  exact ⟨rfl, hb⟩

/-! ### slices.ContainsFunc with areLevel's literal -/
def hof_areLevel.p (l1 : List S42) (x : S42) : Bool := (x.f0.length : Int) != ((rd_T42 l1 0).f0.length : Int)
def hof_areLevel.f (l0 : List S42) (l1 : List S42) : Option Bool := if 0 < l1.length then some (l0.any (hof_areLevel.p l1)) else none
theorem hof_areLevel.tells (l1 : List S42) (A1 : Option Addr) (c1 : Nat) (B : Nat) (l : List S42) (w : World) (h0 : 0 < l1.length) (hr1 : Kd.C k42 w A1 l1.length l1) (hB : w.heap[B]? = some (.cells #[.slice A1 l1.length c1] 25 (0, 0))) :
    TellsWay 68 #[.pointer (some ⟨B, 0, none⟩)] (hof_areLevel.p l1) l w := by
  intro W x Ax cx _ hb hl hi
  have hB2 : W.heap[B]? = some (.cells #[.slice A1 l1.length c1] 25 (0, 0)) := (hb.block B (blk_lt hB)).trans hB
  have hc1 : W.cell? ⟨B, 0, none⟩ = some (.slice A1 l1.length c1) := blk_cell hB2 0
  have hrW := Kd.C_below hr1 hb
  obtain ⟨ad, Ay, cy, ead, hx0, hly, hiy⟩ := at_T42 hrW 0 (by omega) (by omega)
  cases ead
  have hx1 : W.cell? ad = some (.slice Ay (rd_T42 l1 0).f0.length cy) := by rwa [show ad.add (Int.toNat 0) = ad from by cases ad; rfl] at hx0
  have hs1 : ∀ o : Obj, (W.alloc o).cell? ad = some (.slice Ay (rd_T42 l1 0).f0.length cy) := fun o => (World.cell?_alloc_lt W o ad (World.block_lt_of_cell? W _ hx1)).trans hx1
  have hc2 : ∀ o : Obj, (W.alloc o).cell? ⟨B, 0, none⟩ = some (.slice (some ad) l1.length c1) := fun o => (World.cell?_alloc_lt W o ⟨B, 0, none⟩ (blk_lt hB2)).trans hc1
  try clear hx0
  have hg : decide ((0 : Int) < (l1.length : Int)) = true := decide_eq_true (by omega)
  clear hrW hiy hi hr1 hB hb hB2
  show Calls Try.prog 68 #[.agg #[.slice Ax x.f0.length cx], .pointer (some ⟨B, 0, none⟩)] W _
  unfold hof_areLevel.p
  have hu := Try.underlying42
  go_enter Try.func68, Try.ntmps68
  go_wp2
  repeat (go_quiet (fail); try go_wp2)
  go_ret
  exact ⟨by first | rfl | simp [BEq.beq] | trace_state, by first | exact (Below.refl _ W).alloc (Nat.le_refl _) _ | exact pw_below_drewN ((Below.refl _ W).alloc (Nat.le_refl _) _) _⟩
theorem hof_areLevel.calls (A0 : Option Addr) (c0 : Nat) (l0 : List S42) (A1 : Option Addr) (c1 : Nat) (l1 : List S42) (B : Nat) (r : Bool) (w : World) (hr0 : Kd.C k42 w A0 l0.length l0) (hc0 : l0.length ≤ c0) (hr1 : Kd.C k42 w A1 l1.length l1) (hc1 : l1.length ≤ c1)
    (hb : w.heap[B]? = some (.cells #[.slice A1 l1.length c1] 25 (0, 0))) (h : hof_areLevel.f l0 l1 = some r) :
    Calls Try.prog 67 #[.slice A0 l0.length c0, .func (.func 68) #[] #[.pointer (some ⟨B, 0, none⟩)]] w fun e w' => e = .returned (.bool r) ∧ Below w.heap.size w w' := by
  unfold hof_areLevel.f at h
  by_cases h0 : 0 < l1.length
  · rw [if_pos h0] at h
    obtain rfl := Option.some.inj h
    have eg : ∀ args w, (callFunc 68 args).run Try.prog w = .ok (.enter 68 args) w := entersOf Try.func68 (by kernel_rfl) rfl
    exact containsFunc_Way (hof_areLevel.p l1) _ _ eg A0 c0 l0 w hr0 hc0 (hof_areLevel.tells l1 A1 c1 B l0 w h0 hr1 hb)
  · rw [if_neg h0] at h
    exact absurd h (by simp)

/-! ### impl_areLevel: function 46 -/
def impl_areLevel.f (l0 : List (S42)) : Option (Bool) := if (l0.length : Int) ≥ 1 then (if (l0.length : Int) ≤ 10 then ((hof_areLevel.f l0 l0).bind fun t146 => (some (!t146))) else (some false)) else (some false)
set_option maxHeartbeats 8000000 in
set_option maxRecDepth 100000 in
theorem impl_areLevel.calls (A0 : Option Addr) (c0 : Nat) (l0 : List (S42)) (r : Bool) (w : World) (hr0 : Kd.C k42 w A0 l0.length l0) (hc0 : l0.length ≤ c0) (h : impl_areLevel.f l0 = some r) :
    Calls Try.prog 46 #[.slice A0 l0.length c0] w fun e w' => e = .returned (.bool r) ∧ Below w.heap.size w w' := by
  have HR0 := Aside0.mk hr0
  have HC0 := Aside0.mk hc0
  clear hr0 hc0
  have HB := Aside0.mk (Below.refl w.heap.size w)
  have H : (if (l0.length : Int) ≥ 1 then (if (l0.length : Int) ≤ 10 then ((hof_areLevel.f l0 l0).bind fun t146 => (some (!t146))) else (some false)) else (some false)) = some r := h
  clear h
  by_cases c2 : (l0.length : Int) ≥ 1
  · rw [if_pos c2] at H
    have c2b0 : decide (1 ≤ (l0.length : Int)) = true := decide_eq_true c2
    have c2b1 : decide (1 ≤ l0.length) = true := decide_eq_true (by omega)
    clear c2
    by_cases c3 : (l0.length : Int) ≤ 10
    · rw [if_pos c3] at H
      have c3b0 : decide ((l0.length : Int) ≤ 10) = true := decide_eq_true c3
      have c3b1 : decide (l0.length ≤ 10) = true := decide_eq_true (by omega)
      clear c3
      replace H := Option.bind_eq_some_iff.mp H
      obtain ⟨t146, A40, H⟩ := H
      replace H : (some (!t146)) = some r := H
      have A4 := Aside0.mk A40
      clear A40
      obtain rfl := Option.some.inj H
      go_enter Try.func46, Try.ntmps46
      go_wp2_with (first | ((with_reducible refine gate_dst (N := 1) rfl ?_); (try (refine gate_guard (by rfl) ?_; dsimp only)); refine box_event ?hg (N := 1) ?hd (cs := #[.slice A0 l0.length c0]) (t := 25) ?hr ?_; (case hd => rfl); (case hg => rfl); (case hr => first | (go_simp; done) | (go_simp; rfl)); intro gb145 hg w5 hbox hb; have n0_ := Aside0.mk (below_step (by repeat (first | (with_reducible first | exact HB.out | apply below_alloc | apply pw_below_drewN | apply below_drew1) | exact HB.out)) hb); have n1_ := Aside0.mk (hbox); have n2_ := Aside0.mk ((by rw [hg]; exact (below_size (by repeat (first | (with_reducible first | exact HB.out | apply below_alloc | apply pw_below_drewN | apply below_drew1) | exact HB.out))) : w.heap.size ≤ gb145)); have n3_ := Aside0.mk ((by rw [hg]; exact (below_size (by repeat (first | (with_reducible first | exact HB.out | apply below_alloc | apply pw_below_drewN | apply below_drew1) | exact HB.out))) : w.heap.size ≤ gb145)); clear HB; have HB := n0_; have BK145 := n1_; have GW145 := n2_; have GE145 := n3_; clear n0_ n1_ n2_ n3_; clear hb hbox hg; have hcz6_0 : w5.cell? ⟨gb145, 0, none⟩ = some (.slice A0 l0.length c0) := (blk_cell BK145.out 0).trans rfl; have hfz6_0 := blk_frozen BK145.out 0) | (go_at_call 67; (with_reducible refine (hof_areLevel.calls _ _ l0 _ _ l0 _ t146 _ ?side1 ?side2 ?side3 ?side4 (by exact (by (with_reducible repeat (first | refine blk_drewN ?_ _ | refine blk_drew ?_ | refine blk_alloc ?_ _)); exact BK145.out)) A4.out).mono ?_); (case side1 => repeat (first | exact (Kd.C_below HR0.out HB.out) | (with_reducible refine Kd.C_alloc ?_ _) | (with_reducible refine Kd.C_drewN ?_ _) | (with_reducible refine Kd.C_drew ?_))); (case side2 => exact HC0.out); (case side3 => repeat (first | exact (Kd.C_below HR0.out HB.out) | (with_reducible refine Kd.C_alloc ?_ _) | (with_reducible refine Kd.C_drewN ?_ _) | (with_reducible refine Kd.C_drew ?_))); (case side4 => exact HC0.out); rintro e w7 ⟨rfl, hb⟩; have n0_ := Aside0.mk (blk_below (g := gb145) (o := .cells #[.slice A0 l0.length c0] 25 (0, 0)) (by (with_reducible repeat (first | refine blk_drewN ?_ _ | refine blk_drew ?_ | refine blk_alloc ?_ _)); exact BK145.out) hb); have n1_ := Aside0.mk (below_step (by repeat (first | (with_reducible first | exact HB.out | apply below_alloc | apply pw_below_drewN | apply below_drew1 | refine below_set ?_ GE145.out) | exact HB.out)) hb); clear BK145; clear HB; have BK145 := n0_; have HB := n1_; clear n0_ n1_; (try clear hb); (try clear hb2); (try clear hk); (try clear hi)))
      go_ret
      exact ⟨by first | rfl | (simp [errW_none, errW_some] <;> rfl) | (simp [*, errW_none, errW_some] <;> rfl), by repeat (first | (with_reducible first | exact HB.out | apply below_alloc | apply pw_below_drewN | apply below_drew1 | refine below_set ?_ GE145.out) | exact HB.out)⟩
    · rw [if_neg c3] at H
      have c3b0 : decide ((l0.length : Int) ≤ 10) = false := decide_eq_false c3
      have c3b1 : decide (l0.length ≤ 10) = false := decide_eq_false (by omega)
      clear c3
      obtain rfl := Option.some.inj H
      go_enter Try.func46, Try.ntmps46
      go_wp2_with (first | ((with_reducible refine gate_dst (N := 1) rfl ?_); (try (refine gate_guard (by rfl) ?_; dsimp only)); refine box_event ?hg (N := 1) ?hd (cs := #[.slice A0 l0.length c0]) (t := 25) ?hr ?_; (case hd => rfl); (case hg => rfl); (case hr => first | (go_simp; done) | (go_simp; rfl)); intro gb145 hg w8 hbox hb; have n0_ := Aside0.mk (below_step (by repeat (first | (with_reducible first | exact HB.out | apply below_alloc | apply pw_below_drewN | apply below_drew1) | exact HB.out)) hb); have n1_ := Aside0.mk (hbox); have n2_ := Aside0.mk ((by rw [hg]; exact (below_size (by repeat (first | (with_reducible first | exact HB.out | apply below_alloc | apply pw_below_drewN | apply below_drew1) | exact HB.out))) : w.heap.size ≤ gb145)); have n3_ := Aside0.mk ((by rw [hg]; exact (below_size (by repeat (first | (with_reducible first | exact HB.out | apply below_alloc | apply pw_below_drewN | apply below_drew1) | exact HB.out))) : w.heap.size ≤ gb145)); clear HB; have HB := n0_; have BK145 := n1_; have GW145 := n2_; have GE145 := n3_; clear n0_ n1_ n2_ n3_; clear hb hbox hg; have hcz9_0 : w8.cell? ⟨gb145, 0, none⟩ = some (.slice A0 l0.length c0) := (blk_cell BK145.out 0).trans rfl; have hfz9_0 := blk_frozen BK145.out 0))
      go_ret
      exact ⟨by first | rfl | (simp [errW_none, errW_some] <;> rfl) | (simp [*, errW_none, errW_some] <;> rfl), by repeat (first | (with_reducible first | exact HB.out | apply below_alloc | apply pw_below_drewN | apply below_drew1 | refine below_set ?_ GE145.out) | exact HB.out)⟩
  · rw [if_neg c2] at H
    have c2b0 : decide (1 ≤ (l0.length : Int)) = false := decide_eq_false c2
    have c2b1 : decide (1 ≤ l0.length) = false := decide_eq_false (by omega)
    clear c2
    obtain rfl := Option.some.inj H
    go_enter Try.func46, Try.ntmps46
    go_wp2_with (first | ((with_reducible refine gate_dst (N := 1) rfl ?_); (try (refine gate_guard (by rfl) ?_; dsimp only)); refine box_event ?hg (N := 1) ?hd (cs := #[.slice A0 l0.length c0]) (t := 25) ?hr ?_; (case hd => rfl); (case hg => rfl); (case hr => first | (go_simp; done) | (go_simp; rfl)); intro gb145 hg w10 hbox hb; have n0_ := Aside0.mk (below_step (by repeat (first | (with_reducible first | exact HB.out | apply below_alloc | apply pw_below_drewN | apply below_drew1) | exact HB.out)) hb); have n1_ := Aside0.mk (hbox); have n2_ := Aside0.mk ((by rw [hg]; exact (below_size (by repeat (first | (with_reducible first | exact HB.out | apply below_alloc | apply pw_below_drewN | apply below_drew1) | exact HB.out))) : w.heap.size ≤ gb145)); have n3_ := Aside0.mk ((by rw [hg]; exact (below_size (by repeat (first | (with_reducible first | exact HB.out | apply below_alloc | apply pw_below_drewN | apply below_drew1) | exact HB.out))) : w.heap.size ≤ gb145)); clear HB; have HB := n0_; have BK145 := n1_; have GW145 := n2_; have GE145 := n3_; clear n0_ n1_ n2_ n3_; clear hb hbox hg; have hcz11_0 : w10.cell? ⟨gb145, 0, none⟩ = some (.slice A0 l0.length c0) := (blk_cell BK145.out 0).trans rfl; have hfz11_0 := blk_frozen BK145.out 0))
    go_ret
    exact ⟨by first | rfl | (simp [errW_none, errW_some] <;> rfl) | (simp [*, errW_none, errW_some] <;> rfl), by repeat (first | (with_reducible first | exact HB.out | apply below_alloc | apply pw_below_drewN | apply below_drew1 | refine below_set ?_ GE145.out) | exact HB.out)⟩

/-! ### impl_LevelWays: function 19 -/
def impl_LevelWays.f (l0 : List (S42)) (a1 : Int) : Option (Bool) := (impl_areLevel.f l0).bind fun t147 => (if t147 = true then (if a1 ≥ 0 then (if 0 < (l0.length : Int) then (some (decide (a1 < (wrap64 ((((rd_T42 l0 0).f0).length : Int) - 1))))) else (none)) else (some false)) else (some false))
set_option maxHeartbeats 8000000 in
set_option maxRecDepth 100000 in
theorem impl_LevelWays.calls (A0 : Option Addr) (c0 : Nat) (l0 : List (S42)) (a1 : Int) (r : Bool) (w : World) (hr0 : Kd.C k42 w A0 l0.length l0) (hc0 : l0.length ≤ c0) (h : impl_LevelWays.f l0 a1 = some r) :
    Calls Try.prog 19 #[.slice A0 l0.length c0, .int .i64 a1] w fun e w' => e = .returned (.bool r) ∧ Below w.heap.size w w' := by
  have HR0 := Aside0.mk hr0
  have HC0 := Aside0.mk hc0
  clear hr0 hc0
  have HB := Aside0.mk (Below.refl w.heap.size w)
  have H : ((impl_areLevel.f l0).bind fun t147 => (if t147 = true then (if a1 ≥ 0 then (if 0 < (l0.length : Int) then (some (decide (a1 < (wrap64 ((((rd_T42 l0 0).f0).length : Int) - 1))))) else (none)) else (some false)) else (some false))) = some r := h
  clear h
  replace H := Option.bind_eq_some_iff.mp H
  obtain ⟨t147, A30, H⟩ := H
  replace H : (if t147 = true then (if a1 ≥ 0 then (if 0 < (l0.length : Int) then (some (decide (a1 < (wrap64 ((((rd_T42 l0 0).f0).length : Int) - 1))))) else (none)) else (some false)) else (some false)) = some r := H
  have A3 := Aside0.mk A30
  clear A30
  by_cases c4 : t147 = true
  · subst c4
    have H1 : (if a1 ≥ 0 then (if 0 < (l0.length : Int) then (some (decide (a1 < (wrap64 ((((rd_T42 l0 0).f0).length : Int) - 1))))) else (none)) else (some false)) = some r := by rw [if_pos rfl] at H; exact H
    clear H
    have H := H1
    clear H1
    by_cases c5 : a1 ≥ 0
    · rw [if_pos c5] at H
      have c5b0 : decide (0 ≤ a1) = true := decide_eq_true c5
      clear c5
      by_cases c6 : 0 < (l0.length : Int)
      · rw [if_pos c6] at H
        have c6b0 : decide (0 < (l0.length : Int)) = true := decide_eq_true c6
        have c6b1 : decide (0 < l0.length) = true := decide_eq_true (by omega)
        clear c6
        obtain rfl := Option.some.inj H
        go_enter Try.func19, Try.ntmps19
        go_wp2_with (first | ((with_reducible refine gate_callee (f := 46) rfl ?_); refine goesL_ (some 6) rfl rfl Try.func46 (by kernel_rfl) rfl #[.slice A0 l0.length c0] rfl (by (try simp only [List.map_toArray, List.map_cons, List.map_nil]); first | done | rfl | (simp only [List.length_drop, List.length_take]; rfl)) ?_; (with_reducible refine (impl_areLevel.calls _ _ l0 true _ ?side1 ?side2 A3.out).mono ?_); (case side1 => repeat (first | exact HR0.out | (with_reducible refine Kd.C_alloc ?_ _) | (with_reducible refine Kd.C_drewN ?_ _) | (with_reducible refine Kd.C_drew ?_))); (case side2 => exact HC0.out); rintro e w7 ⟨rfl, hb⟩; refine ⟨_, rfl, ?_⟩; have n0_ := Aside0.mk (below_step (by repeat (first | (with_reducible first | exact HB.out | apply below_alloc | apply pw_below_drewN | apply below_drew1) | exact HB.out)) hb); clear HB; have HB := n0_; clear n0_; (try clear hb); (try clear hb2); (try clear hk); (try clear hi); have p148 : 0 ≤ (0 : Int) := (by omega); have q148 : 0 < (l0.length : Int) := of_decide_eq_true (by first | (with_reducible assumption) | assumption); obtain ⟨ad148, A148_0, c148_0, e148, hx148_0, hl148_0, hi148_0⟩ := at_T42 HR0.out 0 p148 q148; cases e148; have qi148 : (0 < l0.length) = True := eq_true (by omega); (try rw [show ((0 : Int)).toNat = 0 from rfl] at hx148_0); (try rw [Addr.add_zero'] at hx148_0); replace hx148_0 := (HB.out.cell (World.block_lt_of_cell? w _ hx148_0)).trans hx148_0; have HR148_0 := Aside0.mk hi148_0; have HC148_0 := Aside0.mk hl148_0; clear hi148_0 hl148_0; replace p148 := eq_true p148; replace q148 := eq_true q148))
        go_ret
        exact ⟨by first | rfl | (simp [errW_none, errW_some] <;> rfl) | (simp [*, errW_none, errW_some] <;> rfl), by repeat (first | (with_reducible first | exact HB.out | apply below_alloc | apply pw_below_drewN | apply below_drew1) | exact HB.out)⟩
      · rw [if_neg c6] at H
        exact absurd H (by simp)
    · rw [if_neg c5] at H
      have c5b0 : decide (0 ≤ a1) = false := decide_eq_false c5
      clear c5
      obtain rfl := Option.some.inj H
      go_enter Try.func19, Try.ntmps19
      go_wp2_with (first | ((with_reducible refine gate_callee (f := 46) rfl ?_); refine goesL_ (some 6) rfl rfl Try.func46 (by kernel_rfl) rfl #[.slice A0 l0.length c0] rfl (by (try simp only [List.map_toArray, List.map_cons, List.map_nil]); first | done | rfl | (simp only [List.length_drop, List.length_take]; rfl)) ?_; (with_reducible refine (impl_areLevel.calls _ _ l0 true _ ?side1 ?side2 A3.out).mono ?_); (case side1 => repeat (first | exact HR0.out | (with_reducible refine Kd.C_alloc ?_ _) | (with_reducible refine Kd.C_drewN ?_ _) | (with_reducible refine Kd.C_drew ?_))); (case side2 => exact HC0.out); rintro e w8 ⟨rfl, hb⟩; refine ⟨_, rfl, ?_⟩; have n0_ := Aside0.mk (below_step (by repeat (first | (with_reducible first | exact HB.out | apply below_alloc | apply pw_below_drewN | apply below_drew1) | exact HB.out)) hb); clear HB; have HB := n0_; clear n0_; (try clear hb); (try clear hb2); (try clear hk); (try clear hi)))
      go_ret
      exact ⟨by first | rfl | (simp [errW_none, errW_some] <;> rfl) | (simp [*, errW_none, errW_some] <;> rfl), by repeat (first | (with_reducible first | exact HB.out | apply below_alloc | apply pw_below_drewN | apply below_drew1) | exact HB.out)⟩
  · replace c4 := Bool.eq_false_iff.mpr c4
    subst c4
    have H1 : (some false) = some r := by rw [if_neg (show ¬ (false = true) by decide)] at H; exact H
    clear H
    have H := H1
    clear H1
    obtain rfl := Option.some.inj H
    go_enter Try.func19, Try.ntmps19
    go_wp2_with (first | ((with_reducible refine gate_callee (f := 46) rfl ?_); refine goesL_ (some 6) rfl rfl Try.func46 (by kernel_rfl) rfl #[.slice A0 l0.length c0] rfl (by (try simp only [List.map_toArray, List.map_cons, List.map_nil]); first | done | rfl | (simp only [List.length_drop, List.length_take]; rfl)) ?_; (with_reducible refine (impl_areLevel.calls _ _ l0 false _ ?side1 ?side2 A3.out).mono ?_); (case side1 => repeat (first | exact HR0.out | (with_reducible refine Kd.C_alloc ?_ _) | (with_reducible refine Kd.C_drewN ?_ _) | (with_reducible refine Kd.C_drew ?_))); (case side2 => exact HC0.out); rintro e w9 ⟨rfl, hb⟩; refine ⟨_, rfl, ?_⟩; have n0_ := Aside0.mk (below_step (by repeat (first | (with_reducible first | exact HB.out | apply below_alloc | apply pw_below_drewN | apply below_drew1) | exact HB.out)) hb); clear HB; have HB := n0_; clear n0_; (try clear hb); (try clear hb2); (try clear hk); (try clear hi)))
    go_ret
    exact ⟨by first | rfl | (simp [errW_none, errW_some] <;> rfl) | (simp [*, errW_none, errW_some] <;> rfl), by repeat (first | (with_reducible first | exact HB.out | apply below_alloc | apply pw_below_drewN | apply below_drew1) | exact HB.out)⟩

end Go.Proofs.Ytbcljfbpkmlgpaa.Q
