-- Written by a session's own program (wip/tools/myprint.py) over the kit's printer, out of the translation. Not trusted: Lean checks it.
import Derived.Test.YtdebpmdbeogglaaQ0
import Derived.Test.YtdebpmdbeogglaaQ8
import Derived.Test.YtdebpmdbeogglaaQ11
-- squeezed
namespace Go.Proofs.Ytdebpmdbeogglaa.Q
open Go.RowKit Go.Proofs.YtdebpmdbeogglaaW.PrintWords Go.Proofs.YtdebpmdbeogglaaW.PrintLast Go.Proofs.YtdebpmdbeogglaaW.PrintMore
attribute [local go_sem] max2_int min2_int max_two min_two max_three min_three max_four min_four   -- for this text's walks alone
set_option linter.unusedVariables false
set_option linter.unusedSimpArgs false

/-! ### spec_MeetAt: function 44 -/
mutual
def spec_MeetAt.l0 : Nat → List (S52) → Int → Int → Option (Bool)
 | 0, _, _, _ => none
 | k + 1, x0, x1, x5 => if x5 < (x0.length : Int) then (spec_MeetAt.l1 k x0 x1 x5 0) else (some false)
def spec_MeetAt.l1 : Nat → List (S52) → Int → Int → Int → Option (Bool)
 | 0, _, _, _, _ => none
 | k + 1, x0, x1, x5, x6 => if x6 < x5 then (if 0 ≤ x5 then (if x5 < (x0.length : Int) then (if 0 ≤ x1 then (if x1 < (((rd_T52 x0 x5).f0).length : Int) then (if 0 ≤ x6 then (if x6 < (x0.length : Int) then (if x1 < (((rd_T52 x0 x6).f0).length : Int) then (if (rd ((rd_T52 x0 x5).f0) x1) = (rd ((rd_T52 x0 x6).f0) x1) then (some true) else (if 0 ≤ (wrap64 (x1 + 1)) then (if (wrap64 (x1 + 1)) < (((rd_T52 x0 x5).f0).length : Int) then (if (wrap64 (x1 + 1)) < (((rd_T52 x0 x6).f0).length : Int) then (if (rd ((rd_T52 x0 x5).f0) (wrap64 (x1 + 1))) = (rd ((rd_T52 x0 x6).f0) (wrap64 (x1 + 1))) then (some true) else (spec_MeetAt.l1 k x0 x1 x5 (wrap64 (x6 + 1)))) else (none)) else (none)) else (none))) else (none)) else (none)) else (none)) else (none)) else (none)) else (none)) else (none)) else (spec_MeetAt.l0 k x0 x1 (wrap64 (x5 + 1)))
end
def spec_MeetAt.f (k : Nat) (l0 : List (S52)) (a1 : Int) : Option (Bool) := (spec_LevelWays.f k l0 a1).bind fun t297 => (if t297 = true then (spec_MeetAt.l0 k l0 a1 0) else (some false))
set_option maxHeartbeats 8000000 in
set_option maxRecDepth 100000 in
theorem spec_MeetAt.calls (k : Nat) (A0 : Option Addr) (c0 : Nat) (l0 : List (S52)) (a1 : Int) (r : Bool) (w : World) (hr0 : Kd.C k52 w A0 l0.length l0) (hc0 : l0.length ≤ c0) (h : spec_MeetAt.f k l0 a1 = some r) :
  Calls Try.prog 44 #[.slice A0 l0.length c0, .int .i64 a1] w fun e w' => e = .returned (.bool r) ∧ Drawn0 w w' := by
 have HR0 := Aside0.mk hr0; have HC0 := Aside0.mk hc0; clear hr0 hc0; have H : ((spec_LevelWays.f k l0 a1).bind fun t297 => (if t297 = true then (spec_MeetAt.l0 k l0 a1 0) else (some false))) = some r := h; clear h; replace H := Option.bind_eq_some_iff.mp H; obtain ⟨t297, A30, H⟩ := H; have A3 := Aside0.mk A30; clear A30; by_cases c4 : t297 = true
 ·subst c4; rw [if_pos rfl] at H; have H' := Aside0.mk H; clear H; go_enter Try.func44, Try.ntmps44
  repeat ((fail_if_success (first | clear z_ | done)); go_wp2_with (first | (go_at_call 74; (with_reducible refine (spec_LevelWays.calls k _ _ l0 a1 true _ ?side1 ?side2 A3.out).mono ?_); (case side1 => exact uC HR0.out); (case side2 => exact HC0.out); rintro e w' ⟨rfl, ⟨nd, rfl⟩⟩; (try first | exact ⟨rfl, _, World.drewN_drewN _ _ _⟩ | exact ⟨rfl, _, Eq.trans (World.drewN_drewN _ _ _) (congrArg (World.drewN _) (Nat.add_assoc _ _ _))⟩))); first | go_quiet (first | (go_at_call 74; (with_reducible refine (spec_LevelWays.calls k _ _ l0 a1 true _ ?side1 ?side2 A3.out).mono ?_); (case side1 => exact uC HR0.out); (case side2 => exact HC0.out); rintro e w' ⟨rfl, ⟨nd, rfl⟩⟩; (try first | exact ⟨rfl, _, World.drewN_drewN _ _ _⟩ | exact ⟨rfl, _, Eq.trans (World.drewN_drewN _ _ _) (congrArg (World.drewN _) (Nat.add_assoc _ _ _))⟩))) | have z_ := True.intro | skip)
  (try clear z_); go_loopg [5] k (fun kq v5 w' => ∃ (x5_1 : Int), v5 = .int .i64 x5_1 ∧ Aside0 (spec_MeetAt.l0 kq l0 a1 x5_1 = some r) ∧ Aside0 (kq ≤ k) ∧ Drawn0 w w')
  case atStart => exact ⟨(0), ev_, H', ⟨Nat.le_refl _⟩, by repeat (first | exact Drawn0.refl _ | apply Drawn0.step)⟩
  case round =>
   clear H'; (try clear p2); (try clear c4); obtain ⟨x5_1, rfl, HA, HK1, ⟨m1, rfl⟩⟩ := hrel
   cases gk with
   | zero => exact absurd HA.out (by simp [spec_MeetAt.l0])
   | succ k1 =>
    have H := HA.out; clear HA; simp only [spec_MeetAt.l0] at H; by_cases c5 : x5_1 < (l0.length : Int)
    ·rw [if_pos c5] at H; have c5b0 : decide (x5_1 < (l0.length : Int)) = true := decide_eq_true c5; clear c5; have H' := Aside0.mk H; clear H; go_wp2
     repeat (go_quiet (fail); try go_wp2)
     go_loopg [6] k1 (fun kq v6 w' => ∃ (x6_2 : Int), v6 = .int .i64 x6_2 ∧ Aside0 (spec_MeetAt.l1 kq l0 a1 x5_1 x6_2 = some r) ∧ Aside0 (kq ≤ k1) ∧ Drawn0 w w')
     case atStart => exact ⟨(0), ev_, H', ⟨Nat.le_refl _⟩, by repeat (first | exact Drawn0.refl _ | apply Drawn0.step)⟩
     case round =>
      clear H'; (try clear p2); (try clear c4); (try clear c5); (try clear c5b0); (try clear p2); obtain ⟨x6_2, rfl, HA, HK2, ⟨m2, rfl⟩⟩ := hrel
      cases gk with
      | zero => exact absurd HA.out (by simp [spec_MeetAt.l1])
      | succ k2 =>
       have H := HA.out; clear HA; simp only [spec_MeetAt.l1] at H; by_cases c6 : x6_2 < x5_1
       ·rw [if_pos c6] at H; have c6b0 : decide (x6_2 < x5_1) = true := decide_eq_true c6; clear c6; by_cases c7 : 0 ≤ x5_1
        ·rw [if_pos c7] at H; have c7b0 : decide (0 ≤ x5_1) = true := decide_eq_true c7; clear c7; by_cases c8 : x5_1 < (l0.length : Int)
         ·rw [if_pos c8] at H; have c8b0 : decide (x5_1 < (l0.length : Int)) = true := decide_eq_true c8; clear c8; by_cases c9 : 0 ≤ a1
          ·rw [if_pos c9] at H; have c9b0 : decide (0 ≤ a1) = true := decide_eq_true c9; clear c9; by_cases c10 : a1 < (((rd_T52 l0 x5_1).f0).length : Int)
           ·rw [if_pos c10] at H; have c10b0 : decide (a1 < (((rd_T52 l0 x5_1).f0).length : Int)) = true := decide_eq_true c10; clear c10; by_cases c11 : 0 ≤ x6_2
            ·rw [if_pos c11] at H; have c11b0 : decide (0 ≤ x6_2) = true := decide_eq_true c11; clear c11; by_cases c12 : x6_2 < (l0.length : Int)
             ·rw [if_pos c12] at H; have c12b0 : decide (x6_2 < (l0.length : Int)) = true := decide_eq_true c12; clear c12; by_cases c13 : a1 < (((rd_T52 l0 x6_2).f0).length : Int)
              ·rw [if_pos c13] at H; have c13b0 : decide (a1 < (((rd_T52 l0 x6_2).f0).length : Int)) = true := decide_eq_true c13; clear c13; by_cases c14 : (rd ((rd_T52 l0 x5_1).f0) a1) = (rd ((rd_T52 l0 x6_2).f0) a1)
               ·rw [if_pos c14] at H; have c14b0 : ((rd ((rd_T52 l0 x5_1).f0) a1) == (rd ((rd_T52 l0 x6_2).f0) a1)) = true := beq_iff_eq.mpr c14; have c14b1 : ((rd ((rd_T52 l0 x5_1).f0) a1) != (rd ((rd_T52 l0 x6_2).f0) a1)) = false := bne_eq_false_iff_eq.mpr c14; clear c14; obtain rfl := Option.some.inj H; have p298 : 0 ≤ (x5_1 : Int) := od_; have q298 : x5_1 < (l0.length : Int) := od_; obtain ⟨ad298, A298_0, c298_0, e298, hx298_0, hl298_0, hi298_0⟩ := at_T52 HR0.out x5_1 p298 q298
                cases e298; have HR298_0 := Aside0.mk hi298_0; have HC298_0 := Aside0.mk hl298_0; clear hi298_0 hl298_0; replace p298 := eq_true p298; replace q298 := eq_true q298; have p299 : 0 ≤ (a1 : Int) := od_; have q299 : a1 < (((rd_T52 l0 x5_1).f0).length : Int) := od_; obtain ⟨ad299, e299, hx299_0⟩ := Kd.at_int HR298_0.out a1 p299 q299
                cases e299; replace p299 := eq_true p299; replace q299 := eq_true q299; have p300 : 0 ≤ (x6_2 : Int) := od_; have q300 : x6_2 < (l0.length : Int) := od_; obtain ⟨ad300, A300_0, c300_0, e300, hx300_0, hl300_0, hi300_0⟩ := at_T52 HR0.out x6_2 p300 q300; obtain rfl : ad298 = ad300 := (by injection e300); have HR300_0 := Aside0.mk hi300_0; have HC300_0 := Aside0.mk hl300_0; clear hi300_0 hl300_0; replace p300 := eq_true p300; replace q300 := eq_true q300; have p301 : 0 ≤ (a1 : Int) := od_; have q301 : a1 < (((rd_T52 l0 x6_2).f0).length : Int) := od_; obtain ⟨ad301, e301, hx301_0⟩ := Kd.at_int HR300_0.out a1 p301 q301
                cases e301; replace p301 := eq_true p301; replace q301 := eq_true q301; go_wp2
                repeat (go_quiet (fail); try go_wp2)
                go_ret; exact ⟨by first | rfl | (simp; done) | (simp [*]; done), by repeat (first | exact Drawn0.refl _ | apply Drawn0.step)⟩
               ·rw [if_neg c14] at H; have c14b0 : ((rd ((rd_T52 l0 x5_1).f0) a1) == (rd ((rd_T52 l0 x6_2).f0) a1)) = false := beq_eq_false_iff_ne.mpr c14; have c14b1 : ((rd ((rd_T52 l0 x5_1).f0) a1) != (rd ((rd_T52 l0 x6_2).f0) a1)) = true := bne_iff_ne.mpr c14; obtain ⟨ji15, hji15⟩ : ∃ j_ : Int, (wrap64 (a1 + 1)) = j_ := ⟨_, rfl⟩; replace H : (if 0 ≤ (ji15) then (if (ji15) < (((rd_T52 l0 x5_1).f0).length : Int) then (if (ji15) < (((rd_T52 l0 x6_2).f0).length : Int) then (if (rd ((rd_T52 l0 x5_1).f0) (ji15)) = (rd ((rd_T52 l0 x6_2).f0) (ji15)) then (some true) else (spec_MeetAt.l1 k2 l0 a1 x5_1 (wrap64 (x6_2 + 1)))) else (none)) else (none)) else (none)) = some r := by first | (rw [hji15] at H; exact H) | (simp only [hji15] at H ⊢; exact H)
                have hji15w : (IntKind.i64.wrap (a1 + 1)) = ji15 := (i64_w _).trans hji15; by_cases c16 : 0 ≤ (ji15)
                ·rw [if_pos c16] at H; have c16b0 : decide (0 ≤ (ji15)) = true := decide_eq_true c16; clear c16; by_cases c17 : (ji15) < (((rd_T52 l0 x5_1).f0).length : Int)
                 ·rw [if_pos c17] at H; have c17b0 : decide ((ji15) < (((rd_T52 l0 x5_1).f0).length : Int)) = true := decide_eq_true c17; clear c17; by_cases c18 : (ji15) < (((rd_T52 l0 x6_2).f0).length : Int)
                  ·rw [if_pos c18] at H; have c18b0 : decide ((ji15) < (((rd_T52 l0 x6_2).f0).length : Int)) = true := decide_eq_true c18; clear c18; by_cases c19 : (rd ((rd_T52 l0 x5_1).f0) (ji15)) = (rd ((rd_T52 l0 x6_2).f0) (ji15))
                   ·rw [if_pos c19] at H; have c19b0 : ((rd ((rd_T52 l0 x5_1).f0) (ji15)) == (rd ((rd_T52 l0 x6_2).f0) (ji15))) = true := beq_iff_eq.mpr c19; have c19b1 : ((rd ((rd_T52 l0 x5_1).f0) (ji15)) != (rd ((rd_T52 l0 x6_2).f0) (ji15))) = false := bne_eq_false_iff_eq.mpr c19; clear c19; obtain rfl := Option.some.inj H; have p298 : 0 ≤ (x5_1 : Int) := od_; have q298 : x5_1 < (l0.length : Int) := od_; obtain ⟨ad298, A298_0, c298_0, e298, hx298_0, hl298_0, hi298_0⟩ := at_T52 HR0.out x5_1 p298 q298
                    cases e298; have HR298_0 := Aside0.mk hi298_0; have HC298_0 := Aside0.mk hl298_0; clear hi298_0 hl298_0; replace p298 := eq_true p298; replace q298 := eq_true q298; have p299 : 0 ≤ (a1 : Int) := od_; have q299 : a1 < (((rd_T52 l0 x5_1).f0).length : Int) := od_; obtain ⟨ad299, e299, hx299_0⟩ := Kd.at_int HR298_0.out a1 p299 q299
                    cases e299; replace p299 := eq_true p299; replace q299 := eq_true q299; have p300 : 0 ≤ (x6_2 : Int) := od_; have q300 : x6_2 < (l0.length : Int) := od_; obtain ⟨ad300, A300_0, c300_0, e300, hx300_0, hl300_0, hi300_0⟩ := at_T52 HR0.out x6_2 p300 q300; obtain rfl : ad298 = ad300 := (by injection e300); have HR300_0 := Aside0.mk hi300_0; have HC300_0 := Aside0.mk hl300_0; clear hi300_0 hl300_0; replace p300 := eq_true p300; replace q300 := eq_true q300; have p301 : 0 ≤ (a1 : Int) := od_; have q301 : a1 < (((rd_T52 l0 x6_2).f0).length : Int) := od_; obtain ⟨ad301, e301, hx301_0⟩ := Kd.at_int HR300_0.out a1 p301 q301
                    cases e301; replace p301 := eq_true p301; replace q301 := eq_true q301; have p302 : 0 ≤ (x5_1 : Int) := od_; have q302 : x5_1 < (l0.length : Int) := od_; obtain ⟨ad302, A302_0, c302_0, e302, hx302_0, hl302_0, hi302_0⟩ := at_T52 HR0.out x5_1 p302 q302; obtain rfl : ad298 = ad302 := (by injection e302); have HR302_0 := Aside0.mk hi302_0; have HC302_0 := Aside0.mk hl302_0; clear hi302_0 hl302_0; replace p302 := eq_true p302; replace q302 := eq_true q302; have ea_ := Option.some.inj (hx298_0.symm.trans hx302_0); injection ea_ with ea_ en_ ec_
                    subst ea_; subst ec_; clear en_; have p303 : 0 ≤ ((ji15) : Int) := od_; have q303 : (ji15) < (((rd_T52 l0 x5_1).f0).length : Int) := od_; obtain ⟨ad303, e303, hx303_0⟩ := Kd.at_int HR302_0.out (ji15) p303 q303
                    cases e303; replace p303 := eq_true p303; replace q303 := eq_true q303; have p304 : 0 ≤ (x6_2 : Int) := od_; have q304 : x6_2 < (l0.length : Int) := od_; obtain ⟨ad304, A304_0, c304_0, e304, hx304_0, hl304_0, hi304_0⟩ := at_T52 HR0.out x6_2 p304 q304; obtain rfl : ad298 = ad304 := (by injection e304); have HR304_0 := Aside0.mk hi304_0; have HC304_0 := Aside0.mk hl304_0; clear hi304_0 hl304_0; replace p304 := eq_true p304; replace q304 := eq_true q304; have ea_ := Option.some.inj (hx300_0.symm.trans hx304_0); injection ea_ with ea_ en_ ec_
                    subst ea_; subst ec_; clear en_; have p305 : 0 ≤ ((ji15) : Int) := od_; have q305 : (ji15) < (((rd_T52 l0 x6_2).f0).length : Int) := od_; obtain ⟨ad305, e305, hx305_0⟩ := Kd.at_int HR304_0.out (ji15) p305 q305
                    cases e305; replace p305 := eq_true p305; replace q305 := eq_true q305; go_wp2
                    repeat (go_quiet (fail); try go_wp2)
                    go_ret; exact ⟨by first | rfl | (simp; done) | (simp only [← hji15] <;> (first | rfl | simp)) | (simp [*]; done), by repeat (first | exact Drawn0.refl _ | apply Drawn0.step)⟩
                   ·rw [if_neg c19] at H; have c19b0 : ((rd ((rd_T52 l0 x5_1).f0) (ji15)) == (rd ((rd_T52 l0 x6_2).f0) (ji15))) = false := beq_eq_false_iff_ne.mpr c19; have c19b1 : ((rd ((rd_T52 l0 x5_1).f0) (ji15)) != (rd ((rd_T52 l0 x6_2).f0) (ji15))) = true := bne_iff_ne.mpr c19; have H' := Aside0.mk H; clear H; have p298 : 0 ≤ (x5_1 : Int) := od_; have q298 : x5_1 < (l0.length : Int) := od_; obtain ⟨ad298, A298_0, c298_0, e298, hx298_0, hl298_0, hi298_0⟩ := at_T52 HR0.out x5_1 p298 q298
                    cases e298; have HR298_0 := Aside0.mk hi298_0; have HC298_0 := Aside0.mk hl298_0; clear hi298_0 hl298_0; replace p298 := eq_true p298; replace q298 := eq_true q298; have p299 : 0 ≤ (a1 : Int) := od_; have q299 : a1 < (((rd_T52 l0 x5_1).f0).length : Int) := od_; obtain ⟨ad299, e299, hx299_0⟩ := Kd.at_int HR298_0.out a1 p299 q299
                    cases e299; replace p299 := eq_true p299; replace q299 := eq_true q299; have p300 : 0 ≤ (x6_2 : Int) := od_; have q300 : x6_2 < (l0.length : Int) := od_; obtain ⟨ad300, A300_0, c300_0, e300, hx300_0, hl300_0, hi300_0⟩ := at_T52 HR0.out x6_2 p300 q300; obtain rfl : ad298 = ad300 := (by injection e300); have HR300_0 := Aside0.mk hi300_0; have HC300_0 := Aside0.mk hl300_0; clear hi300_0 hl300_0; replace p300 := eq_true p300; replace q300 := eq_true q300; have p301 : 0 ≤ (a1 : Int) := od_; have q301 : a1 < (((rd_T52 l0 x6_2).f0).length : Int) := od_; obtain ⟨ad301, e301, hx301_0⟩ := Kd.at_int HR300_0.out a1 p301 q301
                    cases e301; replace p301 := eq_true p301; replace q301 := eq_true q301; have p302 : 0 ≤ (x5_1 : Int) := od_; have q302 : x5_1 < (l0.length : Int) := od_; obtain ⟨ad302, A302_0, c302_0, e302, hx302_0, hl302_0, hi302_0⟩ := at_T52 HR0.out x5_1 p302 q302; obtain rfl : ad298 = ad302 := (by injection e302); have HR302_0 := Aside0.mk hi302_0; have HC302_0 := Aside0.mk hl302_0; clear hi302_0 hl302_0; replace p302 := eq_true p302; replace q302 := eq_true q302; have ea_ := Option.some.inj (hx298_0.symm.trans hx302_0); injection ea_ with ea_ en_ ec_
                    subst ea_; subst ec_; clear en_; have p303 : 0 ≤ ((ji15) : Int) := od_; have q303 : (ji15) < (((rd_T52 l0 x5_1).f0).length : Int) := od_; obtain ⟨ad303, e303, hx303_0⟩ := Kd.at_int HR302_0.out (ji15) p303 q303
                    cases e303; replace p303 := eq_true p303; replace q303 := eq_true q303; have p304 : 0 ≤ (x6_2 : Int) := od_; have q304 : x6_2 < (l0.length : Int) := od_; obtain ⟨ad304, A304_0, c304_0, e304, hx304_0, hl304_0, hi304_0⟩ := at_T52 HR0.out x6_2 p304 q304; obtain rfl : ad298 = ad304 := (by injection e304); have HR304_0 := Aside0.mk hi304_0; have HC304_0 := Aside0.mk hl304_0; clear hi304_0 hl304_0; replace p304 := eq_true p304; replace q304 := eq_true q304; have ea_ := Option.some.inj (hx300_0.symm.trans hx304_0); injection ea_ with ea_ en_ ec_
                    subst ea_; subst ec_; clear en_; have p305 : 0 ≤ ((ji15) : Int) := od_; have q305 : (ji15) < (((rd_T52 l0 x6_2).f0).length : Int) := od_; obtain ⟨ad305, e305, hx305_0⟩ := Kd.at_int HR304_0.out (ji15) p305 q305
                    cases e305; replace p305 := eq_true p305; replace q305 := eq_true q305; go_wp2
                    repeat (go_quiet (fail); try go_wp2)
                    go_roundg k2
                    case measure => have := HK1.out; have := HK2.out; omega
                    case rel => exact ⟨(wrap64 (x6_2 + 1)), ev_, H', ⟨by have := HK1.out; have := HK2.out; omega⟩, by repeat (first | exact Drawn0.refl _ | apply Drawn0.step)⟩
                  ·rw [if_neg c18] at H; exact absurd H (by simp)
                 ·rw [if_neg c17] at H; exact absurd H (by simp)
                ·rw [if_neg c16] at H; exact absurd H (by simp)
              ·rw [if_neg c13] at H; exact absurd H (by simp)
             ·rw [if_neg c12] at H; exact absurd H (by simp)
            ·rw [if_neg c11] at H; exact absurd H (by simp)
           ·rw [if_neg c10] at H; exact absurd H (by simp)
          ·rw [if_neg c9] at H; exact absurd H (by simp)
         ·rw [if_neg c8] at H; exact absurd H (by simp)
        ·rw [if_neg c7] at H; exact absurd H (by simp)
       ·rw [if_neg c6] at H; have c6b0 : decide (x6_2 < x5_1) = false := decide_eq_false c6; clear c6; have H' := Aside0.mk H; clear H; go_wp2
        repeat (go_quiet (fail); try go_wp2)
        go_roundg k2
        case measure => have := HK1.out; have := HK2.out; omega
        case rel => exact ⟨(wrap64 (x5_1 + 1)), ev_, H', ⟨by have := HK1.out; have := HK2.out; omega⟩, by repeat (first | exact Drawn0.refl _ | apply Drawn0.step)⟩
    ·rw [if_neg c5] at H; have c5b0 : decide (x5_1 < (l0.length : Int)) = false := decide_eq_false c5; clear c5; obtain rfl := Option.some.inj H; go_wp2
     repeat (go_quiet (fail); try go_wp2)
     go_ret; exact ⟨by first | rfl | (simp; done) | (simp [*]; done), by repeat (first | exact Drawn0.refl _ | apply Drawn0.step)⟩
 ·replace c4 := Bool.eq_false_iff.mpr c4; subst c4; rw [if_neg (show ¬ (false = true) by decide)] at H; obtain rfl := Option.some.inj H; go_enter Try.func44, Try.ntmps44
  repeat ((fail_if_success (first | clear z_ | done)); go_wp2_with (first | (go_at_call 74; (with_reducible refine (spec_LevelWays.calls k _ _ l0 a1 false _ ?side1 ?side2 A3.out).mono ?_); (case side1 => exact uC HR0.out); (case side2 => exact HC0.out); rintro e w' ⟨rfl, ⟨nd, rfl⟩⟩; (try first | exact ⟨rfl, _, World.drewN_drewN _ _ _⟩ | exact ⟨rfl, _, Eq.trans (World.drewN_drewN _ _ _) (congrArg (World.drewN _) (Nat.add_assoc _ _ _))⟩))); first | go_quiet (first | (go_at_call 74; (with_reducible refine (spec_LevelWays.calls k _ _ l0 a1 false _ ?side1 ?side2 A3.out).mono ?_); (case side1 => exact uC HR0.out); (case side2 => exact HC0.out); rintro e w' ⟨rfl, ⟨nd, rfl⟩⟩; (try first | exact ⟨rfl, _, World.drewN_drewN _ _ _⟩ | exact ⟨rfl, _, Eq.trans (World.drewN_drewN _ _ _) (congrArg (World.drewN _) (Nat.add_assoc _ _ _))⟩))) | have z_ := True.intro | skip)
  (try clear z_); go_ret; exact ⟨by first | rfl | (simp; done) | (simp [*]; done), by repeat (first | exact Drawn0.refl _ | apply Drawn0.step)⟩

/-! ### spec_l12Ring: function 91 -/
mutual
def spec_l12Ring.l0 : Nat → List (S52) → Int → Int → Int → Int → Option (Int)
 | 0, _, _, _, _, _ => none
 | k + 1, x0, x1, x2, x7, x8 => if x8 ≤ (x0.length : Int) then (spec_l12Ring.l1 k x0 x1 x2 x7 x8 (-1) 0) else (some 0)
def spec_l12Ring.l1 : Nat → List (S52) → Int → Int → Int → Int → Int → Int → Option (Int)
 | 0, _, _, _, _, _, _, _ => none
 | k + 1, x0, x1, x2, x7, x8, x9, x10 => if x10 < (x0.length : Int) then (if 0 ≤ x10 then (if 0 ≤ x1 then (if x1 < (((rd_T52 x0 x10).f0).length : Int) then (if 0 ≤ x7 then (if x7 < (x0.length : Int) then (if 0 ≤ (wrap64 (x1 + 1)) then (if (wrap64 (x1 + 1)) < (((rd_T52 x0 x7).f0).length : Int) then (if (rd ((rd_T52 x0 x10).f0) x1) = (rd ((rd_T52 x0 x7).f0) (wrap64 (x1 + 1))) then (spec_l12Ring.l1 k x0 x1 x2 x7 x8 x10 (wrap64 (x10 + 1))) else (spec_l12Ring.l1 k x0 x1 x2 x7 x8 x9 (wrap64 (x10 + 1)))) else (none)) else (none)) else (none)) else (none)) else (none)) else (none)) else (none)) else (if x9 < 0 then (some 0) else (if x9 = x2 then (some x8) else (spec_l12Ring.l0 k x0 x1 x2 x9 (wrap64 (x8 + 1)))))
end
def spec_l12Ring.f (k : Nat) (l0 : List (S52)) (a1 : Int) (a2 : Int) : Option (Int) := spec_l12Ring.l0 k l0 a1 a2 a2 1
set_option maxHeartbeats 8000000 in
set_option maxRecDepth 100000 in
theorem spec_l12Ring.calls (k : Nat) (A0 : Option Addr) (c0 : Nat) (l0 : List (S52)) (a1 : Int) (a2 : Int) (r : Int) (w : World) (hr0 : Kd.C k52 w A0 l0.length l0) (hc0 : l0.length ≤ c0) (h : spec_l12Ring.f k l0 a1 a2 = some r) :
  Calls Try.prog 91 #[.slice A0 l0.length c0, .int .i64 a1, .int .i64 a2] w fun e w' => e = .returned (.int .i64 r) ∧ Drawn0 w w' := by
 have HR0 := Aside0.mk hr0; have HC0 := Aside0.mk hc0; clear hr0 hc0; have H : (spec_l12Ring.l0 k l0 a1 a2 a2 1) = some r := h; clear h; have H' := Aside0.mk H; clear H; go_enter Try.func91, Try.ntmps91; go_wp2
 repeat (go_quiet (fail); try go_wp2)
 go_loopg [7, 8] k (fun kq v7 v8 w' => ∃ (x7_1 : Int) (x8_1 : Int), v7 = .int .i64 x7_1 ∧ v8 = .int .i64 x8_1 ∧ Aside0 (spec_l12Ring.l0 kq l0 a1 a2 x7_1 x8_1 = some r) ∧ Aside0 (kq ≤ k) ∧ Drawn0 w w')
 case atStart => exact ⟨(a2), (1), ev_, ev_, H', ⟨Nat.le_refl _⟩, by repeat (first | exact Drawn0.refl _ | apply Drawn0.step)⟩
 case round =>
  clear H'; (try clear p2); obtain ⟨x7_1, x8_1, rfl, rfl, HA, HK1, ⟨m1, rfl⟩⟩ := hrel
  cases gk with
  | zero => exact absurd HA.out (by simp [spec_l12Ring.l0])
  | succ k1 =>
   have H := HA.out; clear HA; simp only [spec_l12Ring.l0] at H; by_cases c4 : x8_1 ≤ (l0.length : Int)
   ·rw [if_pos c4] at H; have c4b0 : decide (x8_1 ≤ (l0.length : Int)) = true := decide_eq_true c4; clear c4; have H' := Aside0.mk H; clear H; go_wp2
    repeat (go_quiet (fail); try go_wp2)
    go_loopg [9, 10] k1 (fun kq v9 v10 w' => ∃ (x9_2 : Int) (x10_2 : Int), v9 = .int .i64 x9_2 ∧ v10 = .int .i64 x10_2 ∧ Aside0 (spec_l12Ring.l1 kq l0 a1 a2 x7_1 x8_1 x9_2 x10_2 = some r) ∧ Aside0 (kq ≤ k1) ∧ Drawn0 w w')
    case atStart => exact ⟨((-1)), (0), ev_, ev_, H', ⟨Nat.le_refl _⟩, by repeat (first | exact Drawn0.refl _ | apply Drawn0.step)⟩
    case round =>
     clear H'; (try clear p2); (try clear c4); (try clear c4b0); (try clear p2); obtain ⟨x9_2, x10_2, rfl, rfl, HA, HK2, ⟨m2, rfl⟩⟩ := hrel
     cases gk with
     | zero => exact absurd HA.out (by simp [spec_l12Ring.l1])
     | succ k2 =>
      have H := HA.out; clear HA; simp only [spec_l12Ring.l1] at H; by_cases c5 : x10_2 < (l0.length : Int)
      ·rw [if_pos c5] at H; have c5b0 : decide (x10_2 < (l0.length : Int)) = true := decide_eq_true c5; clear c5; by_cases c6 : 0 ≤ x10_2
       ·rw [if_pos c6] at H; have c6b0 : decide (0 ≤ x10_2) = true := decide_eq_true c6; clear c6; by_cases c7 : 0 ≤ a1
        ·rw [if_pos c7] at H; have c7b0 : decide (0 ≤ a1) = true := decide_eq_true c7; clear c7; by_cases c8 : a1 < (((rd_T52 l0 x10_2).f0).length : Int)
         ·rw [if_pos c8] at H; have c8b0 : decide (a1 < (((rd_T52 l0 x10_2).f0).length : Int)) = true := decide_eq_true c8; clear c8; by_cases c9 : 0 ≤ x7_1
          ·rw [if_pos c9] at H; have c9b0 : decide (0 ≤ x7_1) = true := decide_eq_true c9; clear c9; by_cases c10 : x7_1 < (l0.length : Int)
           ·rw [if_pos c10] at H; have c10b0 : decide (x7_1 < (l0.length : Int)) = true := decide_eq_true c10; clear c10; obtain ⟨ji11, hji11⟩ : ∃ j_ : Int, (wrap64 (a1 + 1)) = j_ := ⟨_, rfl⟩; replace H : (if 0 ≤ (ji11) then (if (ji11) < (((rd_T52 l0 x7_1).f0).length : Int) then (if (rd ((rd_T52 l0 x10_2).f0) a1) = (rd ((rd_T52 l0 x7_1).f0) (ji11)) then (spec_l12Ring.l1 k2 l0 a1 a2 x7_1 x8_1 x10_2 (wrap64 (x10_2 + 1))) else (spec_l12Ring.l1 k2 l0 a1 a2 x7_1 x8_1 x9_2 (wrap64 (x10_2 + 1)))) else (none)) else (none)) = some r := by first | (rw [hji11] at H; exact H) | (simp only [hji11] at H ⊢; exact H)
            have hji11w : (IntKind.i64.wrap (a1 + 1)) = ji11 := (i64_w _).trans hji11; by_cases c12 : 0 ≤ (ji11)
            ·rw [if_pos c12] at H; have c12b0 : decide (0 ≤ (ji11)) = true := decide_eq_true c12; clear c12; by_cases c13 : (ji11) < (((rd_T52 l0 x7_1).f0).length : Int)
             ·rw [if_pos c13] at H; have c13b0 : decide ((ji11) < (((rd_T52 l0 x7_1).f0).length : Int)) = true := decide_eq_true c13; clear c13; by_cases c14 : (rd ((rd_T52 l0 x10_2).f0) a1) = (rd ((rd_T52 l0 x7_1).f0) (ji11))
              ·rw [if_pos c14] at H; have c14b0 : ((rd ((rd_T52 l0 x10_2).f0) a1) == (rd ((rd_T52 l0 x7_1).f0) (ji11))) = true := beq_iff_eq.mpr c14; have c14b1 : ((rd ((rd_T52 l0 x10_2).f0) a1) != (rd ((rd_T52 l0 x7_1).f0) (ji11))) = false := bne_eq_false_iff_eq.mpr c14; clear c14; have H' := Aside0.mk H; clear H; have p306 : 0 ≤ (x10_2 : Int) := od_; have q306 : x10_2 < (l0.length : Int) := od_; obtain ⟨ad306, A306_0, c306_0, e306, hx306_0, hl306_0, hi306_0⟩ := at_T52 HR0.out x10_2 p306 q306
               cases e306; have HR306_0 := Aside0.mk hi306_0; have HC306_0 := Aside0.mk hl306_0; clear hi306_0 hl306_0; replace p306 := eq_true p306; replace q306 := eq_true q306; have p307 : 0 ≤ (a1 : Int) := od_; have q307 : a1 < (((rd_T52 l0 x10_2).f0).length : Int) := od_; obtain ⟨ad307, e307, hx307_0⟩ := Kd.at_int HR306_0.out a1 p307 q307
               cases e307; replace p307 := eq_true p307; replace q307 := eq_true q307; have p308 : 0 ≤ (x7_1 : Int) := od_; have q308 : x7_1 < (l0.length : Int) := od_; obtain ⟨ad308, A308_0, c308_0, e308, hx308_0, hl308_0, hi308_0⟩ := at_T52 HR0.out x7_1 p308 q308; obtain rfl : ad306 = ad308 := (by injection e308); have HR308_0 := Aside0.mk hi308_0; have HC308_0 := Aside0.mk hl308_0; clear hi308_0 hl308_0; replace p308 := eq_true p308; replace q308 := eq_true q308; have p309 : 0 ≤ ((ji11) : Int) := od_; have q309 : (ji11) < (((rd_T52 l0 x7_1).f0).length : Int) := od_; obtain ⟨ad309, e309, hx309_0⟩ := Kd.at_int HR308_0.out (ji11) p309 q309
               cases e309; replace p309 := eq_true p309; replace q309 := eq_true q309; go_wp2
               repeat (go_quiet (fail); try go_wp2)
               go_roundg k2
               case measure => have := HK1.out; have := HK2.out; omega
               case rel => exact ⟨(x10_2), (wrap64 (x10_2 + 1)), ev_, ev_, H', ⟨by have := HK1.out; have := HK2.out; omega⟩, by repeat (first | exact Drawn0.refl _ | apply Drawn0.step)⟩
              ·rw [if_neg c14] at H; have c14b0 : ((rd ((rd_T52 l0 x10_2).f0) a1) == (rd ((rd_T52 l0 x7_1).f0) (ji11))) = false := beq_eq_false_iff_ne.mpr c14; have c14b1 : ((rd ((rd_T52 l0 x10_2).f0) a1) != (rd ((rd_T52 l0 x7_1).f0) (ji11))) = true := bne_iff_ne.mpr c14; have H' := Aside0.mk H; clear H; have p306 : 0 ≤ (x10_2 : Int) := od_; have q306 : x10_2 < (l0.length : Int) := od_; obtain ⟨ad306, A306_0, c306_0, e306, hx306_0, hl306_0, hi306_0⟩ := at_T52 HR0.out x10_2 p306 q306
               cases e306; have HR306_0 := Aside0.mk hi306_0; have HC306_0 := Aside0.mk hl306_0; clear hi306_0 hl306_0; replace p306 := eq_true p306; replace q306 := eq_true q306; have p307 : 0 ≤ (a1 : Int) := od_; have q307 : a1 < (((rd_T52 l0 x10_2).f0).length : Int) := od_; obtain ⟨ad307, e307, hx307_0⟩ := Kd.at_int HR306_0.out a1 p307 q307
               cases e307; replace p307 := eq_true p307; replace q307 := eq_true q307; have p308 : 0 ≤ (x7_1 : Int) := od_; have q308 : x7_1 < (l0.length : Int) := od_; obtain ⟨ad308, A308_0, c308_0, e308, hx308_0, hl308_0, hi308_0⟩ := at_T52 HR0.out x7_1 p308 q308; obtain rfl : ad306 = ad308 := (by injection e308); have HR308_0 := Aside0.mk hi308_0; have HC308_0 := Aside0.mk hl308_0; clear hi308_0 hl308_0; replace p308 := eq_true p308; replace q308 := eq_true q308; have p309 : 0 ≤ ((ji11) : Int) := od_; have q309 : (ji11) < (((rd_T52 l0 x7_1).f0).length : Int) := od_; obtain ⟨ad309, e309, hx309_0⟩ := Kd.at_int HR308_0.out (ji11) p309 q309
               cases e309; replace p309 := eq_true p309; replace q309 := eq_true q309; go_wp2
               repeat (go_quiet (fail); try go_wp2)
               go_roundg k2
               case measure => have := HK1.out; have := HK2.out; omega
               case rel => exact ⟨(x9_2), (wrap64 (x10_2 + 1)), ev_, ev_, H', ⟨by have := HK1.out; have := HK2.out; omega⟩, by repeat (first | exact Drawn0.refl _ | apply Drawn0.step)⟩
             ·rw [if_neg c13] at H; exact absurd H (by simp)
            ·rw [if_neg c12] at H; exact absurd H (by simp)
           ·rw [if_neg c10] at H; exact absurd H (by simp)
          ·rw [if_neg c9] at H; exact absurd H (by simp)
         ·rw [if_neg c8] at H; exact absurd H (by simp)
        ·rw [if_neg c7] at H; exact absurd H (by simp)
       ·rw [if_neg c6] at H; exact absurd H (by simp)
      ·rw [if_neg c5] at H; have c5b0 : decide (x10_2 < (l0.length : Int)) = false := decide_eq_false c5; clear c5; by_cases c15 : x9_2 < 0
       ·rw [if_pos c15] at H; have c15b0 : decide (x9_2 < 0) = true := decide_eq_true c15; clear c15; obtain rfl := Option.some.inj H; go_wp2
        repeat (go_quiet (fail); try go_wp2)
        go_ret; exact ⟨by first | rfl | (simp; done) | (simp [*]; done), by repeat (first | exact Drawn0.refl _ | apply Drawn0.step)⟩
       ·rw [if_neg c15] at H; have c15b0 : decide (x9_2 < 0) = false := decide_eq_false c15; clear c15; by_cases c16 : x9_2 = a2
        ·rw [if_pos c16] at H; have c16b0 : (x9_2 == a2) = true := beq_iff_eq.mpr c16; have c16b1 : (x9_2 != a2) = false := bne_eq_false_iff_eq.mpr c16; clear c16; obtain rfl := Option.some.inj H; go_wp2
         repeat (go_quiet (fail); try go_wp2)
         go_ret; exact ⟨by first | rfl | (simp; done) | (simp [*]; done), by repeat (first | exact Drawn0.refl _ | apply Drawn0.step)⟩
        ·rw [if_neg c16] at H; have c16b0 : (x9_2 == a2) = false := beq_eq_false_iff_ne.mpr c16; have c16b1 : (x9_2 != a2) = true := bne_iff_ne.mpr c16; have H' := Aside0.mk H; clear H; go_wp2
         repeat (go_quiet (fail); try go_wp2)
         go_roundg k2
         case measure => have := HK1.out; have := HK2.out; omega
         case rel => exact ⟨(x9_2), (wrap64 (x8_1 + 1)), ev_, ev_, H', ⟨by have := HK1.out; have := HK2.out; omega⟩, by repeat (first | exact Drawn0.refl _ | apply Drawn0.step)⟩
   ·rw [if_neg c4] at H; have c4b0 : decide (x8_1 ≤ (l0.length : Int)) = false := decide_eq_false c4; clear c4; obtain rfl := Option.some.inj H; go_wp2
    repeat (go_quiet (fail); try go_wp2)
    go_ret; exact ⟨by first | rfl | (simp; done) | (simp [*]; done), by repeat (first | exact Drawn0.refl _ | apply Drawn0.step)⟩

/-! ### spec_l12Count: function 75 -/
mutual
def spec_l12Count.j0 : Nat → List (S52) → Int → Int → Int → Bool → Option (Int)
 | 0, _, _, _, _, _ => none
 | k + 1, x0, x1, x2, x3, x19 => if x19 = true then (some 0) else (spec_l12Count.l0 k x0 x1 x2 x3 0 0)
def spec_l12Count.l0 : Nat → List (S52) → Int → Int → Int → Int → Int → Option (Int)
 | 0, _, _, _, _, _, _ => none
 | k + 1, x0, x1, x2, x3, x9, x10 => if x10 < (x0.length : Int) then ((spec_l12Ring.f k x0 x1 x10).bind fun t312 => ((spec_l01In.f t312 x2 x3).bind fun t313 => (if t313 = true then (spec_l12Count.l0 k x0 x1 x2 x3 (wrap64 (x9 + 1)) (wrap64 (x10 + 1))) else (spec_l12Count.l0 k x0 x1 x2 x3 x9 (wrap64 (x10 + 1)))))) else (some x9)
end
def spec_l12Count.f (k : Nat) (l0 : List (S52)) (a1 : Int) (a2 : Int) (a3 : Int) : Option (Int) := (spec_LevelWays.f k l0 a1).bind fun t310 => (if t310 = true then ((spec_MeetAt.f k l0 a1).bind fun t311 => (spec_l12Count.j0 k l0 a1 a2 a3 t311)) else (spec_l12Count.j0 k l0 a1 a2 a3 true))
set_option maxHeartbeats 8000000 in
set_option maxRecDepth 100000 in
theorem spec_l12Count.calls (k : Nat) (A0 : Option Addr) (c0 : Nat) (l0 : List (S52)) (a1 : Int) (a2 : Int) (a3 : Int) (r : Int) (w : World) (hr0 : Kd.C k52 w A0 l0.length l0) (hc0 : l0.length ≤ c0) (h : spec_l12Count.f k l0 a1 a2 a3 = some r) :
  Calls Try.prog 75 #[.slice A0 l0.length c0, .int .i64 a1, .int .i64 a2, .int .i64 a3] w fun e w' => e = .returned (.int .i64 r) ∧ Drawn0 w w' := by
 have HR0 := Aside0.mk hr0; have HC0 := Aside0.mk hc0; clear hr0 hc0; have H : ((spec_LevelWays.f k l0 a1).bind fun t310 => (if t310 = true then ((spec_MeetAt.f k l0 a1).bind fun t311 => (spec_l12Count.j0 k l0 a1 a2 a3 t311)) else (spec_l12Count.j0 k l0 a1 a2 a3 true))) = some r := h; clear h; have HC5 := Aside0.mk H; clear H; go_enter Try.func75, Try.ntmps75; go_upto_region 1 with (fail)
 go_cut [19] (fun v19 wc => ∃ (kq : Nat) (x19_4 : Bool), v19 = .bool x19_4 ∧ Aside0 (spec_l12Count.j0 kq l0 a1 a2 a3 x19_4 = some r) ∧ Aside0 (kq ≤ k) ∧ Drawn0 w wc)
 case first =>
  have H := HC5.out; clear HC5; replace H := Option.bind_eq_some_iff.mp H; obtain ⟨t310, A60, H⟩ := H; have A6 := Aside0.mk A60; clear A60; by_cases c7 : t310 = true
  ·subst c7; rw [if_pos rfl] at H; replace H := Option.bind_eq_some_iff.mp H; obtain ⟨t311, A80, H⟩ := H; have A8 := Aside0.mk A80; clear A80; have H' := Aside0.mk H; clear H; go_wp2_with (first | ((with_reducible refine gate_callee (f := 74) rfl ?_); refine gL_ (some 13) Try.func74 #[.slice A0 l0.length c0, .int .i64 a1] ?_; (with_reducible refine (spec_LevelWays.calls k _ _ l0 a1 true _ ?side1 ?side2 A6.out).mono ?_); (case side1 => exact uC HR0.out); (case side2 => exact HC0.out); rintro e w' ⟨rfl, ⟨nd, rfl⟩⟩; refine ⟨_, rfl, ?_⟩) | (go_at_call 44; (with_reducible refine (spec_MeetAt.calls k _ _ l0 a1 t311 _ ?side1 ?side2 A8.out).mono ?_); (case side1 => exact uC HR0.out); (case side2 => exact HC0.out); rintro e w' ⟨rfl, ⟨nd, rfl⟩⟩))
   go_meet
   case rel => exact ⟨_, (t311), ev_, H', ⟨by first | omega | exact Nat.le_refl _⟩, by repeat (first | exact Drawn0.refl _ | apply Drawn0.step)⟩
  ·replace c7 := Bool.eq_false_iff.mpr c7; subst c7; rw [if_neg (show ¬ (false = true) by decide)] at H; have H' := Aside0.mk H; clear H; go_wp2_with (first | ((with_reducible refine gate_callee (f := 74) rfl ?_); refine gL_ (some 13) Try.func74 #[.slice A0 l0.length c0, .int .i64 a1] ?_; (with_reducible refine (spec_LevelWays.calls k _ _ l0 a1 false _ ?side1 ?side2 A6.out).mono ?_); (case side1 => exact uC HR0.out); (case side2 => exact HC0.out); rintro e w' ⟨rfl, ⟨nd, rfl⟩⟩; refine ⟨_, rfl, ?_⟩))
   go_meet
   case rel => exact ⟨_, (true), ev_, H', ⟨by first | omega | exact Nat.le_refl _⟩, by repeat (first | exact Drawn0.refl _ | apply Drawn0.step)⟩
 case rest =>
  clear HC5; (try clear p2); (try clear c7); obtain ⟨kq, x19_4, rfl, HA, HJ4, ⟨mc4, rfl⟩⟩ := hcut
  cases kq with
  | zero => exact absurd HA.out (by simp [spec_l12Count.j0])
  | succ kj4 =>
   have H := HA.out; clear HA; simp only [spec_l12Count.j0] at H; by_cases c9 : x19_4 = true
   ·subst c9; rw [if_pos rfl] at H; obtain rfl := Option.some.inj H; go_wp2; go_ret; exact ⟨by first | rfl | (simp; done) | (simp [*]; done), by repeat (first | exact Drawn0.refl _ | apply Drawn0.step)⟩
   ·replace c9 := Bool.eq_false_iff.mpr c9; subst c9; rw [if_neg (show ¬ (false = true) by decide)] at H; have H' := Aside0.mk H; clear H; go_wp2; go_loopg [9, 10] kj4 (fun kq v9 v10 w' => ∃ (x9_2 : Int) (x10_2 : Int), v9 = .int .i64 x9_2 ∧ v10 = .int .i64 x10_2 ∧ Aside0 (spec_l12Count.l0 kq l0 a1 a2 a3 x9_2 x10_2 = some r) ∧ Aside0 (kq ≤ kj4) ∧ Drawn0 w w')
    case atStart => exact ⟨(0), (0), ev_, ev_, H', ⟨Nat.le_refl _⟩, by repeat (first | exact Drawn0.refl _ | apply Drawn0.step)⟩
    case round =>
     clear H'; (try clear p2); (try clear c4); (try clear c7); (try clear c9); (try clear p2); obtain ⟨x9_2, x10_2, rfl, rfl, HA, HK2, ⟨m2, rfl⟩⟩ := hrel
     cases gk with
     | zero => exact absurd HA.out (by simp [spec_l12Count.l0])
     | succ k2 =>
      have H := HA.out; clear HA; simp only [spec_l12Count.l0] at H; by_cases c10 : x10_2 < (l0.length : Int)
      ·rw [if_pos c10] at H; have c10b0 : decide (x10_2 < (l0.length : Int)) = true := decide_eq_true c10; clear c10; replace H := Option.bind_eq_some_iff.mp H; obtain ⟨t312, A110, H⟩ := H; have A11 := Aside0.mk A110; clear A110; replace H := Option.bind_eq_some_iff.mp H; obtain ⟨t313, A120, H⟩ := H; have A12 := Aside0.mk A120; clear A120; by_cases c13 : t313 = true
       ·subst c13; rw [if_pos rfl] at H; have H' := Aside0.mk H; clear H; go_wp2_with (first | ((with_reducible refine gate_callee (f := 91) rfl ?_); refine gL_ (some 29) Try.func91 #[.slice A0 l0.length c0, .int .i64 a1, .int .i64 x10_2] ?_; (with_reducible refine (spec_l12Ring.calls k2 _ _ l0 a1 x10_2 t312 _ ?side1 ?side2 A11.out).mono ?_); (case side1 => exact uC HR0.out); (case side2 => exact HC0.out); rintro e w' ⟨rfl, ⟨nd, rfl⟩⟩; refine ⟨_, rfl, ?_⟩) | ((with_reducible refine gate_callee (f := 70) rfl ?_); refine gL_ (some 32) Try.func70 #[.int .i64 t312, .int .i64 a2, .int .i64 a3] ?_; (with_reducible refine (spec_l01In.calls t312 a2 a3 true _ A12.out).mono ?_); rintro e w' ⟨rfl, ⟨nd, rfl⟩⟩; refine ⟨_, rfl, ?_⟩))
        go_roundg k2
        case measure => have := HJ4.out; have := HK2.out; omega
        case rel => exact ⟨(wrap64 (x9_2 + 1)), (wrap64 (x10_2 + 1)), ev_, ev_, H', ⟨by have := HJ4.out; have := HK2.out; omega⟩, by repeat (first | exact Drawn0.refl _ | apply Drawn0.step)⟩
       ·replace c13 := Bool.eq_false_iff.mpr c13; subst c13; rw [if_neg (show ¬ (false = true) by decide)] at H; have H' := Aside0.mk H; clear H; go_wp2_with (first | ((with_reducible refine gate_callee (f := 91) rfl ?_); refine gL_ (some 29) Try.func91 #[.slice A0 l0.length c0, .int .i64 a1, .int .i64 x10_2] ?_; (with_reducible refine (spec_l12Ring.calls k2 _ _ l0 a1 x10_2 t312 _ ?side1 ?side2 A11.out).mono ?_); (case side1 => exact uC HR0.out); (case side2 => exact HC0.out); rintro e w' ⟨rfl, ⟨nd, rfl⟩⟩; refine ⟨_, rfl, ?_⟩) | ((with_reducible refine gate_callee (f := 70) rfl ?_); refine gL_ (some 32) Try.func70 #[.int .i64 t312, .int .i64 a2, .int .i64 a3] ?_; (with_reducible refine (spec_l01In.calls t312 a2 a3 false _ A12.out).mono ?_); rintro e w' ⟨rfl, ⟨nd, rfl⟩⟩; refine ⟨_, rfl, ?_⟩))
        go_roundg k2
        case measure => have := HJ4.out; have := HK2.out; omega
        case rel => exact ⟨(x9_2), (wrap64 (x10_2 + 1)), ev_, ev_, H', ⟨by have := HJ4.out; have := HK2.out; omega⟩, by repeat (first | exact Drawn0.refl _ | apply Drawn0.step)⟩
      ·rw [if_neg c10] at H; have c10b0 : decide (x10_2 < (l0.length : Int)) = false := decide_eq_false c10; clear c10; obtain rfl := Option.some.inj H; go_wp2; go_ret; exact ⟨by first | rfl | (simp; done) | (simp [*]; done), by repeat (first | exact Drawn0.refl _ | apply Drawn0.step)⟩

/-! ### spec_SwapsAt: function 45 -/
def spec_SwapsAt.f (k : Nat) (l0 : List (S52)) (a1 : Int) : Option (Int) := (spec_l12Count.f k l0 a1 2 2).bind fun t314 => (some (wrap64 (Int.tdiv t314 2)))
set_option maxHeartbeats 8000000 in
set_option maxRecDepth 100000 in
theorem spec_SwapsAt.calls (k : Nat) (A0 : Option Addr) (c0 : Nat) (l0 : List (S52)) (a1 : Int) (r : Int) (w : World) (hr0 : Kd.C k52 w A0 l0.length l0) (hc0 : l0.length ≤ c0) (h : spec_SwapsAt.f k l0 a1 = some r) :
  Calls Try.prog 45 #[.slice A0 l0.length c0, .int .i64 a1] w fun e w' => e = .returned (.int .i64 r) ∧ Drawn0 w w' := by
 have HR0 := Aside0.mk hr0; have HC0 := Aside0.mk hc0; clear hr0 hc0; have H : ((spec_l12Count.f k l0 a1 2 2).bind fun t314 => (some (wrap64 (Int.tdiv t314 2)))) = some r := h; clear h; replace H := Option.bind_eq_some_iff.mp H; obtain ⟨t314, A30, H⟩ := H; have A3 := Aside0.mk A30; clear A30; obtain rfl := Option.some.inj H; go_enter Try.func45, Try.ntmps45; go_wp2_with (first | ((with_reducible refine gate_callee (f := 75) rfl ?_); refine gL_ (some 7) Try.func75 #[.slice A0 l0.length c0, .int .i64 a1, .int .i64 2, .int .i64 2] ?_; (with_reducible refine (spec_l12Count.calls k _ _ l0 a1 2 2 t314 _ ?side1 ?side2 A3.out).mono ?_); (case side1 => exact uC HR0.out); (case side2 => exact HC0.out); rintro e w' ⟨rfl, ⟨nd, rfl⟩⟩; refine ⟨_, rfl, ?_⟩))
 go_ret; exact ⟨by first | rfl | (simp; done) | (simp [*]; done), by repeat (first | exact Drawn0.refl _ | apply Drawn0.step)⟩

/-! ### spec_RingsAt: function 46 -/
def spec_RingsAt.f (k : Nat) (l0 : List (S52)) (a1 : Int) : Option (Int) := (spec_l12Count.f k l0 a1 3 10).bind fun t315 => (some t315)
set_option maxHeartbeats 8000000 in
set_option maxRecDepth 100000 in
theorem spec_RingsAt.calls (k : Nat) (A0 : Option Addr) (c0 : Nat) (l0 : List (S52)) (a1 : Int) (r : Int) (w : World) (hr0 : Kd.C k52 w A0 l0.length l0) (hc0 : l0.length ≤ c0) (h : spec_RingsAt.f k l0 a1 = some r) :
  Calls Try.prog 46 #[.slice A0 l0.length c0, .int .i64 a1] w fun e w' => e = .returned (.int .i64 r) ∧ Drawn0 w w' := by
 have HR0 := Aside0.mk hr0; have HC0 := Aside0.mk hc0; clear hr0 hc0; have H : ((spec_l12Count.f k l0 a1 3 10).bind fun t315 => (some t315)) = some r := h; clear h; replace H := Option.bind_eq_some_iff.mp H; obtain ⟨t315, A30, H⟩ := H; have A3 := Aside0.mk A30; clear A30; obtain rfl := Option.some.inj H; go_enter Try.func46, Try.ntmps46; go_wp2_with (first | ((with_reducible refine gate_callee (f := 75) rfl ?_); refine gL_ (some 7) Try.func75 #[.slice A0 l0.length c0, .int .i64 a1, .int .i64 3, .int .i64 10] ?_; (with_reducible refine (spec_l12Count.calls k _ _ l0 a1 3 10 t315 _ ?side1 ?side2 A3.out).mono ?_); (case side1 => exact uC HR0.out); (case side2 => exact HC0.out); rintro e w' ⟨rfl, ⟨nd, rfl⟩⟩; refine ⟨_, rfl, ?_⟩))
 go_ret; exact ⟨by first | rfl | (simp; done) | (simp [*]; done), by repeat (first | exact Drawn0.refl _ | apply Drawn0.step)⟩

end Go.Proofs.Ytdebpmdbeogglaa.Q
