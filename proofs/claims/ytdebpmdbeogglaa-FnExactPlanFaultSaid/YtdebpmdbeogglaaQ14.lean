-- Written by a session's own program (wip/tools/myprint.py) over the kit's printer, out of the translation. Not trusted: Lean checks it.
import Derived.Test.YtdebpmdbeogglaaQ0
-- squeezed
namespace Go.Proofs.Ytdebpmdbeogglaa.Q
open Go.RowKit Go.Proofs.YtdebpmdbeogglaaW.PrintWords Go.Proofs.YtdebpmdbeogglaaW.PrintLast Go.Proofs.YtdebpmdbeogglaaW.PrintMore
attribute [local go_sem] max2_int min2_int max_two min_two max_three min_three max_four min_four   -- for this text's walks alone
set_option linter.unusedVariables false
set_option linter.unusedSimpArgs false

/-! ### spec_MovesOf: function 49 -/
mutual
def spec_MovesOf.l0 : Nat → List (S52) → Int → Int → Option (Int)
 | 0, _, _, _ => none
 | k + 1, x0, x3, x4 => if x4 < (x0.length : Int) then (spec_MovesOf.l1 k x0 x3 x4 1) else (some x3)
def spec_MovesOf.l1 : Nat → List (S52) → Int → Int → Int → Option (Int)
 | 0, _, _, _, _ => none
 | k + 1, x0, x3, x4, x5 => if 0 ≤ x4 then (if x4 < (x0.length : Int) then (if x5 < (((rd_T52 x0 x4).f0).length : Int) then (if 0 ≤ x5 then (if 0 ≤ (wrap64 (x5 - 1)) then (if (wrap64 (x5 - 1)) < (((rd_T52 x0 x4).f0).length : Int) then (if (rd ((rd_T52 x0 x4).f0) x5) = (rd ((rd_T52 x0 x4).f0) (wrap64 (x5 - 1))) then (spec_MovesOf.l1 k x0 x3 x4 (wrap64 (x5 + 1))) else (spec_MovesOf.l1 k x0 (wrap64 (x3 + 1)) x4 (wrap64 (x5 + 1)))) else (none)) else (none)) else (none)) else (spec_MovesOf.l0 k x0 x3 (wrap64 (x4 + 1)))) else (none)) else (none)
end
def spec_MovesOf.f (k : Nat) (l0 : List (S52)) : Option (Int) := spec_MovesOf.l0 k l0 0 0
set_option maxHeartbeats 8000000 in
set_option maxRecDepth 100000 in
theorem spec_MovesOf.calls (k : Nat) (A0 : Option Addr) (c0 : Nat) (l0 : List (S52)) (r : Int) (w : World) (hr0 : Kd.C k52 w A0 l0.length l0) (hc0 : l0.length ≤ c0) (h : spec_MovesOf.f k l0 = some r) :
  Calls Try.prog 49 #[.slice A0 l0.length c0] w fun e w' => e = .returned (.int .i64 r) ∧ Drawn0 w w' := by
 have HR0 := Aside0.mk hr0; have HC0 := Aside0.mk hc0; clear hr0 hc0; have H : (spec_MovesOf.l0 k l0 0 0) = some r := h; clear h; have H' := Aside0.mk H; clear H; go_enter Try.func49, Try.ntmps49; go_wp2
 repeat (go_quiet (fail); try go_wp2)
 go_loopg [3, 4] k (fun kq v3 v4 w' => ∃ (x3_1 : Int) (x4_1 : Int), v3 = .int .i64 x3_1 ∧ v4 = .int .i64 x4_1 ∧ Aside0 (spec_MovesOf.l0 kq l0 x3_1 x4_1 = some r) ∧ Aside0 (kq ≤ k) ∧ Drawn0 w w')
 case atStart => exact ⟨(0), (0), ev_, ev_, H', ⟨Nat.le_refl _⟩, by repeat (first | exact Drawn0.refl _ | apply Drawn0.step)⟩
 case round =>
  clear H'; obtain ⟨x3_1, x4_1, rfl, rfl, HA, HK1, ⟨m1, rfl⟩⟩ := hrel
  cases gk with
  | zero => exact absurd HA.out (by simp [spec_MovesOf.l0])
  | succ k1 =>
   have H := HA.out; clear HA; simp only [spec_MovesOf.l0] at H; by_cases c2 : x4_1 < (l0.length : Int)
   ·rw [if_pos c2] at H; have c2b0 : decide (x4_1 < (l0.length : Int)) = true := decide_eq_true c2; clear c2; have H' := Aside0.mk H; clear H; go_wp2
    repeat (go_quiet (fail); try go_wp2)
    go_loopg [3, 5] k1 (fun kq v3 v5 w' => ∃ (x3_2 : Int) (x5_2 : Int), v3 = .int .i64 x3_2 ∧ v5 = .int .i64 x5_2 ∧ Aside0 (spec_MovesOf.l1 kq l0 x3_2 x4_1 x5_2 = some r) ∧ Aside0 (kq ≤ k1) ∧ Drawn0 w w')
    case atStart => exact ⟨(x3_1), (1), ev_, ev_, H', ⟨Nat.le_refl _⟩, by repeat (first | exact Drawn0.refl _ | apply Drawn0.step)⟩
    case round =>
     clear H'; (try clear c2); (try clear c2b0); (try clear p2); obtain ⟨x3_2, x5_2, rfl, rfl, HA, HK2, ⟨m2, rfl⟩⟩ := hrel
     cases gk with
     | zero => exact absurd HA.out (by simp [spec_MovesOf.l1])
     | succ k2 =>
      have H := HA.out; clear HA; simp only [spec_MovesOf.l1] at H; by_cases c3 : 0 ≤ x4_1
      ·rw [if_pos c3] at H; have c3b0 : decide (0 ≤ x4_1) = true := decide_eq_true c3; clear c3; by_cases c4 : x4_1 < (l0.length : Int)
       ·rw [if_pos c4] at H; have c4b0 : decide (x4_1 < (l0.length : Int)) = true := decide_eq_true c4; clear c4; by_cases c5 : x5_2 < (((rd_T52 l0 x4_1).f0).length : Int)
        ·rw [if_pos c5] at H; have c5b0 : decide (x5_2 < (((rd_T52 l0 x4_1).f0).length : Int)) = true := decide_eq_true c5; clear c5; by_cases c6 : 0 ≤ x5_2
         ·rw [if_pos c6] at H; have c6b0 : decide (0 ≤ x5_2) = true := decide_eq_true c6; clear c6; obtain ⟨ji7, hji7⟩ : ∃ j_ : Int, (wrap64 (x5_2 - 1)) = j_ := ⟨_, rfl⟩; replace H : (if 0 ≤ (ji7) then (if (ji7) < (((rd_T52 l0 x4_1).f0).length : Int) then (if (rd ((rd_T52 l0 x4_1).f0) x5_2) = (rd ((rd_T52 l0 x4_1).f0) (ji7)) then (spec_MovesOf.l1 k2 l0 x3_2 x4_1 (wrap64 (x5_2 + 1))) else (spec_MovesOf.l1 k2 l0 (wrap64 (x3_2 + 1)) x4_1 (wrap64 (x5_2 + 1)))) else (none)) else (none)) = some r := by first | (rw [hji7] at H; exact H) | (simp only [hji7] at H ⊢; exact H)
          have hji7w : (IntKind.i64.wrap (x5_2 - 1)) = ji7 := (i64_w _).trans hji7; by_cases c8 : 0 ≤ (ji7)
          ·rw [if_pos c8] at H; have c8b0 : decide (0 ≤ (ji7)) = true := decide_eq_true c8; clear c8; by_cases c9 : (ji7) < (((rd_T52 l0 x4_1).f0).length : Int)
           ·rw [if_pos c9] at H; have c9b0 : decide ((ji7) < (((rd_T52 l0 x4_1).f0).length : Int)) = true := decide_eq_true c9; clear c9; by_cases c10 : (rd ((rd_T52 l0 x4_1).f0) x5_2) = (rd ((rd_T52 l0 x4_1).f0) (ji7))
            ·rw [if_pos c10] at H; have c10b0 : ((rd ((rd_T52 l0 x4_1).f0) x5_2) == (rd ((rd_T52 l0 x4_1).f0) (ji7))) = true := beq_iff_eq.mpr c10; have c10b1 : ((rd ((rd_T52 l0 x4_1).f0) x5_2) != (rd ((rd_T52 l0 x4_1).f0) (ji7))) = false := bne_eq_false_iff_eq.mpr c10; clear c10; have H' := Aside0.mk H; clear H; have p364 : 0 ≤ (x4_1 : Int) := od_; have q364 : x4_1 < (l0.length : Int) := od_; obtain ⟨ad364, A364_0, c364_0, e364, hx364_0, hl364_0, hi364_0⟩ := at_T52 HR0.out x4_1 p364 q364
             cases e364; have HR364_0 := Aside0.mk hi364_0; have HC364_0 := Aside0.mk hl364_0; clear hi364_0 hl364_0; replace p364 := eq_true p364; replace q364 := eq_true q364; have p365 : 0 ≤ (x4_1 : Int) := od_; have q365 : x4_1 < (l0.length : Int) := od_; obtain ⟨ad365, A365_0, c365_0, e365, hx365_0, hl365_0, hi365_0⟩ := at_T52 HR0.out x4_1 p365 q365; obtain rfl : ad364 = ad365 := (by injection e365); have HR365_0 := Aside0.mk hi365_0; have HC365_0 := Aside0.mk hl365_0; clear hi365_0 hl365_0; replace p365 := eq_true p365; replace q365 := eq_true q365; have ea_ := Option.some.inj (hx364_0.symm.trans hx365_0); injection ea_ with ea_ en_ ec_
             subst ea_; subst ec_; clear en_; have p366 : 0 ≤ (x5_2 : Int) := od_; have q366 : x5_2 < (((rd_T52 l0 x4_1).f0).length : Int) := od_; obtain ⟨ad366, e366, hx366_0⟩ := Kd.at_int HR365_0.out x5_2 p366 q366
             cases e366; replace p366 := eq_true p366; replace q366 := eq_true q366; have p367 : 0 ≤ (x4_1 : Int) := od_; have q367 : x4_1 < (l0.length : Int) := od_; obtain ⟨ad367, A367_0, c367_0, e367, hx367_0, hl367_0, hi367_0⟩ := at_T52 HR0.out x4_1 p367 q367; obtain rfl : ad364 = ad367 := (by injection e367); have HR367_0 := Aside0.mk hi367_0; have HC367_0 := Aside0.mk hl367_0; clear hi367_0 hl367_0; replace p367 := eq_true p367; replace q367 := eq_true q367; have ea_ := Option.some.inj (hx364_0.symm.trans hx367_0); injection ea_ with ea_ en_ ec_
             subst ea_; subst ec_; clear en_; have p368 : 0 ≤ ((ji7) : Int) := od_; have q368 : (ji7) < (((rd_T52 l0 x4_1).f0).length : Int) := od_; obtain ⟨ad368, e368, hx368_0⟩ := Kd.at_int HR367_0.out (ji7) p368 q368
             cases e368; replace p368 := eq_true p368; replace q368 := eq_true q368; go_wp2
             repeat (go_quiet (fail); try go_wp2)
             go_roundg k2
             case measure => have := HK1.out; have := HK2.out; omega
             case rel => exact ⟨(x3_2), (wrap64 (x5_2 + 1)), ev_, ev_, H', ⟨by have := HK1.out; have := HK2.out; omega⟩, by repeat (first | exact Drawn0.refl _ | apply Drawn0.step)⟩
            ·rw [if_neg c10] at H; have c10b0 : ((rd ((rd_T52 l0 x4_1).f0) x5_2) == (rd ((rd_T52 l0 x4_1).f0) (ji7))) = false := beq_eq_false_iff_ne.mpr c10; have c10b1 : ((rd ((rd_T52 l0 x4_1).f0) x5_2) != (rd ((rd_T52 l0 x4_1).f0) (ji7))) = true := bne_iff_ne.mpr c10; have H' := Aside0.mk H; clear H; have p364 : 0 ≤ (x4_1 : Int) := od_; have q364 : x4_1 < (l0.length : Int) := od_; obtain ⟨ad364, A364_0, c364_0, e364, hx364_0, hl364_0, hi364_0⟩ := at_T52 HR0.out x4_1 p364 q364
             cases e364; have HR364_0 := Aside0.mk hi364_0; have HC364_0 := Aside0.mk hl364_0; clear hi364_0 hl364_0; replace p364 := eq_true p364; replace q364 := eq_true q364; have p365 : 0 ≤ (x4_1 : Int) := od_; have q365 : x4_1 < (l0.length : Int) := od_; obtain ⟨ad365, A365_0, c365_0, e365, hx365_0, hl365_0, hi365_0⟩ := at_T52 HR0.out x4_1 p365 q365; obtain rfl : ad364 = ad365 := (by injection e365); have HR365_0 := Aside0.mk hi365_0; have HC365_0 := Aside0.mk hl365_0; clear hi365_0 hl365_0; replace p365 := eq_true p365; replace q365 := eq_true q365; have ea_ := Option.some.inj (hx364_0.symm.trans hx365_0); injection ea_ with ea_ en_ ec_
             subst ea_; subst ec_; clear en_; have p366 : 0 ≤ (x5_2 : Int) := od_; have q366 : x5_2 < (((rd_T52 l0 x4_1).f0).length : Int) := od_; obtain ⟨ad366, e366, hx366_0⟩ := Kd.at_int HR365_0.out x5_2 p366 q366
             cases e366; replace p366 := eq_true p366; replace q366 := eq_true q366; have p367 : 0 ≤ (x4_1 : Int) := od_; have q367 : x4_1 < (l0.length : Int) := od_; obtain ⟨ad367, A367_0, c367_0, e367, hx367_0, hl367_0, hi367_0⟩ := at_T52 HR0.out x4_1 p367 q367; obtain rfl : ad364 = ad367 := (by injection e367); have HR367_0 := Aside0.mk hi367_0; have HC367_0 := Aside0.mk hl367_0; clear hi367_0 hl367_0; replace p367 := eq_true p367; replace q367 := eq_true q367; have ea_ := Option.some.inj (hx364_0.symm.trans hx367_0); injection ea_ with ea_ en_ ec_
             subst ea_; subst ec_; clear en_; have p368 : 0 ≤ ((ji7) : Int) := od_; have q368 : (ji7) < (((rd_T52 l0 x4_1).f0).length : Int) := od_; obtain ⟨ad368, e368, hx368_0⟩ := Kd.at_int HR367_0.out (ji7) p368 q368
             cases e368; replace p368 := eq_true p368; replace q368 := eq_true q368; go_wp2
             repeat (go_quiet (fail); try go_wp2)
             go_roundg k2
             case measure => have := HK1.out; have := HK2.out; omega
             case rel => exact ⟨(wrap64 (x3_2 + 1)), (wrap64 (x5_2 + 1)), ev_, ev_, H', ⟨by have := HK1.out; have := HK2.out; omega⟩, by repeat (first | exact Drawn0.refl _ | apply Drawn0.step)⟩
           ·rw [if_neg c9] at H; exact absurd H (by simp)
          ·rw [if_neg c8] at H; exact absurd H (by simp)
         ·rw [if_neg c6] at H; exact absurd H (by simp)
        ·rw [if_neg c5] at H; have c5b0 : decide (x5_2 < (((rd_T52 l0 x4_1).f0).length : Int)) = false := decide_eq_false c5; clear c5; have H' := Aside0.mk H; clear H; have p364 : 0 ≤ (x4_1 : Int) := od_; have q364 : x4_1 < (l0.length : Int) := od_; obtain ⟨ad364, A364_0, c364_0, e364, hx364_0, hl364_0, hi364_0⟩ := at_T52 HR0.out x4_1 p364 q364
         cases e364; have HR364_0 := Aside0.mk hi364_0; have HC364_0 := Aside0.mk hl364_0; clear hi364_0 hl364_0; replace p364 := eq_true p364; replace q364 := eq_true q364; go_wp2
         repeat (go_quiet (fail); try go_wp2)
         go_roundg k2
         case measure => have := HK1.out; have := HK2.out; omega
         case rel => exact ⟨(x3_2), (wrap64 (x4_1 + 1)), ev_, ev_, H', ⟨by have := HK1.out; have := HK2.out; omega⟩, by repeat (first | exact Drawn0.refl _ | apply Drawn0.step)⟩
       ·rw [if_neg c4] at H; exact absurd H (by simp)
      ·rw [if_neg c3] at H; exact absurd H (by simp)
   ·rw [if_neg c2] at H; have c2b0 : decide (x4_1 < (l0.length : Int)) = false := decide_eq_false c2; clear c2; obtain rfl := Option.some.inj H; go_wp2
    repeat (go_quiet (fail); try go_wp2)
    go_ret; exact ⟨by first | rfl | (simp; done) | (simp [*]; done), by repeat (first | exact Drawn0.refl _ | apply Drawn0.step)⟩

end Go.Proofs.Ytdebpmdbeogglaa.Q
