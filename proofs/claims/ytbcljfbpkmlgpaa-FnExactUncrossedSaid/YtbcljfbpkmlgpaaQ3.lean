-- Written by a session's own program (wip/tools/myprint.py) over the kit's printer, out of the translation. Not trusted: Lean checks it.
import Derived.Test.YtbcljfbpkmlgpaaQ0
namespace Go.Proofs.Ytbcljfbpkmlgpaa.Q
open Go.RowKit Go.Proofs.YtbcljfbpkmlgpaaW.PrintWords Go.Proofs.YtbcljfbpkmlgpaaW.PrintLast Go.Proofs.YtbcljfbpkmlgpaaW.PrintMore
attribute [local go_sem] max2_int min2_int max_two min_two max_three min_three max_four min_four   -- for this text's walks alone
set_option linter.unusedVariables false
set_option linter.unusedSimpArgs false

/-! ### spec_l12Ring: function 54 -/
mutual
def spec_l12Ring.l0 : Nat → List (S42) → Int → Int → Int → Int → Option (Int)
 | 0, _, _, _, _, _ => none
 | k + 1, x0, x1, x2, x7, x8 => if x8 ≤ (x0.length : Int) then (spec_l12Ring.l1 k x0 x1 x2 x7 x8 (-1) 0) else (some 0)
def spec_l12Ring.l1 : Nat → List (S42) → Int → Int → Int → Int → Int → Int → Option (Int)
 | 0, _, _, _, _, _, _, _ => none
 | k + 1, x0, x1, x2, x7, x8, x9, x10 => if x10 < (x0.length : Int) then (if 0 ≤ x10 then (if 0 ≤ x1 then (if x1 < (((rd_T42 x0 x10).f0).length : Int) then (if 0 ≤ x7 then (if x7 < (x0.length : Int) then (if 0 ≤ (wrap64 (x1 + 1)) then (if (wrap64 (x1 + 1)) < (((rd_T42 x0 x7).f0).length : Int) then (if (rd ((rd_T42 x0 x10).f0) x1) = (rd ((rd_T42 x0 x7).f0) (wrap64 (x1 + 1))) then (spec_l12Ring.l1 k x0 x1 x2 x7 x8 x10 (wrap64 (x10 + 1))) else (spec_l12Ring.l1 k x0 x1 x2 x7 x8 x9 (wrap64 (x10 + 1)))) else (none)) else (none)) else (none)) else (none)) else (none)) else (none)) else (none)) else (if x9 < 0 then (some 0) else (if x9 = x2 then (some x8) else (spec_l12Ring.l0 k x0 x1 x2 x9 (wrap64 (x8 + 1)))))
end
def spec_l12Ring.f (k : Nat) (l0 : List (S42)) (a1 : Int) (a2 : Int) : Option (Int) := spec_l12Ring.l0 k l0 a1 a2 a2 1
set_option maxHeartbeats 8000000 in
set_option maxRecDepth 100000 in
theorem spec_l12Ring.calls (k : Nat) (A0 : Option Addr) (c0 : Nat) (l0 : List (S42)) (a1 : Int) (a2 : Int) (r : Int) (w : World) (hr0 : Kd.C k42 w A0 l0.length l0) (hc0 : l0.length ≤ c0) (h : spec_l12Ring.f k l0 a1 a2 = some r) :
  Calls Try.prog 54 #[.slice A0 l0.length c0, .int .i64 a1, .int .i64 a2] w fun e w' => e = .returned (.int .i64 r) ∧ Drawn0 w w' := by
 have HR0 := Aside0.mk hr0
 have HC0 := Aside0.mk hc0
 clear hr0 hc0
 have H : (spec_l12Ring.l0 k l0 a1 a2 a2 1) = some r := h
 clear h
 have H' := Aside0.mk H
 clear H
 go_enter Try.func54, Try.ntmps54
 go_wp2
 repeat (go_quiet (fail); try go_wp2)
 go_loopg [7, 8] k (fun kq v7 v8 w' => ∃ (x7_1 : Int) (x8_1 : Int), v7 = .int .i64 x7_1 ∧ v8 = .int .i64 x8_1 ∧ Aside0 (spec_l12Ring.l0 kq l0 a1 a2 x7_1 x8_1 = some r) ∧ Aside0 (kq ≤ k) ∧ Drawn0 w w')
 case atStart => exact ⟨(a2), (1), (by first | rfl | (simp; done) | (simp [*]; done)), (by first | rfl | (simp; done) | (simp [*]; done)), H', ⟨Nat.le_refl _⟩, by repeat (first | exact Drawn0.refl _ | apply Drawn0.step)⟩
 case round =>
  clear H'
  try clear p2
  obtain ⟨x7_1, x8_1, rfl, rfl, HA, HK1, ⟨m1, rfl⟩⟩ := hrel
  cases gk with
  | zero => exact absurd HA.out (by simp [spec_l12Ring.l0])
  | succ k1 =>
   have H := HA.out
   clear HA
   simp only [spec_l12Ring.l0] at H
   by_cases c4 : x8_1 ≤ (l0.length : Int)
   ·rw [if_pos c4] at H
    have c4b0 : decide (x8_1 ≤ (l0.length : Int)) = true := decide_eq_true c4
    clear c4
    have H' := Aside0.mk H
    clear H
    go_wp2
    repeat (go_quiet (fail); try go_wp2)
    go_loopg [9, 10] k1 (fun kq v9 v10 w' => ∃ (x9_2 : Int) (x10_2 : Int), v9 = .int .i64 x9_2 ∧ v10 = .int .i64 x10_2 ∧ Aside0 (spec_l12Ring.l1 kq l0 a1 a2 x7_1 x8_1 x9_2 x10_2 = some r) ∧ Aside0 (kq ≤ k1) ∧ Drawn0 w w')
    case atStart => exact ⟨((-1)), (0), (by first | rfl | (simp; done) | (simp [*]; done)), (by first | rfl | (simp; done) | (simp [*]; done)), H', ⟨Nat.le_refl _⟩, by repeat (first | exact Drawn0.refl _ | apply Drawn0.step)⟩
    case round =>
     clear H'
     try clear p2
     try clear c4
     try clear c4b0
     try clear p2
     obtain ⟨x9_2, x10_2, rfl, rfl, HA, HK2, ⟨m2, rfl⟩⟩ := hrel
     cases gk with
     | zero => exact absurd HA.out (by simp [spec_l12Ring.l1])
     | succ k2 =>
      have H := HA.out
      clear HA
      simp only [spec_l12Ring.l1] at H
      by_cases c5 : x10_2 < (l0.length : Int)
      ·rw [if_pos c5] at H
       have c5b0 : decide (x10_2 < (l0.length : Int)) = true := decide_eq_true c5
       clear c5
       by_cases c6 : 0 ≤ x10_2
       ·rw [if_pos c6] at H
        have c6b0 : decide (0 ≤ x10_2) = true := decide_eq_true c6
        clear c6
        by_cases c7 : 0 ≤ a1
        ·rw [if_pos c7] at H
         have c7b0 : decide (0 ≤ a1) = true := decide_eq_true c7
         clear c7
         by_cases c8 : a1 < (((rd_T42 l0 x10_2).f0).length : Int)
         ·rw [if_pos c8] at H
          have c8b0 : decide (a1 < (((rd_T42 l0 x10_2).f0).length : Int)) = true := decide_eq_true c8
          clear c8
          by_cases c9 : 0 ≤ x7_1
          ·rw [if_pos c9] at H
           have c9b0 : decide (0 ≤ x7_1) = true := decide_eq_true c9
           clear c9
           by_cases c10 : x7_1 < (l0.length : Int)
           ·rw [if_pos c10] at H
            have c10b0 : decide (x7_1 < (l0.length : Int)) = true := decide_eq_true c10
            clear c10
            obtain ⟨ji11, hji11⟩ : ∃ j_ : Int, (wrap64 (a1 + 1)) = j_ := ⟨_, rfl⟩
            replace H : (if 0 ≤ (ji11) then (if (ji11) < (((rd_T42 l0 x7_1).f0).length : Int) then (if (rd ((rd_T42 l0 x10_2).f0) a1) = (rd ((rd_T42 l0 x7_1).f0) (ji11)) then (spec_l12Ring.l1 k2 l0 a1 a2 x7_1 x8_1 x10_2 (wrap64 (x10_2 + 1))) else (spec_l12Ring.l1 k2 l0 a1 a2 x7_1 x8_1 x9_2 (wrap64 (x10_2 + 1)))) else (none)) else (none)) = some r := by first | (rw [hji11] at H; exact H) | (simp only [hji11] at H ⊢; exact H)
            have hji11w : (IntKind.i64.wrap (a1 + 1)) = ji11 := (i64_w _).trans hji11
            by_cases c12 : 0 ≤ (ji11)
            ·rw [if_pos c12] at H
             have c12b0 : decide (0 ≤ (ji11)) = true := decide_eq_true c12
             clear c12
             by_cases c13 : (ji11) < (((rd_T42 l0 x7_1).f0).length : Int)
             ·rw [if_pos c13] at H
              have c13b0 : decide ((ji11) < (((rd_T42 l0 x7_1).f0).length : Int)) = true := decide_eq_true c13
              clear c13
              by_cases c14 : (rd ((rd_T42 l0 x10_2).f0) a1) = (rd ((rd_T42 l0 x7_1).f0) (ji11))
              ·rw [if_pos c14] at H
               have c14b0 : ((rd ((rd_T42 l0 x10_2).f0) a1) == (rd ((rd_T42 l0 x7_1).f0) (ji11))) = true := beq_iff_eq.mpr c14
               have c14b1 : ((rd ((rd_T42 l0 x10_2).f0) a1) != (rd ((rd_T42 l0 x7_1).f0) (ji11))) = false := bne_eq_false_iff_eq.mpr c14
               clear c14
               have H' := Aside0.mk H
               clear H
               have p155 : 0 ≤ (x10_2 : Int) := of_decide_eq_true (by first | (with_reducible assumption) | assumption)
               have q155 : x10_2 < (l0.length : Int) := of_decide_eq_true (by first | (with_reducible assumption) | assumption)
               obtain ⟨ad155, A155_0, c155_0, e155, hx155_0, hl155_0, hi155_0⟩ := at_T42 HR0.out x10_2 p155 q155
               cases e155
               have HR155_0 := Aside0.mk hi155_0
               have HC155_0 := Aside0.mk hl155_0
               clear hi155_0 hl155_0
               replace p155 := eq_true p155
               replace q155 := eq_true q155
               have p156 : 0 ≤ (a1 : Int) := of_decide_eq_true (by first | (with_reducible assumption) | assumption)
               have q156 : a1 < (((rd_T42 l0 x10_2).f0).length : Int) := of_decide_eq_true (by first | (with_reducible assumption) | assumption)
               obtain ⟨ad156, e156, hx156_0⟩ := Kd.at_int HR155_0.out a1 p156 q156
               cases e156
               replace p156 := eq_true p156
               replace q156 := eq_true q156
               have p157 : 0 ≤ (x7_1 : Int) := of_decide_eq_true (by first | (with_reducible assumption) | assumption)
               have q157 : x7_1 < (l0.length : Int) := of_decide_eq_true (by first | (with_reducible assumption) | assumption)
               obtain ⟨ad157, A157_0, c157_0, e157, hx157_0, hl157_0, hi157_0⟩ := at_T42 HR0.out x7_1 p157 q157
               obtain rfl : ad155 = ad157 := (by injection e157)
               have HR157_0 := Aside0.mk hi157_0
               have HC157_0 := Aside0.mk hl157_0
               clear hi157_0 hl157_0
               replace p157 := eq_true p157
               replace q157 := eq_true q157
               have p158 : 0 ≤ ((ji11) : Int) := of_decide_eq_true (by first | (with_reducible assumption) | assumption)
               have q158 : (ji11) < (((rd_T42 l0 x7_1).f0).length : Int) := of_decide_eq_true (by first | (with_reducible assumption) | assumption)
               obtain ⟨ad158, e158, hx158_0⟩ := Kd.at_int HR157_0.out (ji11) p158 q158
               cases e158
               replace p158 := eq_true p158
               replace q158 := eq_true q158
               go_wp2
               repeat (go_quiet (fail); try go_wp2)
               go_roundg k2
               case measure => have := HK1.out; have := HK2.out; omega
               case rel => exact ⟨(x10_2), (wrap64 (x10_2 + 1)), (by first | rfl | (simp; done) | (simp [*]; done)), (by first | rfl | (simp; done) | (simp [*]; done)), H', ⟨by have := HK1.out; have := HK2.out; omega⟩, by repeat (first | exact Drawn0.refl _ | apply Drawn0.step)⟩
              ·rw [if_neg c14] at H
               have c14b0 : ((rd ((rd_T42 l0 x10_2).f0) a1) == (rd ((rd_T42 l0 x7_1).f0) (ji11))) = false := beq_eq_false_iff_ne.mpr c14
               have c14b1 : ((rd ((rd_T42 l0 x10_2).f0) a1) != (rd ((rd_T42 l0 x7_1).f0) (ji11))) = true := bne_iff_ne.mpr c14
               have H' := Aside0.mk H
               clear H
               have p155 : 0 ≤ (x10_2 : Int) := of_decide_eq_true (by first | (with_reducible assumption) | assumption)
               have q155 : x10_2 < (l0.length : Int) := of_decide_eq_true (by first | (with_reducible assumption) | assumption)
               obtain ⟨ad155, A155_0, c155_0, e155, hx155_0, hl155_0, hi155_0⟩ := at_T42 HR0.out x10_2 p155 q155
               cases e155
               have HR155_0 := Aside0.mk hi155_0
               have HC155_0 := Aside0.mk hl155_0
               clear hi155_0 hl155_0
               replace p155 := eq_true p155
               replace q155 := eq_true q155
               have p156 : 0 ≤ (a1 : Int) := of_decide_eq_true (by first | (with_reducible assumption) | assumption)
               have q156 : a1 < (((rd_T42 l0 x10_2).f0).length : Int) := of_decide_eq_true (by first | (with_reducible assumption) | assumption)
               obtain ⟨ad156, e156, hx156_0⟩ := Kd.at_int HR155_0.out a1 p156 q156
               cases e156
               replace p156 := eq_true p156
               replace q156 := eq_true q156
               have p157 : 0 ≤ (x7_1 : Int) := of_decide_eq_true (by first | (with_reducible assumption) | assumption)
               have q157 : x7_1 < (l0.length : Int) := of_decide_eq_true (by first | (with_reducible assumption) | assumption)
               obtain ⟨ad157, A157_0, c157_0, e157, hx157_0, hl157_0, hi157_0⟩ := at_T42 HR0.out x7_1 p157 q157
               obtain rfl : ad155 = ad157 := (by injection e157)
               have HR157_0 := Aside0.mk hi157_0
               have HC157_0 := Aside0.mk hl157_0
               clear hi157_0 hl157_0
               replace p157 := eq_true p157
               replace q157 := eq_true q157
               have p158 : 0 ≤ ((ji11) : Int) := of_decide_eq_true (by first | (with_reducible assumption) | assumption)
               have q158 : (ji11) < (((rd_T42 l0 x7_1).f0).length : Int) := of_decide_eq_true (by first | (with_reducible assumption) | assumption)
               obtain ⟨ad158, e158, hx158_0⟩ := Kd.at_int HR157_0.out (ji11) p158 q158
               cases e158
               replace p158 := eq_true p158
               replace q158 := eq_true q158
               go_wp2
               repeat (go_quiet (fail); try go_wp2)
               go_roundg k2
               case measure => have := HK1.out; have := HK2.out; omega
               case rel => exact ⟨(x9_2), (wrap64 (x10_2 + 1)), (by first | rfl | (simp; done) | (simp [*]; done)), (by first | rfl | (simp; done) | (simp [*]; done)), H', ⟨by have := HK1.out; have := HK2.out; omega⟩, by repeat (first | exact Drawn0.refl _ | apply Drawn0.step)⟩
             ·rw [if_neg c13] at H
              exact absurd H (by simp)
            ·rw [if_neg c12] at H
             exact absurd H (by simp)
           ·rw [if_neg c10] at H
            exact absurd H (by simp)
          ·rw [if_neg c9] at H
           exact absurd H (by simp)
         ·rw [if_neg c8] at H
          exact absurd H (by simp)
        ·rw [if_neg c7] at H
         exact absurd H (by simp)
       ·rw [if_neg c6] at H
        exact absurd H (by simp)
      ·rw [if_neg c5] at H
       have c5b0 : decide (x10_2 < (l0.length : Int)) = false := decide_eq_false c5
       clear c5
       by_cases c15 : x9_2 < 0
       ·rw [if_pos c15] at H
        have c15b0 : decide (x9_2 < 0) = true := decide_eq_true c15
        clear c15
        obtain rfl := Option.some.inj H
        go_wp2
        repeat (go_quiet (fail); try go_wp2)
        go_ret
        exact ⟨by first | rfl | (simp; done) | (simp [*]; done), by repeat (first | exact Drawn0.refl _ | apply Drawn0.step)⟩
       ·rw [if_neg c15] at H
        have c15b0 : decide (x9_2 < 0) = false := decide_eq_false c15
        clear c15
        by_cases c16 : x9_2 = a2
        ·rw [if_pos c16] at H
         have c16b0 : (x9_2 == a2) = true := beq_iff_eq.mpr c16
         have c16b1 : (x9_2 != a2) = false := bne_eq_false_iff_eq.mpr c16
         clear c16
         obtain rfl := Option.some.inj H
         go_wp2
         repeat (go_quiet (fail); try go_wp2)
         go_ret
         exact ⟨by first | rfl | (simp; done) | (simp [*]; done), by repeat (first | exact Drawn0.refl _ | apply Drawn0.step)⟩
        ·rw [if_neg c16] at H
         have c16b0 : (x9_2 == a2) = false := beq_eq_false_iff_ne.mpr c16
         have c16b1 : (x9_2 != a2) = true := bne_iff_ne.mpr c16
         have H' := Aside0.mk H
         clear H
         go_wp2
         repeat (go_quiet (fail); try go_wp2)
         go_roundg k2
         case measure => have := HK1.out; have := HK2.out; omega
         case rel => exact ⟨(x9_2), (wrap64 (x8_1 + 1)), (by first | rfl | (simp; done) | (simp [*]; done)), (by first | rfl | (simp; done) | (simp [*]; done)), H', ⟨by have := HK1.out; have := HK2.out; omega⟩, by repeat (first | exact Drawn0.refl _ | apply Drawn0.step)⟩
   ·rw [if_neg c4] at H
    have c4b0 : decide (x8_1 ≤ (l0.length : Int)) = false := decide_eq_false c4
    clear c4
    obtain rfl := Option.some.inj H
    go_wp2
    repeat (go_quiet (fail); try go_wp2)
    go_ret
    exact ⟨by first | rfl | (simp; done) | (simp [*]; done), by repeat (first | exact Drawn0.refl _ | apply Drawn0.step)⟩

end Go.Proofs.Ytbcljfbpkmlgpaa.Q
