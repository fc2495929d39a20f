-- Written by a session's own program (wip/tools/myprint.py) over the kit's printer, out of the translation. Not trusted: Lean checks it.
import Derived.Test.YtdebpmdbeogglaaQ0
import Derived.Test.YtdebpmdbeogglaaQ7
-- squeezed
namespace Go.Proofs.Ytdebpmdbeogglaa.Q
open Go.RowKit Go.Proofs.YtdebpmdbeogglaaW.PrintWords Go.Proofs.YtdebpmdbeogglaaW.PrintLast Go.Proofs.YtdebpmdbeogglaaW.PrintMore
attribute [local go_sem] max2_int min2_int max_two min_two max_three min_three max_four min_four   -- for this text's walks alone
set_option linter.unusedVariables false
set_option linter.unusedSimpArgs false

/-! ### impl_meets: function 35 -/
mutual
def impl_meets.l0 : Nat → List (S52) → Int → Int → Int → Option (Bool)
 | 0, _, _, _, _ => none
 | k + 1, x0, x1, x8, x9 => if x9 < x8 then (if 0 ≤ x9 then (if x9 ≤ (x0.length : Int) then (impl_meets.l1 k x0 x1 x9 x8 x9 ((x0.take (x9 : Int).toNat).length : Int) 0) else (none)) else (none)) else (some false)
def impl_meets.l1 : Nat → List (S52) → Int → Int → Int → Int → Int → Int → Option (Bool)
 | 0, _, _, _, _, _, _, _ => none
 | k + 1, x0, x1, x5, x8, x9, x15, x16 => if x16 < x15 then (if 0 ≤ x5 then (if x5 < (x0.length : Int) then (if 0 ≤ x1 then (if x1 < (((rd_T52 x0 x5).f0).length : Int) then (if 0 ≤ x16 then (if x16 < (x0.length : Int) then (if x1 < (((rd_T52 x0 x16).f0).length : Int) then (if (rd ((rd_T52 x0 x5).f0) x1) = (rd ((rd_T52 x0 x16).f0) x1) then (some true) else (impl_meets.l1 k x0 x1 x5 x8 x9 x15 (wrap64 (x16 + 1)))) else (none)) else (none)) else (none)) else (none)) else (none)) else (none)) else (none)) else (impl_meets.l0 k x0 x1 x8 (wrap64 (x9 + 1)))
end
def impl_meets.f (k : Nat) (l0 : List (S52)) (a1 : Int) : Option (Bool) := impl_meets.l0 k l0 a1 (l0.length : Int) 0
set_option maxHeartbeats 8000000 in
set_option maxRecDepth 100000 in
theorem impl_meets.calls (k : Nat) (A0 : Option Addr) (c0 : Nat) (l0 : List (S52)) (a1 : Int) (r : Bool) (w : World) (hr0 : Kd.C k52 w A0 l0.length l0) (hc0 : l0.length ≤ c0) (h : impl_meets.f k l0 a1 = some r) :
  Calls Try.prog 35 #[.slice A0 l0.length c0, .int .i64 a1] w fun e w' => e = .returned (.bool r) ∧ Drawn0 w w' := by
 have HR0 := Aside0.mk hr0; have HC0 := Aside0.mk hc0; clear hr0 hc0; have H : (impl_meets.l0 k l0 a1 (l0.length : Int) 0) = some r := h; clear h; have H' := Aside0.mk H; clear H; go_enter Try.func35, Try.ntmps35; go_wp2
 repeat (go_quiet (fail); try go_wp2)
 go_loopg [9] k (fun kq v9 w' => ∃ (x9_1 : Int), v9 = .int .i64 x9_1 ∧ Aside0 (impl_meets.l0 kq l0 a1 (l0.length : Int) x9_1 = some r) ∧ Aside0 (kq ≤ k) ∧ Drawn0 w w')
 case atStart => exact ⟨(0), ev_, H', ⟨Nat.le_refl _⟩, by repeat (first | exact Drawn0.refl _ | apply Drawn0.step)⟩
 case round =>
  clear H'; (try clear p2); obtain ⟨x9_1, rfl, HA, HK1, ⟨m1, rfl⟩⟩ := hrel
  cases gk with
  | zero => exact absurd HA.out (by simp [impl_meets.l0])
  | succ k1 =>
   have H := HA.out; clear HA; simp only [impl_meets.l0] at H; by_cases c3 : x9_1 < (l0.length : Int)
   ·rw [if_pos c3] at H; have c3b0 : decide (x9_1 < (l0.length : Int)) = true := decide_eq_true c3; clear c3; by_cases c4 : 0 ≤ x9_1
    ·rw [if_pos c4] at H; have c4b0 := eq_true c4; have c4b1 : decide (0 ≤ x9_1) = true := decide_eq_true c4; clear c4; by_cases c5 : x9_1 ≤ (l0.length : Int)
     ·rw [if_pos c5] at H; have c5b0 := eq_true c5; have c5b1 : decide (x9_1 ≤ (l0.length : Int)) = true := decide_eq_true c5; clear c5; obtain ⟨y433, hy433⟩ : ∃ y_ : List (S52), y_ = (l0.take (x9_1 : Int).toNat) := ⟨_, rfl⟩; replace H : (impl_meets.l1 k1 l0 a1 x9_1 (l0.length : Int) x9_1 (y433.length : Int) 0) = some r := by first | (rw [hy433]; with_reducible exact H) | (have H2_ := (Option.bind_some _ _).symm.trans H; rw [hy433]; with_reducible exact H2_) | (have H2_ := (Option.bind_some _ _).symm.trans H; with_reducible exact H2_) | with_reducible exact H | (rw [hy433]; exact H) | exact H
      have Ny433 := Aside0.mk hy433; clear hy433; have H' := Aside0.mk H; clear H; have q6 : (x9_1 : Int) ≤ ((l0.length : Int) : Int) := od_; obtain ⟨i06, hi06, _, hsz6, _⟩ := info_parts info52; have hroom6 : l0.length ≤ c0 := HC0.out; have hC6 : Kd.C k52 _ A0 l0.length l0 := HR0.out; have hcut6 := cut_to (P := Try.prog) 27 52 .i64 Try.underlying27 hi06 A0 l0.length c0 x9_1 od_ q6 hroom6; have hr6 := Kd.C_take (m := (x9_1 : Int).toNat) hC6 (by omega); have hy6 : y433.length = (x9_1 : Int).toNat := (by rw [Ny433.out, List.length_take]; omega); rw [← Ny433.out] at hr6; rw [← hy6] at hcut6; have HR436 := Aside0.mk hr6; have HC436 := Aside0.mk (show y433.length ≤ c0 from by omega); clear hr6 hC6 hroom6 hi06 hsz6; have KY6 := Aside0.mk hy6; clear hy6; replace q6 := eq_true q6; go_wp2
      repeat (go_quiet (fail); try go_wp2)
      go_loopg [16] k1 (fun kq v16 w' => ∃ (x16_2 : Int), v16 = .int .i64 x16_2 ∧ Aside0 (impl_meets.l1 kq l0 a1 x9_1 (l0.length : Int) x9_1 (y433.length : Int) x16_2 = some r) ∧ Aside0 (kq ≤ k1) ∧ Drawn0 w w')
      case atStart => exact ⟨(0), ev_, H', ⟨Nat.le_refl _⟩, by repeat (first | exact Drawn0.refl _ | apply Drawn0.step)⟩
      case round =>
       clear H'; (try clear p2); (try clear c3); (try clear c3b0); (try clear c4); (try clear c4b0); (try clear c4b1); (try clear c5); (try clear c5b0); (try clear c5b1); (try clear q6); (try clear p2); (try clear q6); obtain ⟨x16_2, rfl, HA, HK2, ⟨m2, rfl⟩⟩ := hrel
       cases gk with
       | zero => exact absurd HA.out (by simp [impl_meets.l1])
       | succ k2 =>
        have H := HA.out; clear HA; simp only [impl_meets.l1] at H; by_cases c7 : x16_2 < (y433.length : Int)
        ·rw [if_pos c7] at H; have c7b0 : decide (x16_2 < (y433.length : Int)) = true := decide_eq_true c7; clear c7; by_cases c8 : 0 ≤ x9_1
         ·rw [if_pos c8] at H; have c8b0 : decide (0 ≤ x9_1) = true := decide_eq_true c8; clear c8; by_cases c9 : x9_1 < (l0.length : Int)
          ·rw [if_pos c9] at H; have c9b0 : decide (x9_1 < (l0.length : Int)) = true := decide_eq_true c9; clear c9; by_cases c10 : 0 ≤ a1
           ·rw [if_pos c10] at H; have c10b0 : decide (0 ≤ a1) = true := decide_eq_true c10; clear c10; by_cases c11 : a1 < (((rd_T52 l0 x9_1).f0).length : Int)
            ·rw [if_pos c11] at H; have c11b0 : decide (a1 < (((rd_T52 l0 x9_1).f0).length : Int)) = true := decide_eq_true c11; clear c11; by_cases c12 : 0 ≤ x16_2
             ·rw [if_pos c12] at H; have c12b0 : decide (0 ≤ x16_2) = true := decide_eq_true c12; clear c12; by_cases c13 : x16_2 < (l0.length : Int)
              ·rw [if_pos c13] at H; have c13b0 : decide (x16_2 < (l0.length : Int)) = true := decide_eq_true c13; clear c13; by_cases c14 : a1 < (((rd_T52 l0 x16_2).f0).length : Int)
               ·rw [if_pos c14] at H; have c14b0 : decide (a1 < (((rd_T52 l0 x16_2).f0).length : Int)) = true := decide_eq_true c14; clear c14; by_cases c15 : (rd ((rd_T52 l0 x9_1).f0) a1) = (rd ((rd_T52 l0 x16_2).f0) a1)
                ·rw [if_pos c15] at H; have c15b0 : ((rd ((rd_T52 l0 x9_1).f0) a1) == (rd ((rd_T52 l0 x16_2).f0) a1)) = true := beq_iff_eq.mpr c15; have c15b1 : ((rd ((rd_T52 l0 x9_1).f0) a1) != (rd ((rd_T52 l0 x16_2).f0) a1)) = false := bne_eq_false_iff_eq.mpr c15; clear c15; obtain rfl := Option.some.inj H; have p437 : 0 ≤ (x9_1 : Int) := od_; have q437 : x9_1 < (l0.length : Int) := od_; obtain ⟨ad437, A437_0, c437_0, e437, hx437_0, hl437_0, hi437_0⟩ := at_T52 HR0.out x9_1 p437 q437
                 cases e437; have HR437_0 := Aside0.mk hi437_0; have HC437_0 := Aside0.mk hl437_0; clear hi437_0 hl437_0; replace p437 := eq_true p437; replace q437 := eq_true q437; have p438 : 0 ≤ (a1 : Int) := od_; have q438 : a1 < (((rd_T52 l0 x9_1).f0).length : Int) := od_; obtain ⟨ad438, e438, hx438_0⟩ := Kd.at_int HR437_0.out a1 p438 q438
                 cases e438; replace p438 := eq_true p438; replace q438 := eq_true q438; have p439 : 0 ≤ (x16_2 : Int) := od_; have q439 : x16_2 < (l0.length : Int) := od_; obtain ⟨ad439, A439_0, c439_0, e439, hx439_0, hl439_0, hi439_0⟩ := at_T52 HR0.out x16_2 p439 q439; obtain rfl : ad437 = ad439 := (by injection e439); have HR439_0 := Aside0.mk hi439_0; have HC439_0 := Aside0.mk hl439_0; clear hi439_0 hl439_0; replace p439 := eq_true p439; replace q439 := eq_true q439; have p440 : 0 ≤ (a1 : Int) := od_; have q440 : a1 < (((rd_T52 l0 x16_2).f0).length : Int) := od_; obtain ⟨ad440, e440, hx440_0⟩ := Kd.at_int HR439_0.out a1 p440 q440
                 cases e440; replace p440 := eq_true p440; replace q440 := eq_true q440; go_wp2
                 repeat (go_quiet (fail); try go_wp2)
                 go_ret; exact ⟨by first | rfl | (simp; done) | (simp [*]; done), by repeat (first | exact Drawn0.refl _ | apply Drawn0.step)⟩
                ·rw [if_neg c15] at H; have c15b0 : ((rd ((rd_T52 l0 x9_1).f0) a1) == (rd ((rd_T52 l0 x16_2).f0) a1)) = false := beq_eq_false_iff_ne.mpr c15; have c15b1 : ((rd ((rd_T52 l0 x9_1).f0) a1) != (rd ((rd_T52 l0 x16_2).f0) a1)) = true := bne_iff_ne.mpr c15; have H' := Aside0.mk H; clear H; have p437 : 0 ≤ (x9_1 : Int) := od_; have q437 : x9_1 < (l0.length : Int) := od_; obtain ⟨ad437, A437_0, c437_0, e437, hx437_0, hl437_0, hi437_0⟩ := at_T52 HR0.out x9_1 p437 q437
                 cases e437; have HR437_0 := Aside0.mk hi437_0; have HC437_0 := Aside0.mk hl437_0; clear hi437_0 hl437_0; replace p437 := eq_true p437; replace q437 := eq_true q437; have p438 : 0 ≤ (a1 : Int) := od_; have q438 : a1 < (((rd_T52 l0 x9_1).f0).length : Int) := od_; obtain ⟨ad438, e438, hx438_0⟩ := Kd.at_int HR437_0.out a1 p438 q438
                 cases e438; replace p438 := eq_true p438; replace q438 := eq_true q438; have p439 : 0 ≤ (x16_2 : Int) := od_; have q439 : x16_2 < (l0.length : Int) := od_; obtain ⟨ad439, A439_0, c439_0, e439, hx439_0, hl439_0, hi439_0⟩ := at_T52 HR0.out x16_2 p439 q439; obtain rfl : ad437 = ad439 := (by injection e439); have HR439_0 := Aside0.mk hi439_0; have HC439_0 := Aside0.mk hl439_0; clear hi439_0 hl439_0; replace p439 := eq_true p439; replace q439 := eq_true q439; have p440 : 0 ≤ (a1 : Int) := od_; have q440 : a1 < (((rd_T52 l0 x16_2).f0).length : Int) := od_; obtain ⟨ad440, e440, hx440_0⟩ := Kd.at_int HR439_0.out a1 p440 q440
                 cases e440; replace p440 := eq_true p440; replace q440 := eq_true q440; go_wp2
                 repeat (go_quiet (fail); try go_wp2)
                 go_roundg k2
                 case measure => have := HK1.out; have := HK2.out; omega
                 case rel => exact ⟨(wrap64 (x16_2 + 1)), ev_, H', ⟨by have := HK1.out; have := HK2.out; omega⟩, by repeat (first | exact Drawn0.refl _ | apply Drawn0.step)⟩
               ·rw [if_neg c14] at H; exact absurd H (by simp)
              ·rw [if_neg c13] at H; exact absurd H (by simp)
             ·rw [if_neg c12] at H; exact absurd H (by simp)
            ·rw [if_neg c11] at H; exact absurd H (by simp)
           ·rw [if_neg c10] at H; exact absurd H (by simp)
          ·rw [if_neg c9] at H; exact absurd H (by simp)
         ·rw [if_neg c8] at H; exact absurd H (by simp)
        ·rw [if_neg c7] at H; have c7b0 : decide (x16_2 < (y433.length : Int)) = false := decide_eq_false c7; clear c7; have H' := Aside0.mk H; clear H; go_wp2
         repeat (go_quiet (fail); try go_wp2)
         go_roundg k2
         case measure => have := HK1.out; have := HK2.out; omega
         case rel => exact ⟨(wrap64 (x9_1 + 1)), ev_, H', ⟨by have := HK1.out; have := HK2.out; omega⟩, by repeat (first | exact Drawn0.refl _ | apply Drawn0.step)⟩
     ·rw [if_neg c5] at H; exact absurd H (by simp)
    ·rw [if_neg c4] at H; exact absurd H (by simp)
   ·rw [if_neg c3] at H; have c3b0 : decide (x9_1 < (l0.length : Int)) = false := decide_eq_false c3; clear c3; obtain rfl := Option.some.inj H; go_wp2
    repeat (go_quiet (fail); try go_wp2)
    go_ret; exact ⟨by first | rfl | (simp; done) | (simp [*]; done), by repeat (first | exact Drawn0.refl _ | apply Drawn0.step)⟩

/-! ### impl_MeetAt: function 9 -/
def impl_MeetAt.f (k : Nat) (l0 : List (S52)) (a1 : Int) : Option (Bool) := (impl_LevelWays.f l0 a1).bind fun t441 => (if t441 = true then ((impl_meets.f k l0 a1).bind fun t442 => (if t442 = true then (some true) else ((impl_meets.f k l0 (wrap64 (a1 + 1))).bind fun t443 => (some t443)))) else (some false))
set_option maxHeartbeats 8000000 in
set_option maxRecDepth 100000 in
theorem impl_MeetAt.calls (k : Nat) (A0 : Option Addr) (c0 : Nat) (l0 : List (S52)) (a1 : Int) (r : Bool) (w : World) (hr0 : Kd.C k52 w A0 l0.length l0) (hc0 : l0.length ≤ c0) (h : impl_MeetAt.f k l0 a1 = some r) :
  Calls Try.prog 9 #[.slice A0 l0.length c0, .int .i64 a1] w fun e w' => e = .returned (.bool r) ∧ Below w.heap.size w w' := by
 have HR0 := Aside0.mk hr0; have HC0 := Aside0.mk hc0; clear hr0 hc0; have HB := Aside0.mk (Below.refl w.heap.size w); have H : ((impl_LevelWays.f l0 a1).bind fun t441 => (if t441 = true then ((impl_meets.f k l0 a1).bind fun t442 => (if t442 = true then (some true) else ((impl_meets.f k l0 (wrap64 (a1 + 1))).bind fun t443 => (some t443)))) else (some false))) = some r := h; clear h; replace H := Option.bind_eq_some_iff.mp H; obtain ⟨t441, A30, H⟩ := H; have A3 := Aside0.mk A30; clear A30; by_cases c4 : t441 = true
 ·subst c4; rw [if_pos rfl] at H; replace H := Option.bind_eq_some_iff.mp H; obtain ⟨t442, A50, H⟩ := H; have A5 := Aside0.mk A50; clear A50; by_cases c6 : t442 = true
  ·subst c6; rw [if_pos rfl] at H; obtain rfl := Option.some.inj H; go_enter Try.func9, Try.ntmps9; go_wp2_with (first | ((with_reducible refine gate_callee (f := 10) rfl ?_); refine gL_ (some 7) Try.func10 #[.slice A0 l0.length c0, .int .i64 a1] ?_; (with_reducible refine (impl_LevelWays.calls _ _ l0 a1 true _ ?side1 ?side2 A3.out).mono ?_); (case side1 => exact uC HR0.out); (case side2 => exact HC0.out); rintro e w7 ⟨rfl, hb⟩; refine ⟨_, rfl, ?_⟩; replace HB := Aside0.mk (below_step (uB HB.out) hb); (try clear hb)) | (go_at_call 35; (with_reducible refine (impl_meets.calls k _ _ l0 a1 true _ ?side1 ?side2 A5.out).mono ?_); (case side1 => repeat (first | exact (Kd.C_below HR0.out HB.out) | (with_reducible refine Kd.C_alloc ?_ _) | (with_reducible refine Kd.C_drewN ?_ _) | (with_reducible refine Kd.C_drew ?_))); (case side2 => exact HC0.out); rintro e w' ⟨rfl, ⟨nd, rfl⟩⟩))
   go_ret; exact ⟨by first | rfl | (simp [errW_none, errW_some] <;> rfl) | (simp [*, errW_none, errW_some] <;> rfl), uB HB.out⟩
  ·replace c6 := Bool.eq_false_iff.mpr c6; subst c6; rw [if_neg (show ¬ (false = true) by decide)] at H; replace H := Option.bind_eq_some_iff.mp H; obtain ⟨t443, A80, H⟩ := H; have A8 := Aside0.mk A80; clear A80; obtain rfl := Option.some.inj H; go_enter Try.func9, Try.ntmps9; go_wp2_with (first | ((with_reducible refine gate_callee (f := 10) rfl ?_); refine gL_ (some 7) Try.func10 #[.slice A0 l0.length c0, .int .i64 a1] ?_; (with_reducible refine (impl_LevelWays.calls _ _ l0 a1 true _ ?side1 ?side2 A3.out).mono ?_); (case side1 => exact uC HR0.out); (case side2 => exact HC0.out); rintro e w9 ⟨rfl, hb⟩; refine ⟨_, rfl, ?_⟩; replace HB := Aside0.mk (below_step (uB HB.out) hb); (try clear hb)) | (go_at_call 35; (with_reducible refine (impl_meets.calls k _ _ l0 a1 false _ ?side1 ?side2 A5.out).mono ?_); (case side1 => repeat (first | exact (Kd.C_below HR0.out HB.out) | (with_reducible refine Kd.C_alloc ?_ _) | (with_reducible refine Kd.C_drewN ?_ _) | (with_reducible refine Kd.C_drew ?_))); (case side2 => exact HC0.out); rintro e w' ⟨rfl, ⟨nd, rfl⟩⟩) | (go_at_call 35; (with_reducible refine (impl_meets.calls k _ _ l0 (wrap64 (a1 + 1)) t443 _ ?side1 ?side2 A8.out).mono ?_); (case side1 => repeat (first | exact (Kd.C_below HR0.out (uB HB.out)) | (with_reducible refine Kd.C_alloc ?_ _) | (with_reducible refine Kd.C_drewN ?_ _) | (with_reducible refine Kd.C_drew ?_))); (case side2 => exact HC0.out); rintro e w' ⟨rfl, ⟨nd, rfl⟩⟩))
   go_ret; exact ⟨by first | rfl | (simp [errW_none, errW_some] <;> rfl) | (simp [*, errW_none, errW_some] <;> rfl), uB HB.out⟩
 ·replace c4 := Bool.eq_false_iff.mpr c4; subst c4; rw [if_neg (show ¬ (false = true) by decide)] at H; obtain rfl := Option.some.inj H; go_enter Try.func9, Try.ntmps9; go_wp2_with (first | ((with_reducible refine gate_callee (f := 10) rfl ?_); refine gL_ (some 7) Try.func10 #[.slice A0 l0.length c0, .int .i64 a1] ?_; (with_reducible refine (impl_LevelWays.calls _ _ l0 a1 false _ ?side1 ?side2 A3.out).mono ?_); (case side1 => exact uC HR0.out); (case side2 => exact HC0.out); rintro e w10 ⟨rfl, hb⟩; refine ⟨_, rfl, ?_⟩; replace HB := Aside0.mk (below_step (uB HB.out) hb); (try clear hb)))
  go_ret; exact ⟨by first | rfl | (simp [errW_none, errW_some] <;> rfl) | (simp [*, errW_none, errW_some] <;> rfl), uB HB.out⟩

/-! ### slices.IndexFunc with nextOf's literal -/
def hof_nextOf.p (t : Int) (l2 : List Int) (x : S52) : Bool := decide (rd x.f0 t = rd l2 (wrap64 (t + 1)))
def hof_nextOf.f (l0 : List S52) (t : Int) (l2 : List Int) : Option Int := if 0 ≤ t ∧ t < 9223372036854775807 ∧ t + 1 < (l2.length : Int) ∧ (∀ x ∈ l0, t < (x.f0.length : Int)) then some (findI (hof_nextOf.p t l2) l0) else none
theorem hof_nextOf.tells (t : Int) (l2 : List Int) (A2 : Option Addr) (c2 : Nat) (B1 B2 : Nat) (l : List S52) (w : World) (h0 : 0 ≤ t) (h1 : t < 9223372036854775807) (h2 : t + 1 < (l2.length : Int)) (h3 : ∀ x ∈ l, t < (x.f0.length : Int)) (hr2 : (Kd.int .i64).C w A2 l2.length l2)
  (hB1 : w.heap[B1]? = some (.cells #[.int .i64 t] 3 (0, 0))) (hB2 : w.heap[B2]? = some (.cells #[.slice A2 l2.length c2] 52 (0, 0))) :
  TellsWay 67 #[.pointer (some ⟨B1, 0, none⟩), .pointer (some ⟨B2, 0, none⟩)] (hof_nextOf.p t l2) l w := by
 intro W x Ax cx hx hb hl hi
 have hB1W : W.heap[B1]? = some (.cells #[.int .i64 t] 3 (0, 0)) := (hb.block B1 (blk_lt hB1)).trans hB1
 have hB2W : W.heap[B2]? = some (.cells #[.slice A2 l2.length c2] 52 (0, 0)) := (hb.block B2 (blk_lt hB2)).trans hB2
 have hc1 : W.cell? ⟨B1, 0, none⟩ = some (.int .i64 t) := blk_cell hB1W 0
 have hc2 : W.cell? ⟨B2, 0, none⟩ = some (.slice A2 l2.length c2) := blk_cell hB2W 0
 have hrW := Kd.C_below hr2 hb
 have hw1 : wrap64 (t + 1) = t + 1 := by unfold wrap64; omega
 have hxl := h3 x hx
 obtain ⟨ad, ead, hx0⟩ := Kd.at_int hi t h0 hxl
 obtain ⟨ae, eae, hy0⟩ := Kd.at_int hrW (wrap64 (t + 1)) (by omega) (by omega)
 cases ead
 cases eae
 have hs1 : ∀ o : Obj, (W.alloc o).cell? ⟨B1, 0, none⟩ = some (.int .i64 t) := fun o => (World.cell?_alloc_lt W o ⟨B1, 0, none⟩ (blk_lt hB1W)).trans hc1
 have hs2 : ∀ o : Obj, (W.alloc o).cell? ⟨B2, 0, none⟩ = some (.slice (some ae) l2.length c2) := fun o => (World.cell?_alloc_lt W o ⟨B2, 0, none⟩ (blk_lt hB2W)).trans hc2
 have hs3 : ∀ o : Obj, (W.alloc o).cell? (ad.add t.toNat) = some (.int .i64 (rd x.f0 t)) := fun o => (World.cell?_alloc_lt W o _ (World.block_lt_of_cell? W _ hx0)).trans hx0
 have hs4 : ∀ o : Obj, (W.alloc o).cell? (ae.add (wrap64 (t + 1)).toNat) = some (.int .i64 (rd l2 (wrap64 (t + 1)))) := fun o => (World.cell?_alloc_lt W o _ (World.block_lt_of_cell? W _ hy0)).trans hy0
 have hq1 : (0 ≤ t) = True := eq_true h0
 have hq2 : (t < (x.f0.length : Int)) = True := eq_true hxl
 have hq3 : (0 ≤ wrap64 (t + 1)) = True := eq_true (by omega)
 have hq4 : (wrap64 (t + 1) < (l2.length : Int)) = True := eq_true (by omega)
 have hg1 : decide (0 ≤ t) = true := decide_eq_true h0
 have hg2 : decide (t < (x.f0.length : Int)) = true := decide_eq_true hxl
 have hg3 : decide (0 ≤ wrap64 (t + 1)) = true := decide_eq_true (by omega)
 have hg4 : decide (wrap64 (t + 1) < (l2.length : Int)) = true := decide_eq_true (by omega)
 have hu := Try.underlying52
 clear hi hrW hr2 hb hB1 hB2 hB1W hB2W h0 h1 h2 h3 hw1 hxl hx
 show Calls Try.prog 67 #[.agg #[.slice (some ad) x.f0.length cx], .pointer (some ⟨B1, 0, none⟩), .pointer (some ⟨B2, 0, none⟩)] W _
 unfold hof_nextOf.p
 go_enter Try.func67, Try.ntmps67
 go_wp2
 repeat (go_quiet (fail); try go_wp2)
 go_ret
 exact ⟨by first | rfl | simp [BEq.beq], by first | exact (Below.refl _ W).alloc (Nat.le_refl _) _ | exact pw_below_drewN ((Below.refl _ W).alloc (Nat.le_refl _) _) _⟩
theorem hof_nextOf.calls (A0 : Option Addr) (c0 : Nat) (l0 : List S52) (t : Int) (A2 : Option Addr) (c2 : Nat) (l2 : List Int) (B1 B2 : Nat) (r : Int) (w : World) (hr0 : Kd.C k52 w A0 l0.length l0) (hc0 : l0.length ≤ c0) (hr2 : (Kd.int .i64).C w A2 l2.length l2) (hc2 : l2.length ≤ c2)
  (hb1 : w.heap[B1]? = some (.cells #[.int .i64 t] 3 (0, 0))) (hb2 : w.heap[B2]? = some (.cells #[.slice A2 l2.length c2] 52 (0, 0))) (h : hof_nextOf.f l0 t l2 = some r) :
  Calls Try.prog 66 #[.slice A0 l0.length c0, .func (.func 67) #[] #[.pointer (some ⟨B1, 0, none⟩), .pointer (some ⟨B2, 0, none⟩)]] w fun e w' => e = .returned (.int .i64 r) ∧ Below w.heap.size w w' := by
 unfold hof_nextOf.f at h
 by_cases h0 : 0 ≤ t ∧ t < 9223372036854775807 ∧ t + 1 < (l2.length : Int) ∧ (∀ x ∈ l0, t < (x.f0.length : Int))
 ·rw [if_pos h0] at h; obtain rfl := Option.some.inj h; have eg : ∀ args w, (callFunc 67 args).run Try.prog w = .ok (.enter 67 args) w := entersOf Try.func67 (by kernel_rfl) rfl; exact indexFunc_Way (hof_nextOf.p t l2) _ _ eg A0 c0 l0 w hr0 hc0 (hof_nextOf.tells t l2 A2 c2 B1 B2 l0 w h0.1 h0.2.1 h0.2.2.1 h0.2.2.2 hr2 hb1 hb2)
 ·rw [if_neg h0] at h; exact absurd h (by simp)

/-! ### impl_nextOf: function 37 -/
mutual
def impl_nextOf.j0 : Nat → List (S52) → Bool → Int → Option (List Int)
 | 0, _, _, _ => none
 | k + 1, x0, x16, x445000 => if x16 = true then (some ([] : List Int)) else (impl_nextOf.l0 k x0 ([] : List Int) x0 (x0.length : Int) 0 x445000)
def impl_nextOf.l0 : Nat → List (S52) → List Int → List (S52) → Int → Int → Int → Option (List Int)
 | 0, _, _, _, _, _, _ => none
 | k + 1, x0, x5, x17, x18, x19, x445000 => if x19 < x18 then (if 0 ≤ x19 then (if x19 < (x17.length : Int) then ((hof_nextOf.f x0 x445000 ((rd_T52 x17 x19).f0)).bind fun t449 => (if x5.length < 17592186044416 then (impl_nextOf.l0 k x0 (x5 ++ [t449]) x17 x18 (wrap64 (x19 + 1)) x445000) else (none))) else (none)) else (none)) else (some x5)
end
def impl_nextOf.f (k : Nat) (l0 : List (S52)) (a1 : Int) : Option (List Int) := (impl_LevelWays.f l0 a1).bind fun t445 => (if t445 = true then ((impl_MeetAt.f k l0 a1).bind fun t446 => (impl_nextOf.j0 k l0 t446 a1)) else (impl_nextOf.j0 k l0 true a1))
set_option maxHeartbeats 8000000 in
set_option maxRecDepth 100000 in
theorem impl_nextOf.calls (k : Nat) (A0 : Option Addr) (c0 : Nat) (l0 : List (S52)) (a1 : Int) (r : List Int) (w : World) (hr0 : Kd.C k52 w A0 l0.length l0) (hc0 : l0.length ≤ c0) (h : impl_nextOf.f k l0 a1 = some r) :
  Calls Try.prog 37 #[.slice A0 l0.length c0, .int .i64 a1] w fun e w' => ∃ v0_ : Value, e = .returned (v0_) ∧ Kd.R (Kd.int .i64) 3 w' w.heap.size (fun _ => True) v0_ r ∧ Below w.heap.size w w' := by
 have hu52 := Try.underlying52; have HR0 := Aside0.mk hr0; have HC0 := Aside0.mk hc0; clear hr0 hc0; have HB := Aside0.mk (Below.refl w.heap.size w); have H : ((impl_LevelWays.f l0 a1).bind fun t445 => (if t445 = true then ((impl_MeetAt.f k l0 a1).bind fun t446 => (impl_nextOf.j0 k l0 t446 a1)) else (impl_nextOf.j0 k l0 true a1))) = some r := h; clear h; have HC3 := Aside0.mk H; clear H; go_enter Try.func37, Try.ntmps37; go_upto_region 1 with (first | ((with_reducible refine gate_dst (N := 3) rfl ?_); refine box_event ?hg (N := 3) ?hd (cs := #[.int .i64 a1]) (t := 3) ?hr ?_; (case hd => rfl); (case hg => rfl); (case hr => first | (go_simp; done) | (go_simp; rfl)); intro gb444 hg w4 hbox hb; have BK444 := Aside0.mk (hbox); have GW444 := Aside0.mk ((by rw [hg]; exact (below_size (uB HB.out)) : w.heap.size ≤ gb444)); have GE444 := Aside0.mk ((by rw [hg]; exact (below_size (uB HB.out)) : w.heap.size ≤ gb444)); replace HB := Aside0.mk (below_step (uB HB.out) hb); clear hb hbox hg))
 (try simp only [Act.put, List.setIfInBounds_toArray, List.set_cons_zero, List.set_cons_succ]); go_cut [16] (fun v16 wc => ∃ (kq : Nat) (x16_2 : Bool), v16 = .bool x16_2 ∧ Aside0 (impl_nextOf.j0 kq l0 x16_2 a1 = some r) ∧ Aside0 (kq ≤ k) ∧ Aside0 (wc.heap[gb444]? = some (.cells #[.int .i64 a1] 3 (0, 0))) ∧ Aside0 (Below w.heap.size w wc))
 case first =>
  have H := HC3.out; clear HC3; replace H := Option.bind_eq_some_iff.mp H; obtain ⟨t445, A50, H⟩ := H; have A5 := Aside0.mk A50; clear A50; by_cases c6 : t445 = true
  ·subst c6; rw [if_pos rfl] at H; replace H := Option.bind_eq_some_iff.mp H; obtain ⟨t446, A70, H⟩ := H; have A7 := Aside0.mk A70; clear A70; have H' := Aside0.mk H; clear H; obtain ⟨hcz8_0, hfz8_0⟩ := bx1 BK444.out; go_wp2_with (first | ((with_reducible refine gate_callee (f := 10) rfl ?_); refine gL_ (some 10) Try.func10 #[.slice A0 l0.length c0, .int .i64 a1] ?_; (with_reducible refine (impl_LevelWays.calls _ _ l0 a1 true _ ?side1 ?side2 A5.out).mono ?_); (case side1 => repeat (first | exact (Kd.C_below HR0.out HB.out) | (with_reducible refine Kd.C_alloc ?_ _) | (with_reducible refine Kd.C_drewN ?_ _) | (with_reducible refine Kd.C_drew ?_))); (case side2 => exact HC0.out); rintro e w9 ⟨rfl, hb⟩; refine ⟨_, rfl, ?_⟩; replace BK444 := Aside0.mk (blk_below (uK BK444.out) hb); replace HB := Aside0.mk (below_step bw_ hb); (try clear hb); obtain ⟨hcz10_0, hfz10_0⟩ := bx1 BK444.out) | (go_at_call 9; (with_reducible refine (impl_MeetAt.calls k _ _ l0 a1 t446 _ ?side1 ?side2 A7.out).mono ?_); (case side1 => repeat (first | exact (Kd.C_below HR0.out HB.out) | (with_reducible refine Kd.C_alloc ?_ _) | (with_reducible refine Kd.C_drewN ?_ _) | (with_reducible refine Kd.C_drew ?_))); (case side2 => exact HC0.out); rintro e w11 ⟨rfl, hb⟩; replace BK444 := Aside0.mk (blk_below (uK BK444.out) hb); replace HB := Aside0.mk (below_step bw_ hb); (try clear hb)))
   go_meet
   case rel => exact ⟨_, (t446), ev_, H', ⟨by first | omega | exact Nat.le_refl _⟩, ⟨uK BK444.out⟩, ⟨bw_⟩⟩
  ·replace c6 := Bool.eq_false_iff.mpr c6; subst c6; rw [if_neg (show ¬ (false = true) by decide)] at H; have H' := Aside0.mk H; clear H; obtain ⟨hcz12_0, hfz12_0⟩ := bx1 BK444.out; go_wp2_with (first | ((with_reducible refine gate_callee (f := 10) rfl ?_); refine gL_ (some 10) Try.func10 #[.slice A0 l0.length c0, .int .i64 a1] ?_; (with_reducible refine (impl_LevelWays.calls _ _ l0 a1 false _ ?side1 ?side2 A5.out).mono ?_); (case side1 => repeat (first | exact (Kd.C_below HR0.out HB.out) | (with_reducible refine Kd.C_alloc ?_ _) | (with_reducible refine Kd.C_drewN ?_ _) | (with_reducible refine Kd.C_drew ?_))); (case side2 => exact HC0.out); rintro e w13 ⟨rfl, hb⟩; refine ⟨_, rfl, ?_⟩; replace BK444 := Aside0.mk (blk_below (uK BK444.out) hb); replace HB := Aside0.mk (below_step bw_ hb); (try clear hb)))
   go_meet
   case rel => exact ⟨_, (true), ev_, H', ⟨by first | omega | exact Nat.le_refl _⟩, ⟨uK BK444.out⟩, ⟨bw_⟩⟩
 case rest =>
  clear HC3; (try clear c1); (try clear p2); (try clear c3); (try clear c6); (try clear c10); (try clear hcz10_0); (try clear hcz12_0); (try clear hcz8_0); (try clear hfz10_0); (try clear hfz12_0); (try clear hfz8_0); obtain ⟨kq, x16_2, rfl, HA, HJ2, BK444, HB⟩ := hcut
  cases kq with
  | zero => exact absurd HA.out (by simp [impl_nextOf.j0])
  | succ kj2 =>
   have H := HA.out; clear HA; simp only [impl_nextOf.j0] at H; by_cases c14 : x16_2 = true
   ·subst c14; rw [if_pos rfl] at H; obtain rfl := Option.some.inj H; go_wp2; go_ret; exact ⟨_, by first | rfl | (simp [errW_none, errW_some] <;> rfl) | (simp [*, errW_none, errW_some] <;> rfl), by first | exact Kd.R_nil _ _ _ _ _ | exact Kd.N_nil _ _ _ _ _ | exact Kd.V_nil _ _ _ _ _ | exact Kd.Q_nil _ _ _ _ _ | exact Kd.S_nil _ _ _ _ _, bw_⟩
   ·replace c14 := Bool.eq_false_iff.mpr c14; subst c14; rw [if_neg (show ¬ (false = true) by decide)] at H; have H' := Aside0.mk H; clear H; go_wp2; go_loopg [5, 19] kj2 (fun kq v5 v19 w' => ∃ (x5_2 : List Int) (x19_2 : Int), v19 = .int .i64 x19_2 ∧ Aside0 (impl_nextOf.l0 kq l0 x5_2 l0 (l0.length : Int) x19_2 a1 = some r) ∧ Aside0 (kq ≤ kj2) ∧ Aside0 (Kd.R (Kd.int .i64) 3 w' w.heap.size (fun k_ => k_ ≠ gb444) v5 x5_2) ∧ Aside0 (w'.heap[gb444]? = some (.cells #[.int .i64 a1] 3 (0, 0))) ∧ Aside0 (Below w.heap.size w w'))
    case atStart => exact ⟨(([] : List Int)), (0), ev_, H', ⟨Nat.le_refl _⟩, ⟨by first | exact Kd.R_nil _ _ _ _ _ | exact Kd.N_nil _ _ _ _ _ | exact Kd.V_nil _ _ _ _ _ | exact Kd.Q_nil _ _ _ _ _ | exact Kd.S_nil _ _ _ _ _⟩, ⟨uK BK444.out⟩, ⟨bw_⟩⟩
    case round =>
     clear H'; (try clear c1); (try clear p2); (try clear c3); (try clear c6); (try clear c10); (try clear c14); (try clear hcz10_0); (try clear hcz12_0); (try clear hcz8_0); (try clear hfz10_0); (try clear hfz12_0); (try clear hfz8_0); (try clear p2); obtain ⟨x5_2, x19_2, rfl, HA, HK2, HO_5, BK444, HB⟩ := hrel
     cases gk with
     | zero => exact absurd HA.out (by simp [impl_nextOf.l0])
     | succ k2 =>
      have H := HA.out; clear HA; simp only [impl_nextOf.l0] at H; by_cases c15 : x19_2 < (l0.length : Int)
      ·rw [if_pos c15] at H; have c15b0 : decide (x19_2 < (l0.length : Int)) = true := decide_eq_true c15; clear c15; by_cases c16 : 0 ≤ x19_2
       ·rw [if_pos c16] at H; have c16b0 : decide (0 ≤ x19_2) = true := decide_eq_true c16; clear c16; by_cases c17 : x19_2 < (l0.length : Int)
        ·rw [if_pos c17] at H; have c17b0 : decide (x19_2 < (l0.length : Int)) = true := decide_eq_true c17; clear c17; replace H := Option.bind_eq_some_iff.mp H; obtain ⟨t449, A180, H⟩ := H; have A18 := Aside0.mk A180; clear A180; by_cases c19 : x5_2.length < 17592186044416
         ·rw [if_pos c19] at H; have LMc19 := Aside0.mk c19; clear c19; obtain ⟨y450, hy450⟩ : ∃ y_ : List Int, y_ = (x5_2 ++ [t449]) := ⟨_, rfl⟩; replace H : (impl_nextOf.l0 k2 l0 y450 l0 (l0.length : Int) (wrap64 (x19_2 + 1)) a1) = some r := by first | (rw [hy450]; with_reducible exact H) | (have H2_ := (Option.bind_some _ _).symm.trans H; rw [hy450]; with_reducible exact H2_) | (have H2_ := (Option.bind_some _ _).symm.trans H; with_reducible exact H2_) | with_reducible exact H | (rw [hy450]; exact H) | exact H
          have Ny450 := Aside0.mk hy450; clear hy450; have H' := Aside0.mk H; clear H; have p447 : 0 ≤ (x19_2 : Int) := od_; have q447 : x19_2 < (l0.length : Int) := od_; obtain ⟨ad447, A447_0, c447_0, e447, hx447_0, hl447_0, hi447_0⟩ := at_T52 HR0.out x19_2 p447 q447
          cases e447; replace hx447_0 := (HB.out.cell (World.block_lt_of_cell? w _ hx447_0)).trans hx447_0; have HR447_0 := Aside0.mk hi447_0; have HC447_0 := Aside0.mk hl447_0; clear hi447_0 hl447_0; replace p447 := eq_true p447; replace q447 := eq_true q447; go_wp2_with (first | ((with_reducible refine gate_dst (N := 7) rfl ?_); refine box_event ?hg (N := 7) ?hd (cs := #[.slice none 0 0]) (t := 52) ?hr ?_; (case hd => rfl); (case hg => rfl); (case hr => first | (go_simp; done) | (go_simp; rfl)); intro gb448 hg w20 hbox hb; replace HO_5 := Aside0.mk (Kd.R_below (uR HO_5.out) hb); have BK448 := Aside0.mk (hbox); have GW448 := Aside0.mk ((by rw [hg]; exact (below_size bw_) : w.heap.size ≤ gb448)); have GE448 := Aside0.mk ((by rw [hg]; exact (below_size bw_) : w.heap.size ≤ gb448)); replace HB := Aside0.mk (below_step bw_ hb); have NB444_448 := Aside0.mk ((by rw [hg]; exact Nat.ne_of_lt (blk_lt (uK BK444.out)) : gb444 ≠ gb448)); have NB448_444 := Aside0.mk ((by rw [hg]; exact Nat.ne_of_gt (blk_lt (uK BK444.out)) : gb448 ≠ gb444)); replace BK444 := Aside0.mk (blk_below (uK BK444.out) hb); clear hb hbox hg; have hnb21 := NB448_444.out; have hnc21 := NB444_448.out; obtain ⟨hcz22_0, hfz22_0⟩ := bx1 BK448.out) | ((with_reducible refine gate_callee (f := 66) rfl ?_); refine gL_ (some 26) Try.func66 #[.slice (some ad447) l0.length c0, .func (.func 67) #[] #[.pointer (some ⟨gb444, 0, none⟩), .pointer (some ⟨gb448, 0, none⟩)]] ?_; (with_reducible refine (hof_nextOf.calls _ _ l0 a1 _ _ ((rd_T52 l0 x19_2).f0) _ _ t449 _ ?side1 ?side2 ?side3 ?side4 (by exact (by (with_reducible repeat (first | refine blk_drewN ?_ _ | refine blk_drew ?_ | refine blk_alloc ?_ _)); refine blk_far ?_ NB444_448.out _; (with_reducible repeat (first | refine blk_drewN ?_ _ | refine blk_drew ?_ | refine blk_alloc ?_ _)); exact BK444.out)) (by exact (by (with_reducible repeat (first | refine blk_drewN ?_ _ | refine blk_drew ?_ | refine blk_alloc ?_ _)); refine blk_put (cs := #[.slice none 0 0]) ?_ 0 _ rfl; (with_reducible repeat (first | refine blk_drewN ?_ _ | refine blk_drew ?_ | refine blk_alloc ?_ _)); exact BK448.out)) A18.out).mono ?_); (case side1 => exact Kd.C_below HR0.out bw_); (case side2 => exact HC0.out); (case side3 => exact Kd.C_below HR447_0.out bw_); (case side4 => exact HC447_0.out); rintro e w23 ⟨rfl, hb⟩; refine ⟨_, rfl, ?_⟩; replace HO_5 := Aside0.mk (Kd.R_below (uR ((Kd.R_mono (Kd.R_far (p := ⟨gb448, 0, none⟩) (Kd.R_types HO_5.out BK448.out (by decide)) (fun _ hk => hk.2) (.slice A447_0 ((rd_T52 l0 x19_2).f0).length c447_0)) (fun _ h_ => h_.1)))) hb); replace BK444 := Aside0.mk (blk_below (g := gb444) (o := .cells #[.int .i64 a1] 3 (0, 0)) (by (with_reducible repeat (first | refine blk_drewN ?_ _ | refine blk_drew ?_ | refine blk_alloc ?_ _)); refine blk_far ?_ NB444_448.out _; (with_reducible repeat (first | refine blk_drewN ?_ _ | refine blk_drew ?_ | refine blk_alloc ?_ _)); exact BK444.out) hb); replace BK448 := Aside0.mk (blk_below (g := gb448) (o := .cells #[.slice A447_0 ((rd_T52 l0 x19_2).f0).length c447_0] 52 (0, 0)) (by (with_reducible repeat (first | refine blk_drewN ?_ _ | refine blk_drew ?_ | refine blk_alloc ?_ _)); refine blk_put (cs := #[.slice none 0 0]) ?_ 0 _ rfl; (with_reducible repeat (first | refine blk_drewN ?_ _ | refine blk_drew ?_ | refine blk_alloc ?_ _)); exact BK448.out) hb); replace HB := Aside0.mk (below_step bw_ hb); (try clear hb)) | ((with_reducible refine gate_builtin (b := .append) (xs := #[.tmp 23, .tmp 27]) rfl ?_); at_builtin; refine Kd.R_append (Kd.int .i64) (w0 := w) w.heap.size rfl (.tmp 23) (.tmp 27) 26 3 (.int .i64 0) 8 rfl Try.underlying26 info3 rfl (by decide) (by omega) u5 x5_2 t449 [.int .i64 t449] (fun k_ => k_ ≠ gb444) (fun _ => False) rfl rfl ?aP (fun _ hk => hk.elim) ?aF ?aO ?aB ?aS ?aL ?_; (case aP => exact rfl); (case aB => exact bw_); (case aF => exact (fun k_ hk => Kd.freshB (uK BK444.out) k_ hk)); (case aO => exact (uR HO_5.out)); (case aS => exact (below_size bw_)); (case aL => have := LMc19.out; omega); intro v451 w24 ho hb hg hat; rw [← Ny450.out] at ho; replace BK444 := Aside0.mk (blk_grown (uK BK444.out) hg (Kd.R_away HO_5.out (fun _ hk => hk))); replace BK448 := Aside0.mk (blk_grown (uK BK448.out) hg (Kd.R_ne HO_5.out BK448.out (by decide))); replace HB := Aside0.mk (hb); have HO452 := Aside0.mk (ho); clear HO_5; clear ho hb hg hat))
          go_roundg k2
          case measure => have := HJ2.out; have := HK2.out; omega
          case rel => exact ⟨(y450), (wrap64 (x19_2 + 1)), ev_, H', ⟨by have := HJ2.out; have := HK2.out; omega⟩, ⟨uR HO452.out⟩, ⟨uK BK444.out⟩, ⟨bw_⟩⟩
         ·rw [if_neg c19] at H; exact absurd H (by simp)
        ·rw [if_neg c17] at H; exact absurd H (by simp)
       ·rw [if_neg c16] at H; exact absurd H (by simp)
      ·rw [if_neg c15] at H; have c15b0 : decide (x19_2 < (l0.length : Int)) = false := decide_eq_false c15; clear c15; obtain rfl := Option.some.inj H; go_wp2; go_ret; exact ⟨_, by first | rfl | (simp [errW_none, errW_some] <;> rfl) | (simp [*, errW_none, errW_some] <;> rfl), by (with_reducible repeat (first | apply Kd.R_alloc | apply Kd.R_drewN | apply Kd.R_drew)); exact Kd.R_mono HO_5.out (fun _ hk => trivial), bw_⟩

/-! ### impl_ringOf: function 38 -/
def impl_ringOf.l0 : Nat → List Int → Int → Int → Int → Option (Int)
 | 0, _, _, _, _ => none
 | k + 1, x0, x1, x5, x6 => if x6 = x1 then (some x5) else (if x6 < 0 then (some 0) else (if x5 > (x0.length : Int) then (some 0) else (if 0 ≤ x6 then (if x6 < (x0.length : Int) then (impl_ringOf.l0 k x0 x1 (wrap64 (x5 + 1)) (rd x0 x6)) else (none)) else (none))))
def impl_ringOf.f (k : Nat) (l0 : List Int) (a1 : Int) : Option (Int) := if 0 ≤ a1 then (if a1 < (l0.length : Int) then (impl_ringOf.l0 k l0 a1 1 (rd l0 a1)) else (none)) else (none)
set_option maxHeartbeats 8000000 in
set_option maxRecDepth 100000 in
theorem impl_ringOf.calls (k : Nat) (A0 : Option Addr) (c0 : Nat) (l0 : List Int) (a1 : Int) (r : Int) (w : World) (hr0 : Kd.C (Kd.int .i64) w A0 l0.length l0) (hc0 : l0.length ≤ c0) (h : impl_ringOf.f k l0 a1 = some r) :
  Calls Try.prog 38 #[.slice A0 l0.length c0, .int .i64 a1] w fun e w' => e = .returned (.int .i64 r) ∧ Drawn0 w w' := by
 have HR0 := Aside0.mk hr0; have HC0 := Aside0.mk hc0; clear hr0 hc0; have H : (if 0 ≤ a1 then (if a1 < (l0.length : Int) then (impl_ringOf.l0 k l0 a1 1 (rd l0 a1)) else (none)) else (none)) = some r := h; clear h; by_cases c3 : 0 ≤ a1
 ·rw [if_pos c3] at H; have c3b0 : decide (0 ≤ a1) = true := decide_eq_true c3; clear c3; by_cases c4 : a1 < (l0.length : Int)
  ·rw [if_pos c4] at H; have c4b0 : decide (a1 < (l0.length : Int)) = true := decide_eq_true c4; clear c4; have H' := Aside0.mk H; clear H; have p453 : 0 ≤ (a1 : Int) := od_; have q453 : a1 < (l0.length : Int) := od_; obtain ⟨ad453, e453, hx453_0⟩ := Kd.at_int HR0.out a1 p453 q453
   cases e453; replace p453 := eq_true p453; replace q453 := eq_true q453; go_enter Try.func38, Try.ntmps38; go_wp2; go_loopg [5, 6] k (fun kq v5 v6 w' => ∃ (x5_1 : Int) (x6_1 : Int), v5 = .int .i64 x5_1 ∧ v6 = .int .i64 x6_1 ∧ Aside0 (impl_ringOf.l0 kq l0 a1 x5_1 x6_1 = some r) ∧ Aside0 (kq ≤ k) ∧ Drawn0 w w')
   case atStart => exact ⟨(1), (rd l0 a1), ev_, ev_, H', ⟨Nat.le_refl _⟩, by repeat (first | exact Drawn0.refl _ | apply Drawn0.step)⟩
   case round =>
    clear H'; (try clear p2); (try clear c3); (try clear c3b0); (try clear c4); (try clear c4b0); (try clear p4); (try clear q4); (try clear hx4); (try clear hx453_0); (try clear p453); (try clear q453); obtain ⟨x5_1, x6_1, rfl, rfl, HA, HK1, ⟨m1, rfl⟩⟩ := hrel
    cases gk with
    | zero => exact absurd HA.out (by simp [impl_ringOf.l0])
    | succ k1 =>
     have H := HA.out; clear HA; simp only [impl_ringOf.l0] at H; by_cases c5 : x6_1 = a1
     ·rw [if_pos c5] at H; have c5b0 : (x6_1 == a1) = true := beq_iff_eq.mpr c5; have c5b1 : (x6_1 != a1) = false := bne_eq_false_iff_eq.mpr c5; clear c5; obtain rfl := Option.some.inj H; go_wp2; go_ret; exact ⟨by first | rfl | (simp; done) | (simp [*]; done), by repeat (first | exact Drawn0.refl _ | apply Drawn0.step)⟩
     ·rw [if_neg c5] at H; have c5b0 : (x6_1 == a1) = false := beq_eq_false_iff_ne.mpr c5; have c5b1 : (x6_1 != a1) = true := bne_iff_ne.mpr c5; by_cases c6 : x6_1 < 0
      ·rw [if_pos c6] at H; have c6b0 : decide (x6_1 < 0) = true := decide_eq_true c6; clear c6; obtain rfl := Option.some.inj H; go_wp2; go_ret; exact ⟨by first | rfl | (simp; done) | (simp [*]; done), by repeat (first | exact Drawn0.refl _ | apply Drawn0.step)⟩
      ·rw [if_neg c6] at H; have c6b0 : decide (x6_1 < 0) = false := decide_eq_false c6; clear c6; by_cases c7 : x5_1 > (l0.length : Int)
       ·rw [if_pos c7] at H; have c7b0 : decide ((l0.length : Int) < x5_1) = true := decide_eq_true c7; clear c7; obtain rfl := Option.some.inj H; go_wp2; go_ret; exact ⟨by first | rfl | (simp; done) | (simp [*]; done), by repeat (first | exact Drawn0.refl _ | apply Drawn0.step)⟩
       ·rw [if_neg c7] at H; have c7b0 : decide ((l0.length : Int) < x5_1) = false := decide_eq_false c7; clear c7; by_cases c8 : 0 ≤ x6_1
        ·rw [if_pos c8] at H; have c8b0 : decide (0 ≤ x6_1) = true := decide_eq_true c8; clear c8; by_cases c9 : x6_1 < (l0.length : Int)
         ·rw [if_pos c9] at H; have c9b0 : decide (x6_1 < (l0.length : Int)) = true := decide_eq_true c9; clear c9; have H' := Aside0.mk H; clear H; have p454 : 0 ≤ (x6_1 : Int) := od_; have q454 : x6_1 < (l0.length : Int) := od_; obtain ⟨ad454, e454, hx454_0⟩ := Kd.at_int HR0.out x6_1 p454 q454; obtain rfl : ad453 = ad454 := (by injection e454); replace p454 := eq_true p454; replace q454 := eq_true q454; go_wp2; go_roundg k1
          case measure => have := HK1.out; omega
          case rel => exact ⟨(wrap64 (x5_1 + 1)), (rd l0 x6_1), ev_, ev_, H', ⟨by have := HK1.out; omega⟩, by repeat (first | exact Drawn0.refl _ | apply Drawn0.step)⟩
         ·rw [if_neg c9] at H; exact absurd H (by simp)
        ·rw [if_neg c8] at H; exact absurd H (by simp)
  ·rw [if_neg c4] at H; exact absurd H (by simp)
 ·rw [if_neg c3] at H; exact absurd H (by simp)

/-! ### impl_RingsAt: function 11 -/
def impl_RingsAt.l0 : Nat → List Int → Int → Int → Int → Option (Int)
 | 0, _, _, _, _ => none
 | k + 1, x5, x6, x12, x13 => if x13 < x12 then ((impl_ringOf.f k x5 x13).bind fun t458 => (if t458 > 2 then (impl_RingsAt.l0 k x5 (wrap64 (x6 + 1)) x12 (wrap64 (x13 + 1))) else (impl_RingsAt.l0 k x5 x6 x12 (wrap64 (x13 + 1))))) else (some x6)
def impl_RingsAt.f (k : Nat) (l0 : List (S52)) (a1 : Int) : Option (Int) := (impl_nextOf.f k l0 a1).bind fun t455 => (impl_RingsAt.l0 k t455 0 (t455.length : Int) 0)
set_option maxHeartbeats 8000000 in
set_option maxRecDepth 100000 in
theorem impl_RingsAt.calls (k : Nat) (A0 : Option Addr) (c0 : Nat) (l0 : List (S52)) (a1 : Int) (r : Int) (w : World) (hr0 : Kd.C k52 w A0 l0.length l0) (hc0 : l0.length ≤ c0) (h : impl_RingsAt.f k l0 a1 = some r) :
  Calls Try.prog 11 #[.slice A0 l0.length c0, .int .i64 a1] w fun e w' => e = .returned (.int .i64 r) ∧ Below w.heap.size w w' := by
 have HR0 := Aside0.mk hr0; have HC0 := Aside0.mk hc0; clear hr0 hc0; have HB := Aside0.mk (Below.refl w.heap.size w); have H : ((impl_nextOf.f k l0 a1).bind fun t455 => (impl_RingsAt.l0 k t455 0 (t455.length : Int) 0)) = some r := h; clear h; replace H := Option.bind_eq_some_iff.mp H; obtain ⟨t455, A30, H⟩ := H; have A3 := Aside0.mk A30; clear A30; have H' := Aside0.mk H; clear H; go_enter Try.func11, Try.ntmps11; go_wp2_with (first | ((with_reducible refine gate_callee (f := 37) rfl ?_); refine gL_ (some 10) Try.func37 #[.slice A0 l0.length c0, .int .i64 a1] ?_; (with_reducible refine (impl_nextOf.calls k _ _ l0 a1 t455 _ ?side1 ?side2 A3.out).mono ?_); (case side1 => exact uC HR0.out); (case side2 => exact HC0.out); rintro e w4 ⟨v456, rfl, ho0, hb⟩; refine ⟨_, rfl, ?_⟩; have HO457 := Aside0.mk (Kd.R_lower ho0 (below_size (uB HB.out))); replace HB := Aside0.mk (below_step (uB HB.out) hb); (try clear hb ho0); obtain ⟨Ao5, co5, eo5⟩ := Kd.R_slice HO457.out; subst eo5))
 go_loopg [6, 13] k (fun kq v6 v13 w' => ∃ (x6_1 : Int) (x13_1 : Int), v6 = .int .i64 x6_1 ∧ v13 = .int .i64 x13_1 ∧ Aside0 (impl_RingsAt.l0 kq t455 x6_1 (t455.length : Int) x13_1 = some r) ∧ Aside0 (kq ≤ k) ∧ Aside0 (Kd.R (Kd.int .i64) 3 w' w.heap.size (fun _ => True) (.slice Ao5 t455.length co5) t455) ∧ Aside0 (Below w.heap.size w w'))
 case atStart => exact ⟨(0), (0), ev_, ev_, H', ⟨Nat.le_refl _⟩, ⟨uR HO457.out⟩, ⟨uB HB.out⟩⟩
 case round =>
  clear H'; (try clear c1); (try clear p2); (try clear c3); obtain ⟨x6_1, x13_1, rfl, rfl, HA, HK1, HO_5, HB⟩ := hrel
  cases gk with
  | zero => exact absurd HA.out (by simp [impl_RingsAt.l0])
  | succ k1 =>
   have H := HA.out; clear HA; simp only [impl_RingsAt.l0] at H; by_cases c6 : x13_1 < (t455.length : Int)
   ·rw [if_pos c6] at H; have c6b0 : decide (x13_1 < (t455.length : Int)) = true := decide_eq_true c6; clear c6; replace H := Option.bind_eq_some_iff.mp H; obtain ⟨t458, A70, H⟩ := H; have A7 := Aside0.mk A70; clear A70; by_cases c8 : t458 > 2
    ·rw [if_pos c8] at H; have c8b0 : decide (2 < t458) = true := decide_eq_true c8; clear c8; have H' := Aside0.mk H; clear H; go_wp2_with (first | ((with_reducible refine gate_callee (f := 38) rfl ?_); refine gL_ (some 18) Try.func38 #[.slice Ao5 t455.length co5, .int .i64 x13_1] ?_; (with_reducible refine (impl_ringOf.calls k1 _ _ t455 x13_1 t458 _ ?side1 ?side2 A7.out).mono ?_); (case side1 => exact uC (Kd.R_reads' HO_5.out).2.2); (case side2 => exact (Kd.R_reads' HO_5.out).2.1); rintro e w' ⟨rfl, ⟨nd, rfl⟩⟩; refine ⟨_, rfl, ?_⟩))
     go_roundg k1
     case measure => have := HK1.out; omega
     case rel => exact ⟨(wrap64 (x6_1 + 1)), (wrap64 (x13_1 + 1)), ev_, ev_, H', ⟨by have := HK1.out; omega⟩, ⟨uR HO_5.out⟩, ⟨uB HB.out⟩⟩
    ·rw [if_neg c8] at H; have c8b0 : decide (2 < t458) = false := decide_eq_false c8; clear c8; have H' := Aside0.mk H; clear H; go_wp2_with (first | ((with_reducible refine gate_callee (f := 38) rfl ?_); refine gL_ (some 18) Try.func38 #[.slice Ao5 t455.length co5, .int .i64 x13_1] ?_; (with_reducible refine (impl_ringOf.calls k1 _ _ t455 x13_1 t458 _ ?side1 ?side2 A7.out).mono ?_); (case side1 => exact uC (Kd.R_reads' HO_5.out).2.2); (case side2 => exact (Kd.R_reads' HO_5.out).2.1); rintro e w' ⟨rfl, ⟨nd, rfl⟩⟩; refine ⟨_, rfl, ?_⟩))
     go_roundg k1
     case measure => have := HK1.out; omega
     case rel => exact ⟨(x6_1), (wrap64 (x13_1 + 1)), ev_, ev_, H', ⟨by have := HK1.out; omega⟩, ⟨uR HO_5.out⟩, ⟨uB HB.out⟩⟩
   ·rw [if_neg c6] at H; have c6b0 : decide (x13_1 < (t455.length : Int)) = false := decide_eq_false c6; clear c6; obtain rfl := Option.some.inj H; go_wp2; go_ret; exact ⟨by first | rfl | (simp [errW_none, errW_some] <;> rfl) | (simp [*, errW_none, errW_some] <;> rfl), uB HB.out⟩

/-! ### impl_SwapsAt: function 12 -/
def impl_SwapsAt.l0 : Nat → List Int → Int → Int → Int → Option (Int)
 | 0, _, _, _, _ => none
 | k + 1, x5, x6, x12, x13 => if x13 < x12 then ((impl_ringOf.f k x5 x13).bind fun t462 => (if t462 = 2 then (impl_SwapsAt.l0 k x5 (wrap64 (x6 + 1)) x12 (wrap64 (x13 + 1))) else (impl_SwapsAt.l0 k x5 x6 x12 (wrap64 (x13 + 1))))) else (some (wrap64 (Int.tdiv x6 2)))
def impl_SwapsAt.f (k : Nat) (l0 : List (S52)) (a1 : Int) : Option (Int) := (impl_nextOf.f k l0 a1).bind fun t459 => (impl_SwapsAt.l0 k t459 0 (t459.length : Int) 0)
set_option maxHeartbeats 8000000 in
set_option maxRecDepth 100000 in
theorem impl_SwapsAt.calls (k : Nat) (A0 : Option Addr) (c0 : Nat) (l0 : List (S52)) (a1 : Int) (r : Int) (w : World) (hr0 : Kd.C k52 w A0 l0.length l0) (hc0 : l0.length ≤ c0) (h : impl_SwapsAt.f k l0 a1 = some r) :
  Calls Try.prog 12 #[.slice A0 l0.length c0, .int .i64 a1] w fun e w' => e = .returned (.int .i64 r) ∧ Below w.heap.size w w' := by
 have HR0 := Aside0.mk hr0; have HC0 := Aside0.mk hc0; clear hr0 hc0; have HB := Aside0.mk (Below.refl w.heap.size w); have H : ((impl_nextOf.f k l0 a1).bind fun t459 => (impl_SwapsAt.l0 k t459 0 (t459.length : Int) 0)) = some r := h; clear h; replace H := Option.bind_eq_some_iff.mp H; obtain ⟨t459, A30, H⟩ := H; have A3 := Aside0.mk A30; clear A30; have H' := Aside0.mk H; clear H; go_enter Try.func12, Try.ntmps12; go_wp2_with (first | ((with_reducible refine gate_callee (f := 37) rfl ?_); refine gL_ (some 10) Try.func37 #[.slice A0 l0.length c0, .int .i64 a1] ?_; (with_reducible refine (impl_nextOf.calls k _ _ l0 a1 t459 _ ?side1 ?side2 A3.out).mono ?_); (case side1 => exact uC HR0.out); (case side2 => exact HC0.out); rintro e w4 ⟨v460, rfl, ho0, hb⟩; refine ⟨_, rfl, ?_⟩; have HO461 := Aside0.mk (Kd.R_lower ho0 (below_size (uB HB.out))); replace HB := Aside0.mk (below_step (uB HB.out) hb); (try clear hb ho0); obtain ⟨Ao5, co5, eo5⟩ := Kd.R_slice HO461.out; subst eo5))
 go_loopg [6, 13] k (fun kq v6 v13 w' => ∃ (x6_1 : Int) (x13_1 : Int), v6 = .int .i64 x6_1 ∧ v13 = .int .i64 x13_1 ∧ Aside0 (impl_SwapsAt.l0 kq t459 x6_1 (t459.length : Int) x13_1 = some r) ∧ Aside0 (kq ≤ k) ∧ Aside0 (Kd.R (Kd.int .i64) 3 w' w.heap.size (fun _ => True) (.slice Ao5 t459.length co5) t459) ∧ Aside0 (Below w.heap.size w w'))
 case atStart => exact ⟨(0), (0), ev_, ev_, H', ⟨Nat.le_refl _⟩, ⟨uR HO461.out⟩, ⟨uB HB.out⟩⟩
 case round =>
  clear H'; (try clear c1); (try clear p2); (try clear c3); obtain ⟨x6_1, x13_1, rfl, rfl, HA, HK1, HO_5, HB⟩ := hrel
  cases gk with
  | zero => exact absurd HA.out (by simp [impl_SwapsAt.l0])
  | succ k1 =>
   have H := HA.out; clear HA; simp only [impl_SwapsAt.l0] at H; by_cases c6 : x13_1 < (t459.length : Int)
   ·rw [if_pos c6] at H; have c6b0 : decide (x13_1 < (t459.length : Int)) = true := decide_eq_true c6; clear c6; replace H := Option.bind_eq_some_iff.mp H; obtain ⟨t462, A70, H⟩ := H; have A7 := Aside0.mk A70; clear A70; by_cases c8 : t462 = 2
    ·rw [if_pos c8] at H; have c8b0 : (t462 == 2) = true := beq_iff_eq.mpr c8; have c8b1 : (t462 != 2) = false := bne_eq_false_iff_eq.mpr c8; clear c8; have H' := Aside0.mk H; clear H; go_wp2_with (first | ((with_reducible refine gate_callee (f := 38) rfl ?_); refine gL_ (some 18) Try.func38 #[.slice Ao5 t459.length co5, .int .i64 x13_1] ?_; (with_reducible refine (impl_ringOf.calls k1 _ _ t459 x13_1 t462 _ ?side1 ?side2 A7.out).mono ?_); (case side1 => exact uC (Kd.R_reads' HO_5.out).2.2); (case side2 => exact (Kd.R_reads' HO_5.out).2.1); rintro e w' ⟨rfl, ⟨nd, rfl⟩⟩; refine ⟨_, rfl, ?_⟩))
     go_roundg k1
     case measure => have := HK1.out; omega
     case rel => exact ⟨(wrap64 (x6_1 + 1)), (wrap64 (x13_1 + 1)), ev_, ev_, H', ⟨by have := HK1.out; omega⟩, ⟨uR HO_5.out⟩, ⟨uB HB.out⟩⟩
    ·rw [if_neg c8] at H; have c8b0 : (t462 == 2) = false := beq_eq_false_iff_ne.mpr c8; have c8b1 : (t462 != 2) = true := bne_iff_ne.mpr c8; have H' := Aside0.mk H; clear H; go_wp2_with (first | ((with_reducible refine gate_callee (f := 38) rfl ?_); refine gL_ (some 18) Try.func38 #[.slice Ao5 t459.length co5, .int .i64 x13_1] ?_; (with_reducible refine (impl_ringOf.calls k1 _ _ t459 x13_1 t462 _ ?side1 ?side2 A7.out).mono ?_); (case side1 => exact uC (Kd.R_reads' HO_5.out).2.2); (case side2 => exact (Kd.R_reads' HO_5.out).2.1); rintro e w' ⟨rfl, ⟨nd, rfl⟩⟩; refine ⟨_, rfl, ?_⟩))
     go_roundg k1
     case measure => have := HK1.out; omega
     case rel => exact ⟨(x6_1), (wrap64 (x13_1 + 1)), ev_, ev_, H', ⟨by have := HK1.out; omega⟩, ⟨uR HO_5.out⟩, ⟨uB HB.out⟩⟩
   ·rw [if_neg c6] at H; have c6b0 : decide (x13_1 < (t459.length : Int)) = false := decide_eq_false c6; clear c6; obtain rfl := Option.some.inj H; go_wp2; go_ret; exact ⟨by first | rfl | (simp [errW_none, errW_some] <;> rfl) | (simp [*, errW_none, errW_some] <;> rfl), uB HB.out⟩

end Go.Proofs.Ytdebpmdbeogglaa.Q
