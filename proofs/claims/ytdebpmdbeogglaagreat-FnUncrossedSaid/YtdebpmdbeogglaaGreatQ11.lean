-- Written by a session's own program (wip/tools/myprint.py) over the kit's printer, out of the translation. Not trusted: Lean checks it.
import Derived.Test.YtdebpmdbeogglaaGreatQ0
import Derived.Test.YtdebpmdbeogglaaGreatQ1
-- squeezed
-- renamed
-- squeezed4
namespace Go.Proofs.YtdebpmdbeogglaaGreat.Q
open Go.RowKit Go.Proofs.YtdebpmdbeogglaaGreatW.PrintWords Go.Proofs.YtdebpmdbeogglaaGreatW.PrintLast Go.Proofs.YtdebpmdbeogglaaGreatW.PrintMore
attribute [local go_sem] max2_int min2_int max_two min_two max_three min_three max_four min_four   -- for this text's walks alone
set_option linter.unusedVariables false
set_option linter.unusedSimpArgs false

/-! ### spec_LevelWays: function 73 -/
mutual
def spec_LevelWays.j0 : Nat → List (S43) → Bool → Option (Bool)
 | 0, _, _ => none
 | k + 1, x0, U0 => if U0 = true then (some false) else (spec_LevelWays.l0 k x0 0)
def spec_LevelWays.l0 : Nat → List (S43) → Int → Option (Bool)
 | 0, _, _ => none
 | k + 1, x0, x5 => if x5 < (x0.length : Int) then (if 0 ≤ x5 then (if 0 < (x0.length : Int) then (if (((rd_T43 x0 x5).f0).length : Int) = (((rd_T43 x0 0).f0).length : Int) then (spec_LevelWays.l0 k x0 (wrap64 (x5 + 1))) else (some false)) else (none)) else (none)) else (some true)
end
def spec_LevelWays.f (k : Nat) (l0 : List (S43)) (a1 : Int) : Option (Bool) := (spec_l01In.f (l0.length : Int) 1 10).bind fun s0 => (if s0 = true then (if a1 < 0 then (spec_LevelWays.j0 k l0 true) else (if 0 < (l0.length : Int) then (spec_LevelWays.j0 k l0 (decide (a1 ≥ (wrap64 ((((rd_T43 l0 0).f0).length : Int) - 1))))) else (none))) else (spec_LevelWays.j0 k l0 true))
set_option maxHeartbeats 8000000 in
set_option maxRecDepth 100000 in
theorem spec_LevelWays.calls (k : Nat) (A0 : Option Addr) (c0 : Nat) (l0 : List (S43)) (a1 : Int) (r : Bool) (w : World) (hr0 : Kd.C k43 w A0 l0.length l0) (hc0 : l0.length ≤ c0) (h : spec_LevelWays.f k l0 a1 = some r) :
  Calls Tryz.prog 73 #[.slice A0 l0.length c0, .int .i64 a1] w fun e w' => e = .returned (.bool r) ∧ Drawn0 w w' := by
 have r0 := B_ hr0; have HC0 := B_ hc0; clear hr0 hc0; have H : ((spec_l01In.f (l0.length : Int) 1 10).bind fun s0 => (if s0 = true then (if a1 < 0 then (spec_LevelWays.j0 k l0 true) else (if 0 < (l0.length : Int) then (spec_LevelWays.j0 k l0 (decide (a1 ≥ (wrap64 ((((rd_T43 l0 0).f0).length : Int) - 1))))) else (none))) else (spec_LevelWays.j0 k l0 true))) = some r := h; clear h; have HC3 := B_ H; clear H; go_enter Tryz.func73, Tryz.ntmps73; go_upto_region 1 with (fail)
 repeat (go_quiet (fail); go_upto_region 1 with (fail))
 go_cut [23] (fun v23 wc => ∃ (kq : Nat) (E0 : Bool), v23 = .bool E0 ∧ Aside0 (spec_LevelWays.j0 kq l0 E0 = some r) ∧ Aside0 (kq ≤ k) ∧ Drawn0 w wc)
 case first =>
  have H := HC3.out; clear HC3; obtain ⟨s0, A4, H⟩ := ob_ H; by_cases c5 : s0 = true
  ·subst c5; rw [G_ rfl] at H; by_cases c6 : a1 < 0
   ·rw [G_ c6] at H; have g0 := C_ c6; clear c6; (first | rw [g0] | (simp only [i64_w, i32_w]; rw [g0]) | skip); have H' := B_ H; clear H
    repeat ((fail_if_success (first | clear z_ | done)); go_wp2_with (first | (go_at_call 55; (with_reducible refine (spec_l01In.calls (l0.length : Int) 1 10 true _ A4.out).mono ?_); rintro e w' ⟨rfl, ⟨nd, rfl⟩⟩; (try first | exact ⟨rfl, _, F__ _ _ _⟩ | exact ⟨rfl, _, Eq.trans (F__ _ _ _) (congrArg (World.drewN _) (Nat.add_assoc _ _ _))⟩))); first | go_quiet (first | (go_at_call 55; (with_reducible refine (spec_l01In.calls (l0.length : Int) 1 10 true _ A4.out).mono ?_); rintro e w' ⟨rfl, ⟨nd, rfl⟩⟩; (try first | exact ⟨rfl, _, F__ _ _ _⟩ | exact ⟨rfl, _, Eq.trans (F__ _ _ _) (congrArg (World.drewN _) (Nat.add_assoc _ _ _))⟩))) | have z_ := True.intro | skip)
    (try clear z_); go_meet
    case rel => exact ⟨_, (true), ev_, H', ⟨by first | omega | exact N_ _⟩, by repeat (first | exact R_ _ | apply Q_)⟩
   ·rw [I_ c6] at H; have g0 := K_ c6; clear c6; (first | rw [g0] | (simp only [i64_w, i32_w]; rw [g0]) | skip); by_cases c7 : 0 < (l0.length : Int)
    ·rw [G_ c7] at H; have Q0 := C_ c7; have R0 : decide (0 < l0.length) = true := C_ (by omega); clear c7; have H' := B_ H; clear H
     repeat ((fail_if_success (first | clear z_ | done)); go_wp2_with (first | (go_at_call 55; (with_reducible refine (spec_l01In.calls (l0.length : Int) 1 10 true _ A4.out).mono ?_); rintro e w' ⟨rfl, ⟨nd, rfl⟩⟩; (try first | exact ⟨rfl, _, F__ _ _ _⟩ | exact ⟨rfl, _, Eq.trans (F__ _ _ _) (congrArg (World.drewN _) (Nat.add_assoc _ _ _))⟩); have d0 : 0 ≤ (0 : Int) := (by omega); have e0 : 0 < (l0.length : Int) := od_; obtain ⟨V0, X0, Y0, L0, m0, t0, u0⟩ := at_T43 r0.out 0 d0 e0; cases L0; have qi522 : (0 < l0.length) = True := E_ (by omega); (try rw [show ((0 : Int)).toNat = 0 from rfl] at m0); (try rw [Addr.add_zero'] at m0); have Z0 := B_ u0; have HC522_0 := B_ t0; clear u0 t0; replace d0 := E_ d0; replace e0 := E_ e0)); first | go_quiet (first | (go_at_call 55; (with_reducible refine (spec_l01In.calls (l0.length : Int) 1 10 true _ A4.out).mono ?_); rintro e w' ⟨rfl, ⟨nd, rfl⟩⟩; (try first | exact ⟨rfl, _, F__ _ _ _⟩ | exact ⟨rfl, _, Eq.trans (F__ _ _ _) (congrArg (World.drewN _) (Nat.add_assoc _ _ _))⟩); have d0 : 0 ≤ (0 : Int) := (by omega); have e0 : 0 < (l0.length : Int) := od_; obtain ⟨V0, X0, Y0, L0, m0, t0, u0⟩ := at_T43 r0.out 0 d0 e0; cases L0; have qi522 : (0 < l0.length) = True := E_ (by omega); (try rw [show ((0 : Int)).toNat = 0 from rfl] at m0); (try rw [Addr.add_zero'] at m0); have Z0 := B_ u0; have HC522_0 := B_ t0; clear u0 t0; replace d0 := E_ d0; replace e0 := E_ e0)) | have z_ := True.intro | skip)
     (try clear z_); go_meet
     case rel => exact ⟨_, (decide (a1 ≥ (wrap64 ((((rd_T43 l0 0).f0).length : Int) - 1)))), ev_, H', ⟨by first | omega | exact N_ _⟩, by repeat (first | exact R_ _ | apply Q_)⟩
    ·rw [I_ c7] at H; exact absurd H (by simp)
  ·replace c5 := L_ c5; subst c5; rw [I_ (show ¬ (false = true) by decide)] at H; have H' := B_ H; clear H
   repeat ((fail_if_success (first | clear z_ | done)); go_wp2_with (first | (go_at_call 55; (with_reducible refine (spec_l01In.calls (l0.length : Int) 1 10 false _ A4.out).mono ?_); rintro e w' ⟨rfl, ⟨nd, rfl⟩⟩; (try first | exact ⟨rfl, _, F__ _ _ _⟩ | exact ⟨rfl, _, Eq.trans (F__ _ _ _) (congrArg (World.drewN _) (Nat.add_assoc _ _ _))⟩))); first | go_quiet (first | (go_at_call 55; (with_reducible refine (spec_l01In.calls (l0.length : Int) 1 10 false _ A4.out).mono ?_); rintro e w' ⟨rfl, ⟨nd, rfl⟩⟩; (try first | exact ⟨rfl, _, F__ _ _ _⟩ | exact ⟨rfl, _, Eq.trans (F__ _ _ _) (congrArg (World.drewN _) (Nat.add_assoc _ _ _))⟩))) | have z_ := True.intro | skip)
   (try clear z_); go_meet
   case rel => exact ⟨_, (true), ev_, H', ⟨by first | omega | exact N_ _⟩, by repeat (first | exact R_ _ | apply Q_)⟩
 case rest =>
  clear HC3; (try clear p2); (try clear c5); (try clear p5); (try clear q5); (try clear hx5); (try clear qi5); (try clear c6); (try clear g0); (try clear p6); (try clear c7); (try clear Q0); (try clear R0); (try clear m0); (try clear d0); (try clear e0); obtain ⟨kq, E0, rfl, HA, HJ2, ⟨mc2, rfl⟩⟩ := hcut
  cases kq with
  | zero => exact absurd HA.out (by simp [spec_LevelWays.j0])
  | succ kj2 =>
   have H := HA.out; clear HA; simp only [spec_LevelWays.j0] at H; by_cases c8 : E0 = true
   ·subst c8; rw [G_ rfl] at H; obtain rfl := F_ H; go_wp2
    repeat (go_quiet (fail); try go_wp2)
    go_ret; exact ⟨by first | rfl | (simp; done) | (simp [*]; done), by repeat (first | exact R_ _ | apply Q_)⟩
   ·replace c8 := L_ c8; subst c8; rw [I_ (show ¬ (false = true) by decide)] at H; have H' := B_ H; clear H; go_wp2
    repeat (go_quiet (fail); try go_wp2)
    go_loopg [5] kj2 (fun kq v5 w' => ∃ (a0 : Int), v5 = .int .i64 a0 ∧ Aside0 (spec_LevelWays.l0 kq l0 a0 = some r) ∧ Aside0 (kq ≤ kj2) ∧ Drawn0 w w')
    case atStart => exact ⟨(0), ev_, H', ⟨N_ _⟩, by repeat (first | exact R_ _ | apply Q_)⟩
    case round =>
     clear H'; (try clear c2); (try clear p2); (try clear c5); (try clear p5); (try clear q5); (try clear hx5); (try clear qi5); (try clear c6); (try clear g0); (try clear p6); (try clear c7); (try clear Q0); (try clear R0); (try clear c8); (try clear m0); (try clear d0); (try clear e0); obtain ⟨a0, rfl, HA, HK2, ⟨m2, rfl⟩⟩ := hrel
     cases gk with
     | zero => exact absurd HA.out (by simp [spec_LevelWays.l0])
     | succ k2 =>
      have H := HA.out; clear HA; simp only [spec_LevelWays.l0] at H; by_cases c9 : a0 < (l0.length : Int)
      ·rw [G_ c9] at H; have b1 := C_ c9; clear c9; by_cases G0 : 0 ≤ a0
       ·rw [G_ G0] at H; have q1 := C_ G0; clear G0; by_cases J0 : 0 < (l0.length : Int)
        ·rw [G_ J0] at H; have r1 := C_ J0; have s1 : decide (0 < l0.length) = true := C_ (by omega); clear J0; by_cases b0 : (((rd_T43 l0 a0).f0).length : Int) = (((rd_T43 l0 0).f0).length : Int)
         ·rw [G_ b0] at H; have c1 := D__ b0; have d1 := T_ b0; have e1 : (((rd_T43 l0 a0).f0).length == ((rd_T43 l0 0).f0).length) = true := by first | simpa using b0 | (simp at b0 ⊢; omega)
          clear b0; have H' := B_ H; clear H; have n0 : 0 ≤ (a0 : Int) := od_; have o0 : a0 < (l0.length : Int) := od_; obtain ⟨M0, g1, j1, N0, l1, v0, y0⟩ := at_T43 r0.out a0 n0 o0
          cases N0; have m1 := B_ y0; have HC523_0 := B_ v0; clear y0 v0; replace n0 := E_ n0; replace o0 := E_ o0; have p0 : 0 ≤ (0 : Int) := (by omega); have q0 : 0 < (l0.length : Int) := od_; obtain ⟨O0, n1, o1, P0, z0, C0, D0⟩ := at_T43 r0.out 0 p0 q0; obtain rfl : M0 = O0 := (by injection P0); have qi524 : (0 < l0.length) = True := E_ (by omega); (try rw [show ((0 : Int)).toNat = 0 from rfl] at z0); (try rw [Addr.add_zero'] at z0); have p1 := B_ D0; have HC524_0 := B_ C0; clear D0 C0; replace p0 := E_ p0; replace q0 := E_ q0; go_wp2
          repeat (go_quiet (fail); try go_wp2)
          go_roundg k2
          case measure => have := HJ2.out; have := HK2.out; omega
          case rel => exact ⟨(wrap64 (a0 + 1)), ev_, H', ⟨by have := HJ2.out; have := HK2.out; omega⟩, by repeat (first | exact R_ _ | apply Q_)⟩
         ·rw [I_ b0] at H; have c1 := P_ b0; have d1 := B__ b0; have e1 : (((rd_T43 l0 a0).f0).length == ((rd_T43 l0 0).f0).length) = false := by first | simpa using b0 | (simp at b0 ⊢; omega)
          obtain rfl := F_ H; have n0 : 0 ≤ (a0 : Int) := od_; have o0 : a0 < (l0.length : Int) := od_; obtain ⟨M0, g1, j1, N0, l1, v0, y0⟩ := at_T43 r0.out a0 n0 o0
          cases N0; have m1 := B_ y0; have HC523_0 := B_ v0; clear y0 v0; replace n0 := E_ n0; replace o0 := E_ o0; have p0 : 0 ≤ (0 : Int) := (by omega); have q0 : 0 < (l0.length : Int) := od_; obtain ⟨O0, n1, o1, P0, z0, C0, D0⟩ := at_T43 r0.out 0 p0 q0; obtain rfl : M0 = O0 := (by injection P0); have qi524 : (0 < l0.length) = True := E_ (by omega); (try rw [show ((0 : Int)).toNat = 0 from rfl] at z0); (try rw [Addr.add_zero'] at z0); have p1 := B_ D0; have HC524_0 := B_ C0; clear D0 C0; replace p0 := E_ p0; replace q0 := E_ q0; go_wp2
          repeat (go_quiet (fail); try go_wp2)
          go_ret; exact ⟨by first | rfl | (simp; done) | (simp [*]; done), by repeat (first | exact R_ _ | apply Q_)⟩
        ·rw [I_ J0] at H; exact absurd H (by simp)
       ·rw [I_ G0] at H; exact absurd H (by simp)
      ·rw [I_ c9] at H; have b1 := K_ c9; clear c9; obtain rfl := F_ H; go_wp2
       repeat (go_quiet (fail); try go_wp2)
       go_ret; exact ⟨by first | rfl | (simp; done) | (simp [*]; done), by repeat (first | exact R_ _ | apply Q_)⟩

/-! ### spec_MeetAt: function 74 -/
mutual
def spec_MeetAt.l0 : Nat → List (S43) → Int → Int → Option (Bool)
 | 0, _, _, _ => none
 | k + 1, x0, x1, x5 => if x5 < (x0.length : Int) then (spec_MeetAt.l1 k x0 x1 x5 0) else (some false)
def spec_MeetAt.l1 : Nat → List (S43) → Int → Int → Int → Option (Bool)
 | 0, _, _, _, _ => none
 | k + 1, x0, x1, x5, x6 => if x6 < x5 then (if 0 ≤ x5 then (if x5 < (x0.length : Int) then (if 0 ≤ x1 then (if x1 < (((rd_T43 x0 x5).f0).length : Int) then (if 0 ≤ x6 then (if x6 < (x0.length : Int) then (if x1 < (((rd_T43 x0 x6).f0).length : Int) then (if (rd ((rd_T43 x0 x5).f0) x1) = (rd ((rd_T43 x0 x6).f0) x1) then (some true) else (if 0 ≤ (wrap64 (x1 + 1)) then (if (wrap64 (x1 + 1)) < (((rd_T43 x0 x5).f0).length : Int) then (if (wrap64 (x1 + 1)) < (((rd_T43 x0 x6).f0).length : Int) then (if (rd ((rd_T43 x0 x5).f0) (wrap64 (x1 + 1))) = (rd ((rd_T43 x0 x6).f0) (wrap64 (x1 + 1))) then (some true) else (spec_MeetAt.l1 k x0 x1 x5 (wrap64 (x6 + 1)))) else (none)) else (none)) else (none))) else (none)) else (none)) else (none)) else (none)) else (none)) else (none)) else (none)) else (spec_MeetAt.l0 k x0 x1 (wrap64 (x5 + 1)))
end
def spec_MeetAt.f (k : Nat) (l0 : List (S43)) (a1 : Int) : Option (Bool) := (spec_LevelWays.f k l0 a1).bind fun O0 => (if O0 = true then (spec_MeetAt.l0 k l0 a1 0) else (some false))
set_option maxHeartbeats 8000000 in
set_option maxRecDepth 100000 in
theorem spec_MeetAt.calls (k : Nat) (A0 : Option Addr) (c0 : Nat) (l0 : List (S43)) (a1 : Int) (r : Bool) (w : World) (hr0 : Kd.C k43 w A0 l0.length l0) (hc0 : l0.length ≤ c0) (h : spec_MeetAt.f k l0 a1 = some r) :
  Calls Tryz.prog 74 #[.slice A0 l0.length c0, .int .i64 a1] w fun e w' => e = .returned (.bool r) ∧ Drawn0 w w' := by
 have d0 := B_ hr0; have HC0 := B_ hc0; clear hr0 hc0; have H : ((spec_LevelWays.f k l0 a1).bind fun O0 => (if O0 = true then (spec_MeetAt.l0 k l0 a1 0) else (some false))) = some r := h; clear h; obtain ⟨O0, A3, H⟩ := ob_ H; by_cases c4 : O0 = true
 ·subst c4; rw [G_ rfl] at H; have H' := B_ H; clear H; go_enter Tryz.func74, Tryz.ntmps74
  repeat ((fail_if_success (first | clear z_ | done)); go_wp2_with (first | (go_at_call 73; (with_reducible refine (spec_LevelWays.calls k _ _ l0 a1 true _ ?side1 ?side2 A3.out).mono ?_); (case side1 => exact uC d0.out); (case side2 => exact HC0.out); rintro e w' ⟨rfl, ⟨nd, rfl⟩⟩; (try first | exact ⟨rfl, _, F__ _ _ _⟩ | exact ⟨rfl, _, Eq.trans (F__ _ _ _) (congrArg (World.drewN _) (Nat.add_assoc _ _ _))⟩))); first | go_quiet (first | (go_at_call 73; (with_reducible refine (spec_LevelWays.calls k _ _ l0 a1 true _ ?side1 ?side2 A3.out).mono ?_); (case side1 => exact uC d0.out); (case side2 => exact HC0.out); rintro e w' ⟨rfl, ⟨nd, rfl⟩⟩; (try first | exact ⟨rfl, _, F__ _ _ _⟩ | exact ⟨rfl, _, Eq.trans (F__ _ _ _) (congrArg (World.drewN _) (Nat.add_assoc _ _ _))⟩))) | have z_ := True.intro | skip)
  (try clear z_); go_loopg [5] k (fun kq v5 w' => ∃ (a0 : Int), v5 = .int .i64 a0 ∧ Aside0 (spec_MeetAt.l0 kq l0 a1 a0 = some r) ∧ Aside0 (kq ≤ k) ∧ Drawn0 w w')
  case atStart => exact ⟨(0), ev_, H', ⟨N_ _⟩, by repeat (first | exact R_ _ | apply Q_)⟩
  case round =>
   clear H'; (try clear p2); (try clear c4); obtain ⟨a0, rfl, HA, HK1, ⟨m1, rfl⟩⟩ := hrel
   cases gk with
   | zero => exact absurd HA.out (by simp [spec_MeetAt.l0])
   | succ k1 =>
    have H := HA.out; clear HA; simp only [spec_MeetAt.l0] at H; by_cases c5 : a0 < (l0.length : Int)
    ·rw [G_ c5] at H; have J1 := C_ c5; clear c5; have H' := B_ H; clear H; go_wp2
     repeat (go_quiet (fail); try go_wp2)
     go_loopg [6] k1 (fun kq v6 w' => ∃ (b0 : Int), v6 = .int .i64 b0 ∧ Aside0 (spec_MeetAt.l1 kq l0 a1 a0 b0 = some r) ∧ Aside0 (kq ≤ k1) ∧ Drawn0 w w')
     case atStart => exact ⟨(0), ev_, H', ⟨N_ _⟩, by repeat (first | exact R_ _ | apply Q_)⟩
     case round =>
      clear H'; (try clear p2); (try clear c4); (try clear c5); (try clear J1); obtain ⟨b0, rfl, HA, HK2, ⟨m2, rfl⟩⟩ := hrel
      cases gk with
      | zero => exact absurd HA.out (by simp [spec_MeetAt.l1])
      | succ k2 =>
       have H := HA.out; clear HA; simp only [spec_MeetAt.l1] at H; by_cases c6 : b0 < a0
       ·rw [G_ c6] at H; have V1 := C_ c6; clear c6; by_cases c7 : 0 ≤ a0
        ·rw [G_ c7] at H; have o2 := C_ c7; clear c7; by_cases c8 : a0 < (l0.length : Int)
         ·rw [G_ c8] at H; have q2 := C_ c8; clear c8; by_cases c9 : 0 ≤ a1
          ·rw [G_ c9] at H; have r2 := C_ c9; clear c9; by_cases e1 : a1 < (((rd_T43 l0 a0).f0).length : Int)
           ·rw [G_ e1] at H; have s2 := C_ e1; clear e1; by_cases g1 : 0 ≤ b0
            ·rw [G_ g1] at H; have t2 := C_ g1; clear g1; by_cases j1 : b0 < (l0.length : Int)
             ·rw [G_ j1] at H; have u2 := C_ j1; clear j1; by_cases n1 : a1 < (((rd_T43 l0 b0).f0).length : Int)
              ·rw [G_ n1] at H; have v2 := C_ n1; clear n1; by_cases y0 : (rd ((rd_T43 l0 a0).f0) a1) = (rd ((rd_T43 l0 b0).f0) a1)
               ·rw [G_ y0] at H; have X1 := D__ y0; have Y1 := T_ y0; clear y0; obtain rfl := F_ H; have e0 : 0 ≤ (a0 : Int) := od_; have g0 : a0 < (l0.length : Int) := od_; obtain ⟨r0, L1, M1, P0, o1, s0, t0⟩ := at_T43 d0.out a0 e0 g0
                cases P0; have Q0 := B_ t0; have HC526_0 := B_ s0; clear t0 s0; replace e0 := E_ e0; replace g0 := E_ g0; have j0 : 0 ≤ (a1 : Int) := od_; have m0 : a1 < (((rd_T43 l0 a0).f0).length : Int) := od_; obtain ⟨N1, R0, O1⟩ := U_ Q0.out a1 j0 m0
                cases R0; replace j0 := E_ j0; replace m0 := E_ m0; have n0 : 0 ≤ (b0 : Int) := od_; have o0 : b0 < (l0.length : Int) := od_; obtain ⟨U0, P1, Q1, V0, p1, u0, v0⟩ := at_T43 d0.out b0 n0 o0; obtain rfl : r0 = U0 := (by injection V0); have X0 := B_ v0; have HC528_0 := B_ u0; clear v0 u0; replace n0 := E_ n0; replace o0 := E_ o0; have p0 : 0 ≤ (a1 : Int) := od_; have q0 : a1 < (((rd_T43 l0 b0).f0).length : Int) := od_; obtain ⟨R1, Y0, U1⟩ := U_ X0.out a1 p0 q0
                cases Y0; replace p0 := E_ p0; replace q0 := E_ q0; go_wp2
                repeat (go_quiet (fail); try go_wp2)
                go_ret; exact ⟨by first | rfl | (simp; done) | (simp [*]; done), by repeat (first | exact R_ _ | apply Q_)⟩
               ·rw [I_ y0] at H; have X1 := P_ y0; have Y1 := B__ y0; obtain ⟨ji15, hji15⟩ : ∃ j_ : Int, (wrap64 (a1 + 1)) = j_ := ⟨_, rfl⟩; replace H : (if 0 ≤ (ji15) then (if (ji15) < (((rd_T43 l0 a0).f0).length : Int) then (if (ji15) < (((rd_T43 l0 b0).f0).length : Int) then (if (rd ((rd_T43 l0 a0).f0) (ji15)) = (rd ((rd_T43 l0 b0).f0) (ji15)) then (some true) else (spec_MeetAt.l1 k2 l0 a1 a0 (wrap64 (b0 + 1)))) else (none)) else (none)) else (none)) = some r := by first | (rw [hji15] at H; exact H) | (simp only [hji15] at H ⊢; exact H)
                have hji15w : (IntKind.i64.wrap (a1 + 1)) = ji15 := (i64_w _).trans hji15; by_cases q1 : 0 ≤ (ji15)
                ·rw [G_ q1] at H; have x2 := C_ q1; clear q1; by_cases r1 : (ji15) < (((rd_T43 l0 a0).f0).length : Int)
                 ·rw [G_ r1] at H; have y2 := C_ r1; clear r1; by_cases s1 : (ji15) < (((rd_T43 l0 b0).f0).length : Int)
                  ·rw [G_ s1] at H; have z2 := C_ s1; clear s1; by_cases z0 : (rd ((rd_T43 l0 a0).f0) (ji15)) = (rd ((rd_T43 l0 b0).f0) (ji15))
                   ·rw [G_ z0] at H; have Z1 := D__ z0; have a2 := T_ z0; clear z0; obtain rfl := F_ H; have e0 : 0 ≤ (a0 : Int) := od_; have g0 : a0 < (l0.length : Int) := od_; obtain ⟨r0, L1, M1, P0, o1, s0, t0⟩ := at_T43 d0.out a0 e0 g0
                    cases P0; have Q0 := B_ t0; have HC526_0 := B_ s0; clear t0 s0; replace e0 := E_ e0; replace g0 := E_ g0; have j0 : 0 ≤ (a1 : Int) := od_; have m0 : a1 < (((rd_T43 l0 a0).f0).length : Int) := od_; obtain ⟨N1, R0, O1⟩ := U_ Q0.out a1 j0 m0
                    cases R0; replace j0 := E_ j0; replace m0 := E_ m0; have n0 : 0 ≤ (b0 : Int) := od_; have o0 : b0 < (l0.length : Int) := od_; obtain ⟨U0, P1, Q1, V0, p1, u0, v0⟩ := at_T43 d0.out b0 n0 o0; obtain rfl : r0 = U0 := (by injection V0); have X0 := B_ v0; have HC528_0 := B_ u0; clear v0 u0; replace n0 := E_ n0; replace o0 := E_ o0; have p0 : 0 ≤ (a1 : Int) := od_; have q0 : a1 < (((rd_T43 l0 b0).f0).length : Int) := od_; obtain ⟨R1, Y0, U1⟩ := U_ X0.out a1 p0 q0
                    cases Y0; replace p0 := E_ p0; replace q0 := E_ q0; have C0 : 0 ≤ (a0 : Int) := od_; have D0 : a0 < (l0.length : Int) := od_; obtain ⟨t1, b2, c2, u1, v1, Z0, b1⟩ := at_T43 d0.out a0 C0 D0; obtain rfl : r0 = t1 := (by injection u1); have y1 := B_ b1; have HC530_0 := B_ Z0; clear b1 Z0; replace C0 := E_ C0; replace D0 := E_ D0; have ea_ := F_ (o1.symm.trans v1); injection ea_ with ea_ en_ ec_
                    subst ea_; subst ec_; clear en_; have E0 : 0 ≤ ((ji15) : Int) := od_; have G0 : (ji15) < (((rd_T43 l0 a0).f0).length : Int) := od_; obtain ⟨d2, z1, e2⟩ := U_ y1.out (ji15) E0 G0
                    cases z1; replace E0 := E_ E0; replace G0 := E_ G0; have J0 : 0 ≤ (b0 : Int) := od_; have L0 : b0 < (l0.length : Int) := od_; obtain ⟨A1, g2, j2, C1, D1, c1, d1⟩ := at_T43 d0.out b0 J0 L0; obtain rfl : r0 = A1 := (by injection C1); have E1 := B_ d1; have HC532_0 := B_ c1; clear d1 c1; replace J0 := E_ J0; replace L0 := E_ L0; have ea_ := F_ (p1.symm.trans D1); injection ea_ with ea_ en_ ec_
                    subst ea_; subst ec_; clear en_; have M0 : 0 ≤ ((ji15) : Int) := od_; have N0 : (ji15) < (((rd_T43 l0 b0).f0).length : Int) := od_; obtain ⟨l2, G1, n2⟩ := U_ E1.out (ji15) M0 N0
                    cases G1; replace M0 := E_ M0; replace N0 := E_ N0; go_wp2
                    repeat (go_quiet (fail); try go_wp2)
                    go_ret; exact ⟨by first | rfl | (simp; done) | (simp only [← hji15] <;> (first | rfl | simp)) | (simp [*]; done), by repeat (first | exact R_ _ | apply Q_)⟩
                   ·rw [I_ z0] at H; have Z1 := P_ z0; have a2 := B__ z0; have H' := B_ H; clear H; have e0 : 0 ≤ (a0 : Int) := od_; have g0 : a0 < (l0.length : Int) := od_; obtain ⟨r0, L1, M1, P0, o1, s0, t0⟩ := at_T43 d0.out a0 e0 g0
                    cases P0; have Q0 := B_ t0; have HC526_0 := B_ s0; clear t0 s0; replace e0 := E_ e0; replace g0 := E_ g0; have j0 : 0 ≤ (a1 : Int) := od_; have m0 : a1 < (((rd_T43 l0 a0).f0).length : Int) := od_; obtain ⟨N1, R0, O1⟩ := U_ Q0.out a1 j0 m0
                    cases R0; replace j0 := E_ j0; replace m0 := E_ m0; have n0 : 0 ≤ (b0 : Int) := od_; have o0 : b0 < (l0.length : Int) := od_; obtain ⟨U0, P1, Q1, V0, p1, u0, v0⟩ := at_T43 d0.out b0 n0 o0; obtain rfl : r0 = U0 := (by injection V0); have X0 := B_ v0; have HC528_0 := B_ u0; clear v0 u0; replace n0 := E_ n0; replace o0 := E_ o0; have p0 : 0 ≤ (a1 : Int) := od_; have q0 : a1 < (((rd_T43 l0 b0).f0).length : Int) := od_; obtain ⟨R1, Y0, U1⟩ := U_ X0.out a1 p0 q0
                    cases Y0; replace p0 := E_ p0; replace q0 := E_ q0; have C0 : 0 ≤ (a0 : Int) := od_; have D0 : a0 < (l0.length : Int) := od_; obtain ⟨t1, b2, c2, u1, v1, Z0, b1⟩ := at_T43 d0.out a0 C0 D0; obtain rfl : r0 = t1 := (by injection u1); have y1 := B_ b1; have HC530_0 := B_ Z0; clear b1 Z0; replace C0 := E_ C0; replace D0 := E_ D0; have ea_ := F_ (o1.symm.trans v1); injection ea_ with ea_ en_ ec_
                    subst ea_; subst ec_; clear en_; have E0 : 0 ≤ ((ji15) : Int) := od_; have G0 : (ji15) < (((rd_T43 l0 a0).f0).length : Int) := od_; obtain ⟨d2, z1, e2⟩ := U_ y1.out (ji15) E0 G0
                    cases z1; replace E0 := E_ E0; replace G0 := E_ G0; have J0 : 0 ≤ (b0 : Int) := od_; have L0 : b0 < (l0.length : Int) := od_; obtain ⟨A1, g2, j2, C1, D1, c1, d1⟩ := at_T43 d0.out b0 J0 L0; obtain rfl : r0 = A1 := (by injection C1); have E1 := B_ d1; have HC532_0 := B_ c1; clear d1 c1; replace J0 := E_ J0; replace L0 := E_ L0; have ea_ := F_ (p1.symm.trans D1); injection ea_ with ea_ en_ ec_
                    subst ea_; subst ec_; clear en_; have M0 : 0 ≤ ((ji15) : Int) := od_; have N0 : (ji15) < (((rd_T43 l0 b0).f0).length : Int) := od_; obtain ⟨l2, G1, n2⟩ := U_ E1.out (ji15) M0 N0
                    cases G1; replace M0 := E_ M0; replace N0 := E_ N0; go_wp2
                    repeat (go_quiet (fail); try go_wp2)
                    go_roundg k2
                    case measure => have := HK1.out; have := HK2.out; omega
                    case rel => exact ⟨(wrap64 (b0 + 1)), ev_, H', ⟨by have := HK1.out; have := HK2.out; omega⟩, by repeat (first | exact R_ _ | apply Q_)⟩
                  ·rw [I_ s1] at H; exact absurd H (by simp)
                 ·rw [I_ r1] at H; exact absurd H (by simp)
                ·rw [I_ q1] at H; exact absurd H (by simp)
              ·rw [I_ n1] at H; exact absurd H (by simp)
             ·rw [I_ j1] at H; exact absurd H (by simp)
            ·rw [I_ g1] at H; exact absurd H (by simp)
           ·rw [I_ e1] at H; exact absurd H (by simp)
          ·rw [I_ c9] at H; exact absurd H (by simp)
         ·rw [I_ c8] at H; exact absurd H (by simp)
        ·rw [I_ c7] at H; exact absurd H (by simp)
       ·rw [I_ c6] at H; have V1 := K_ c6; clear c6; have H' := B_ H; clear H; go_wp2
        repeat (go_quiet (fail); try go_wp2)
        go_roundg k2
        case measure => have := HK1.out; have := HK2.out; omega
        case rel => exact ⟨(wrap64 (a0 + 1)), ev_, H', ⟨by have := HK1.out; have := HK2.out; omega⟩, by repeat (first | exact R_ _ | apply Q_)⟩
    ·rw [I_ c5] at H; have J1 := K_ c5; clear c5; obtain rfl := F_ H; go_wp2
     repeat (go_quiet (fail); try go_wp2)
     go_ret; exact ⟨by first | rfl | (simp; done) | (simp [*]; done), by repeat (first | exact R_ _ | apply Q_)⟩
 ·replace c4 := L_ c4; subst c4; rw [I_ (show ¬ (false = true) by decide)] at H; obtain rfl := F_ H; go_enter Tryz.func74, Tryz.ntmps74
  repeat ((fail_if_success (first | clear z_ | done)); go_wp2_with (first | (go_at_call 73; (with_reducible refine (spec_LevelWays.calls k _ _ l0 a1 false _ ?side1 ?side2 A3.out).mono ?_); (case side1 => exact uC d0.out); (case side2 => exact HC0.out); rintro e w' ⟨rfl, ⟨nd, rfl⟩⟩; (try first | exact ⟨rfl, _, F__ _ _ _⟩ | exact ⟨rfl, _, Eq.trans (F__ _ _ _) (congrArg (World.drewN _) (Nat.add_assoc _ _ _))⟩))); first | go_quiet (first | (go_at_call 73; (with_reducible refine (spec_LevelWays.calls k _ _ l0 a1 false _ ?side1 ?side2 A3.out).mono ?_); (case side1 => exact uC d0.out); (case side2 => exact HC0.out); rintro e w' ⟨rfl, ⟨nd, rfl⟩⟩; (try first | exact ⟨rfl, _, F__ _ _ _⟩ | exact ⟨rfl, _, Eq.trans (F__ _ _ _) (congrArg (World.drewN _) (Nat.add_assoc _ _ _))⟩))) | have z_ := True.intro | skip)
  (try clear z_); go_ret; exact ⟨by first | rfl | (simp; done) | (simp [*]; done), by repeat (first | exact R_ _ | apply Q_)⟩

/-! ### spec_l12Ring: function 75 -/
mutual
def spec_l12Ring.l0 : Nat → List (S43) → Int → Int → Int → Int → Option (Int)
 | 0, _, _, _, _, _ => none
 | k + 1, x0, x1, x2, x7, x8 => if x8 ≤ (x0.length : Int) then (spec_l12Ring.l1 k x0 x1 x2 x7 x8 (-1) 0) else (some 0)
def spec_l12Ring.l1 : Nat → List (S43) → Int → Int → Int → Int → Int → Int → Option (Int)
 | 0, _, _, _, _, _, _, _ => none
 | k + 1, x0, x1, x2, x7, x8, x9, g0 => if g0 < (x0.length : Int) then (if 0 ≤ g0 then (if 0 ≤ x1 then (if x1 < (((rd_T43 x0 g0).f0).length : Int) then (if 0 ≤ x7 then (if x7 < (x0.length : Int) then (if 0 ≤ (wrap64 (x1 + 1)) then (if (wrap64 (x1 + 1)) < (((rd_T43 x0 x7).f0).length : Int) then (if (rd ((rd_T43 x0 g0).f0) x1) = (rd ((rd_T43 x0 x7).f0) (wrap64 (x1 + 1))) then (spec_l12Ring.l1 k x0 x1 x2 x7 x8 g0 (wrap64 (g0 + 1))) else (spec_l12Ring.l1 k x0 x1 x2 x7 x8 x9 (wrap64 (g0 + 1)))) else (none)) else (none)) else (none)) else (none)) else (none)) else (none)) else (none)) else (if x9 < 0 then (some 0) else (if x9 = x2 then (some x8) else (spec_l12Ring.l0 k x0 x1 x2 x9 (wrap64 (x8 + 1)))))
end
def spec_l12Ring.f (k : Nat) (l0 : List (S43)) (a1 : Int) (a2 : Int) : Option (Int) := spec_l12Ring.l0 k l0 a1 a2 a2 1
set_option maxHeartbeats 8000000 in
set_option maxRecDepth 100000 in
theorem spec_l12Ring.calls (k : Nat) (A0 : Option Addr) (c0 : Nat) (l0 : List (S43)) (a1 : Int) (a2 : Int) (r : Int) (w : World) (hr0 : Kd.C k43 w A0 l0.length l0) (hc0 : l0.length ≤ c0) (h : spec_l12Ring.f k l0 a1 a2 = some r) :
  Calls Tryz.prog 75 #[.slice A0 l0.length c0, .int .i64 a1, .int .i64 a2] w fun e w' => e = .returned (.int .i64 r) ∧ Drawn0 w w' := by
 have E0 := B_ hr0; have HC0 := B_ hc0; clear hr0 hc0; have H : (spec_l12Ring.l0 k l0 a1 a2 a2 1) = some r := h; clear h; have H' := B_ H; clear H; go_enter Tryz.func75, Tryz.ntmps75; go_wp2
 repeat (go_quiet (fail); try go_wp2)
 go_loopg [7, 8] k (fun kq v7 v8 w' => ∃ (b0 : Int) (d0 : Int), v7 = .int .i64 b0 ∧ v8 = .int .i64 d0 ∧ Aside0 (spec_l12Ring.l0 kq l0 a1 a2 b0 d0 = some r) ∧ Aside0 (kq ≤ k) ∧ Drawn0 w w')
 case atStart => exact ⟨(a2), (1), ev_, ev_, H', ⟨N_ _⟩, by repeat (first | exact R_ _ | apply Q_)⟩
 case round =>
  clear H'; (try clear p2); obtain ⟨b0, d0, rfl, rfl, HA, HK1, ⟨m1, rfl⟩⟩ := hrel
  cases gk with
  | zero => exact absurd HA.out (by simp [spec_l12Ring.l0])
  | succ k1 =>
   have H := HA.out; clear HA; simp only [spec_l12Ring.l0] at H; by_cases c4 : d0 ≤ (l0.length : Int)
   ·rw [G_ c4] at H; have X0 := C_ c4; clear c4; have H' := B_ H; clear H; go_wp2
    repeat (go_quiet (fail); try go_wp2)
    go_loopg [9, 10] k1 (fun kq v9 v10 w' => ∃ (e0 : Int) (a0 : Int), v9 = .int .i64 e0 ∧ v10 = .int .i64 a0 ∧ Aside0 (spec_l12Ring.l1 kq l0 a1 a2 b0 d0 e0 a0 = some r) ∧ Aside0 (kq ≤ k1) ∧ Drawn0 w w')
    case atStart => exact ⟨((-1)), (0), ev_, ev_, H', ⟨N_ _⟩, by repeat (first | exact R_ _ | apply Q_)⟩
    case round =>
     clear H'; (try clear p2); (try clear c4); (try clear X0); obtain ⟨e0, a0, rfl, rfl, HA, HK2, ⟨m2, rfl⟩⟩ := hrel
     cases gk with
     | zero => exact absurd HA.out (by simp [spec_l12Ring.l1])
     | succ k2 =>
      have H := HA.out; clear HA; simp only [spec_l12Ring.l1] at H; by_cases c5 : a0 < (l0.length : Int)
      ·rw [G_ c5] at H; have Y0 := C_ c5; clear c5; by_cases c6 : 0 ≤ a0
       ·rw [G_ c6] at H; have v1 := C_ c6; clear c6; by_cases c7 : 0 ≤ a1
        ·rw [G_ c7] at H; have y1 := C_ c7; clear c7; by_cases c8 : a1 < (((rd_T43 l0 a0).f0).length : Int)
         ·rw [G_ c8] at H; have z1 := C_ c8; clear c8; by_cases c9 : 0 ≤ b0
          ·rw [G_ c9] at H; have A1 := C_ c9; clear c9; by_cases G0 : b0 < (l0.length : Int)
           ·rw [G_ G0] at H; have C1 := C_ G0; clear G0; obtain ⟨ji11, hji11⟩ : ∃ j_ : Int, (wrap64 (a1 + 1)) = j_ := ⟨_, rfl⟩; replace H : (if 0 ≤ (ji11) then (if (ji11) < (((rd_T43 l0 b0).f0).length : Int) then (if (rd ((rd_T43 l0 a0).f0) a1) = (rd ((rd_T43 l0 b0).f0) (ji11)) then (spec_l12Ring.l1 k2 l0 a1 a2 b0 d0 a0 (wrap64 (a0 + 1))) else (spec_l12Ring.l1 k2 l0 a1 a2 b0 d0 e0 (wrap64 (a0 + 1)))) else (none)) else (none)) = some r := by first | (rw [hji11] at H; exact H) | (simp only [hji11] at H ⊢; exact H)
            have hji11w : (IntKind.i64.wrap (a1 + 1)) = ji11 := (i64_w _).trans hji11; by_cases J0 : 0 ≤ (ji11)
            ·rw [G_ J0] at H; have D1 := C_ J0; clear J0; by_cases L0 : (ji11) < (((rd_T43 l0 b0).f0).length : Int)
             ·rw [G_ L0] at H; have E1 := C_ L0; clear L0; by_cases j0 : (rd ((rd_T43 l0 a0).f0) a1) = (rd ((rd_T43 l0 b0).f0) (ji11))
              ·rw [G_ j0] at H; have Z0 := D__ j0; have b1 := T_ j0; clear j0; have H' := B_ H; clear H; have m0 : 0 ≤ (a0 : Int) := od_; have n0 : a0 < (l0.length : Int) := od_; obtain ⟨M0, c1, d1, N0, e1, y0, z0⟩ := at_T43 E0.out a0 m0 n0
               cases N0; have O0 := B_ z0; have HC534_0 := B_ y0; clear z0 y0; replace m0 := E_ m0; replace n0 := E_ n0; have o0 : 0 ≤ (a1 : Int) := od_; have p0 : a1 < (((rd_T43 l0 a0).f0).length : Int) := od_; obtain ⟨g1, P0, j1⟩ := U_ O0.out a1 o0 p0
               cases P0; replace o0 := E_ o0; replace p0 := E_ p0; have q0 : 0 ≤ (b0 : Int) := od_; have r0 : b0 < (l0.length : Int) := od_; obtain ⟨Q0, n1, o1, R0, p1, C0, D0⟩ := at_T43 E0.out b0 q0 r0; obtain rfl : M0 = Q0 := (by injection R0); have U0 := B_ D0; have HC536_0 := B_ C0; clear D0 C0; replace q0 := E_ q0; replace r0 := E_ r0; have s0 : 0 ≤ ((ji11) : Int) := od_; have t0 : (ji11) < (((rd_T43 l0 b0).f0).length : Int) := od_; obtain ⟨q1, V0, r1⟩ := U_ U0.out (ji11) s0 t0
               cases V0; replace s0 := E_ s0; replace t0 := E_ t0; go_wp2
               repeat (go_quiet (fail); try go_wp2)
               go_roundg k2
               case measure => have := HK1.out; have := HK2.out; omega
               case rel => exact ⟨(a0), (wrap64 (a0 + 1)), ev_, ev_, H', ⟨by have := HK1.out; have := HK2.out; omega⟩, by repeat (first | exact R_ _ | apply Q_)⟩
              ·rw [I_ j0] at H; have Z0 := P_ j0; have b1 := B__ j0; have H' := B_ H; clear H; have m0 : 0 ≤ (a0 : Int) := od_; have n0 : a0 < (l0.length : Int) := od_; obtain ⟨M0, c1, d1, N0, e1, y0, z0⟩ := at_T43 E0.out a0 m0 n0
               cases N0; have O0 := B_ z0; have HC534_0 := B_ y0; clear z0 y0; replace m0 := E_ m0; replace n0 := E_ n0; have o0 : 0 ≤ (a1 : Int) := od_; have p0 : a1 < (((rd_T43 l0 a0).f0).length : Int) := od_; obtain ⟨g1, P0, j1⟩ := U_ O0.out a1 o0 p0
               cases P0; replace o0 := E_ o0; replace p0 := E_ p0; have q0 : 0 ≤ (b0 : Int) := od_; have r0 : b0 < (l0.length : Int) := od_; obtain ⟨Q0, n1, o1, R0, p1, C0, D0⟩ := at_T43 E0.out b0 q0 r0; obtain rfl : M0 = Q0 := (by injection R0); have U0 := B_ D0; have HC536_0 := B_ C0; clear D0 C0; replace q0 := E_ q0; replace r0 := E_ r0; have s0 : 0 ≤ ((ji11) : Int) := od_; have t0 : (ji11) < (((rd_T43 l0 b0).f0).length : Int) := od_; obtain ⟨q1, V0, r1⟩ := U_ U0.out (ji11) s0 t0
               cases V0; replace s0 := E_ s0; replace t0 := E_ t0; go_wp2
               repeat (go_quiet (fail); try go_wp2)
               go_roundg k2
               case measure => have := HK1.out; have := HK2.out; omega
               case rel => exact ⟨(e0), (wrap64 (a0 + 1)), ev_, ev_, H', ⟨by have := HK1.out; have := HK2.out; omega⟩, by repeat (first | exact R_ _ | apply Q_)⟩
             ·rw [I_ L0] at H; exact absurd H (by simp)
            ·rw [I_ J0] at H; exact absurd H (by simp)
           ·rw [I_ G0] at H; exact absurd H (by simp)
          ·rw [I_ c9] at H; exact absurd H (by simp)
         ·rw [I_ c8] at H; exact absurd H (by simp)
        ·rw [I_ c7] at H; exact absurd H (by simp)
       ·rw [I_ c6] at H; exact absurd H (by simp)
      ·rw [I_ c5] at H; have Y0 := K_ c5; clear c5; by_cases v0 : e0 < 0
       ·rw [G_ v0] at H; have s1 := C_ v0; clear v0; obtain rfl := F_ H; go_wp2
        repeat (go_quiet (fail); try go_wp2)
        go_ret; exact ⟨by first | rfl | (simp; done) | (simp [*]; done), by repeat (first | exact R_ _ | apply Q_)⟩
       ·rw [I_ v0] at H; have s1 := K_ v0; clear v0; by_cases u0 : e0 = a2
        ·rw [G_ u0] at H; have t1 := D__ u0; have u1 := T_ u0; clear u0; obtain rfl := F_ H; go_wp2
         repeat (go_quiet (fail); try go_wp2)
         go_ret; exact ⟨by first | rfl | (simp; done) | (simp [*]; done), by repeat (first | exact R_ _ | apply Q_)⟩
        ·rw [I_ u0] at H; have t1 := P_ u0; have u1 := B__ u0; have H' := B_ H; clear H; go_wp2
         repeat (go_quiet (fail); try go_wp2)
         go_roundg k2
         case measure => have := HK1.out; have := HK2.out; omega
         case rel => exact ⟨(e0), (wrap64 (d0 + 1)), ev_, ev_, H', ⟨by have := HK1.out; have := HK2.out; omega⟩, by repeat (first | exact R_ _ | apply Q_)⟩
   ·rw [I_ c4] at H; have X0 := K_ c4; clear c4; obtain rfl := F_ H; go_wp2
    repeat (go_quiet (fail); try go_wp2)
    go_ret; exact ⟨by first | rfl | (simp; done) | (simp [*]; done), by repeat (first | exact R_ _ | apply Q_)⟩

end Go.Proofs.YtdebpmdbeogglaaGreat.Q
