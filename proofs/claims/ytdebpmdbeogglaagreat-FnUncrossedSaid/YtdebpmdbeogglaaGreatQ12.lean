-- Written by a session's own program (wip/tools/myprint.py) over the kit's printer, out of the translation. Not trusted: Lean checks it.
import Derived.Test.YtdebpmdbeogglaaGreatQ0
import Derived.Test.YtdebpmdbeogglaaGreatQ1
import Derived.Test.YtdebpmdbeogglaaGreatQ10
import Derived.Test.YtdebpmdbeogglaaGreatQ11
-- squeezed
-- renamed
-- squeezed4
namespace Go.Proofs.YtdebpmdbeogglaaGreat.Q
open Go.RowKit Go.Proofs.YtdebpmdbeogglaaGreatW.PrintWords Go.Proofs.YtdebpmdbeogglaaGreatW.PrintLast Go.Proofs.YtdebpmdbeogglaaGreatW.PrintMore
attribute [local go_sem] max2_int min2_int max_two min_two max_three min_three max_four min_four   -- for this text's walks alone
set_option linter.unusedVariables false
set_option linter.unusedSimpArgs false

/-! ### spec_l12Count: function 56 -/
mutual
def spec_l12Count.j0 : Nat → List (S43) → Int → Int → Int → Bool → Option (Int)
 | 0, _, _, _, _, _ => none
 | k + 1, x0, x1, x2, x3, s0 => if s0 = true then (some 0) else (spec_l12Count.l0 k x0 x1 x2 x3 0 0)
def spec_l12Count.l0 : Nat → List (S43) → Int → Int → Int → Int → Int → Option (Int)
 | 0, _, _, _, _, _, _ => none
 | k + 1, x0, x1, x2, x3, x9, o0 => if o0 < (x0.length : Int) then ((spec_l12Ring.f k x0 x1 o0).bind fun b0 => ((spec_l01In.f b0 x2 x3).bind fun r0 => (if r0 = true then (spec_l12Count.l0 k x0 x1 x2 x3 (wrap64 (x9 + 1)) (wrap64 (o0 + 1))) else (spec_l12Count.l0 k x0 x1 x2 x3 x9 (wrap64 (o0 + 1)))))) else (some x9)
end
def spec_l12Count.f (k : Nat) (l0 : List (S43)) (a1 : Int) (a2 : Int) (a3 : Int) : Option (Int) := (spec_LevelWays.f k l0 a1).bind fun g0 => (if g0 = true then ((spec_MeetAt.f k l0 a1).bind fun d0 => (spec_l12Count.j0 k l0 a1 a2 a3 d0)) else (spec_l12Count.j0 k l0 a1 a2 a3 true))
set_option maxHeartbeats 8000000 in
set_option maxRecDepth 100000 in
theorem spec_l12Count.calls (k : Nat) (A0 : Option Addr) (c0 : Nat) (l0 : List (S43)) (a1 : Int) (a2 : Int) (a3 : Int) (r : Int) (w : World) (hr0 : Kd.C k43 w A0 l0.length l0) (hc0 : l0.length ≤ c0) (h : spec_l12Count.f k l0 a1 a2 a3 = some r) :
  Calls Tryz.prog 56 #[.slice A0 l0.length c0, .int .i64 a1, .int .i64 a2, .int .i64 a3] w fun e w' => e = .returned (.int .i64 r) ∧ Drawn0 w w' := by
 have m0 := B_ hr0; have HC0 := B_ hc0; clear hr0 hc0; have H : ((spec_LevelWays.f k l0 a1).bind fun g0 => (if g0 = true then ((spec_MeetAt.f k l0 a1).bind fun d0 => (spec_l12Count.j0 k l0 a1 a2 a3 d0)) else (spec_l12Count.j0 k l0 a1 a2 a3 true))) = some r := h; clear h; have HC5 := B_ H; clear H; go_enter Tryz.func56, Tryz.ntmps56; go_upto_region 1 with (fail)
 go_cut [19] (fun v19 wc => ∃ (kq : Nat) (p0 : Bool), v19 = .bool p0 ∧ Aside0 (spec_l12Count.j0 kq l0 a1 a2 a3 p0 = some r) ∧ Aside0 (kq ≤ k) ∧ Drawn0 w wc)
 case first =>
  have H := HC5.out; clear HC5; obtain ⟨g0, A6, H⟩ := ob_ H; by_cases c7 : g0 = true
  ·subst c7; rw [G_ rfl] at H; obtain ⟨d0, A8, H⟩ := ob_ H; have H' := B_ H; clear H; go_wp2_with (first | ((with_reducible refine J_ (f := 73) rfl ?_); refine gL_ (some 13) Tryz.func73 #[.slice A0 l0.length c0, .int .i64 a1] ?_; (with_reducible refine (spec_LevelWays.calls k _ _ l0 a1 true _ ?side1 ?side2 A6.out).mono ?_); (case side1 => exact uC m0.out); (case side2 => exact HC0.out); rintro e w' ⟨rfl, ⟨nd, rfl⟩⟩; refine ⟨_, rfl, ?_⟩) | (go_at_call 74; (with_reducible refine (spec_MeetAt.calls k _ _ l0 a1 d0 _ ?side1 ?side2 A8.out).mono ?_); (case side1 => exact uC m0.out); (case side2 => exact HC0.out); rintro e w' ⟨rfl, ⟨nd, rfl⟩⟩))
   go_meet
   case rel => exact ⟨_, (d0), ev_, H', ⟨by first | omega | exact N_ _⟩, by repeat (first | exact R_ _ | apply Q_)⟩
  ·replace c7 := L_ c7; subst c7; rw [I_ (show ¬ (false = true) by decide)] at H; have H' := B_ H; clear H; go_wp2_with (first | ((with_reducible refine J_ (f := 73) rfl ?_); refine gL_ (some 13) Tryz.func73 #[.slice A0 l0.length c0, .int .i64 a1] ?_; (with_reducible refine (spec_LevelWays.calls k _ _ l0 a1 false _ ?side1 ?side2 A6.out).mono ?_); (case side1 => exact uC m0.out); (case side2 => exact HC0.out); rintro e w' ⟨rfl, ⟨nd, rfl⟩⟩; refine ⟨_, rfl, ?_⟩))
   go_meet
   case rel => exact ⟨_, (true), ev_, H', ⟨by first | omega | exact N_ _⟩, by repeat (first | exact R_ _ | apply Q_)⟩
 case rest =>
  clear HC5; (try clear p2); (try clear c5); (try clear c7); obtain ⟨kq, p0, rfl, HA, HJ4, ⟨mc4, rfl⟩⟩ := hcut
  cases kq with
  | zero => exact absurd HA.out (by simp [spec_l12Count.j0])
  | succ kj4 =>
   have H := HA.out; clear HA; simp only [spec_l12Count.j0] at H; by_cases c9 : p0 = true
   ·subst c9; rw [G_ rfl] at H; obtain rfl := F_ H; go_wp2; go_ret; exact ⟨by first | rfl | (simp; done) | (simp [*]; done), by repeat (first | exact R_ _ | apply Q_)⟩
   ·replace c9 := L_ c9; subst c9; rw [I_ (show ¬ (false = true) by decide)] at H; have H' := B_ H; clear H; go_wp2; go_loopg [9, 10] kj4 (fun kq v9 v10 w' => ∃ (n0 : Int) (a0 : Int), v9 = .int .i64 n0 ∧ v10 = .int .i64 a0 ∧ Aside0 (spec_l12Count.l0 kq l0 a1 a2 a3 n0 a0 = some r) ∧ Aside0 (kq ≤ kj4) ∧ Drawn0 w w')
    case atStart => exact ⟨(0), (0), ev_, ev_, H', ⟨N_ _⟩, by repeat (first | exact R_ _ | apply Q_)⟩
    case round =>
     clear H'; (try clear p2); (try clear c4); (try clear c5); (try clear c7); (try clear c9); obtain ⟨n0, a0, rfl, rfl, HA, HK2, ⟨m2, rfl⟩⟩ := hrel
     cases gk with
     | zero => exact absurd HA.out (by simp [spec_l12Count.l0])
     | succ k2 =>
      have H := HA.out; clear HA; simp only [spec_l12Count.l0] at H; by_cases e0 : a0 < (l0.length : Int)
      ·rw [G_ e0] at H; have t0 := C_ e0; clear e0; obtain ⟨b0, A11, H⟩ := ob_ H; obtain ⟨r0, A12, H⟩ := ob_ H; by_cases q0 : r0 = true
       ·subst q0; rw [G_ rfl] at H; have H' := B_ H; clear H; go_wp2_with (first | ((with_reducible refine J_ (f := 75) rfl ?_); refine gL_ (some 29) Tryz.func75 #[.slice A0 l0.length c0, .int .i64 a1, .int .i64 a0] ?_; (with_reducible refine (spec_l12Ring.calls k2 _ _ l0 a1 a0 b0 _ ?side1 ?side2 A11.out).mono ?_); (case side1 => exact uC m0.out); (case side2 => exact HC0.out); rintro e w' ⟨rfl, ⟨nd, rfl⟩⟩; refine ⟨_, rfl, ?_⟩) | ((with_reducible refine J_ (f := 55) rfl ?_); refine gL_ (some 32) Tryz.func55 #[.int .i64 b0, .int .i64 a2, .int .i64 a3] ?_; (with_reducible refine (spec_l01In.calls b0 a2 a3 true _ A12.out).mono ?_); rintro e w' ⟨rfl, ⟨nd, rfl⟩⟩; refine ⟨_, rfl, ?_⟩))
        go_roundg k2
        case measure => have := HJ4.out; have := HK2.out; omega
        case rel => exact ⟨(wrap64 (n0 + 1)), (wrap64 (a0 + 1)), ev_, ev_, H', ⟨by have := HJ4.out; have := HK2.out; omega⟩, by repeat (first | exact R_ _ | apply Q_)⟩
       ·replace q0 := L_ q0; subst q0; rw [I_ (show ¬ (false = true) by decide)] at H; have H' := B_ H; clear H; go_wp2_with (first | ((with_reducible refine J_ (f := 75) rfl ?_); refine gL_ (some 29) Tryz.func75 #[.slice A0 l0.length c0, .int .i64 a1, .int .i64 a0] ?_; (with_reducible refine (spec_l12Ring.calls k2 _ _ l0 a1 a0 b0 _ ?side1 ?side2 A11.out).mono ?_); (case side1 => exact uC m0.out); (case side2 => exact HC0.out); rintro e w' ⟨rfl, ⟨nd, rfl⟩⟩; refine ⟨_, rfl, ?_⟩) | ((with_reducible refine J_ (f := 55) rfl ?_); refine gL_ (some 32) Tryz.func55 #[.int .i64 b0, .int .i64 a2, .int .i64 a3] ?_; (with_reducible refine (spec_l01In.calls b0 a2 a3 false _ A12.out).mono ?_); rintro e w' ⟨rfl, ⟨nd, rfl⟩⟩; refine ⟨_, rfl, ?_⟩))
        go_roundg k2
        case measure => have := HJ4.out; have := HK2.out; omega
        case rel => exact ⟨(n0), (wrap64 (a0 + 1)), ev_, ev_, H', ⟨by have := HJ4.out; have := HK2.out; omega⟩, by repeat (first | exact R_ _ | apply Q_)⟩
      ·rw [I_ e0] at H; have t0 := K_ e0; clear e0; obtain rfl := F_ H; go_wp2; go_ret; exact ⟨by first | rfl | (simp; done) | (simp [*]; done), by repeat (first | exact R_ _ | apply Q_)⟩

/-! ### spec_SwapsAt: function 25 -/
def spec_SwapsAt.f (k : Nat) (l0 : List (S43)) (a1 : Int) : Option (Int) := (spec_l12Count.f k l0 a1 2 2).bind fun a0 => (some (wrap64 (Int.tdiv a0 2)))
set_option maxHeartbeats 8000000 in
set_option maxRecDepth 100000 in
theorem spec_SwapsAt.calls (k : Nat) (A0 : Option Addr) (c0 : Nat) (l0 : List (S43)) (a1 : Int) (r : Int) (w : World) (hr0 : Kd.C k43 w A0 l0.length l0) (hc0 : l0.length ≤ c0) (h : spec_SwapsAt.f k l0 a1 = some r) :
  Calls Tryz.prog 25 #[.slice A0 l0.length c0, .int .i64 a1] w fun e w' => e = .returned (.int .i64 r) ∧ Drawn0 w w' := by
 have b0 := B_ hr0; have HC0 := B_ hc0; clear hr0 hc0; have H : ((spec_l12Count.f k l0 a1 2 2).bind fun a0 => (some (wrap64 (Int.tdiv a0 2)))) = some r := h; clear h; obtain ⟨a0, A3, H⟩ := ob_ H; obtain rfl := F_ H; go_enter Tryz.func25, Tryz.ntmps25; go_wp2_with (first | ((with_reducible refine J_ (f := 56) rfl ?_); refine gL_ (some 7) Tryz.func56 #[.slice A0 l0.length c0, .int .i64 a1, .int .i64 2, .int .i64 2] ?_; (with_reducible refine (spec_l12Count.calls k _ _ l0 a1 2 2 a0 _ ?side1 ?side2 A3.out).mono ?_); (case side1 => exact uC b0.out); (case side2 => exact HC0.out); rintro e w' ⟨rfl, ⟨nd, rfl⟩⟩; refine ⟨_, rfl, ?_⟩))
 go_ret; exact ⟨by first | rfl | (simp; done) | (simp [*]; done), by repeat (first | exact R_ _ | apply Q_)⟩

/-! ### spec_RingsAt: function 26 -/
def spec_RingsAt.f (k : Nat) (l0 : List (S43)) (a1 : Int) : Option (Int) := (spec_l12Count.f k l0 a1 3 10).bind fun a0 => (some a0)
set_option maxHeartbeats 8000000 in
set_option maxRecDepth 100000 in
theorem spec_RingsAt.calls (k : Nat) (A0 : Option Addr) (c0 : Nat) (l0 : List (S43)) (a1 : Int) (r : Int) (w : World) (hr0 : Kd.C k43 w A0 l0.length l0) (hc0 : l0.length ≤ c0) (h : spec_RingsAt.f k l0 a1 = some r) :
  Calls Tryz.prog 26 #[.slice A0 l0.length c0, .int .i64 a1] w fun e w' => e = .returned (.int .i64 r) ∧ Drawn0 w w' := by
 have b0 := B_ hr0; have HC0 := B_ hc0; clear hr0 hc0; have H : ((spec_l12Count.f k l0 a1 3 10).bind fun a0 => (some a0)) = some r := h; clear h; obtain ⟨a0, A3, H⟩ := ob_ H; obtain rfl := F_ H; go_enter Tryz.func26, Tryz.ntmps26; go_wp2_with (first | ((with_reducible refine J_ (f := 56) rfl ?_); refine gL_ (some 7) Tryz.func56 #[.slice A0 l0.length c0, .int .i64 a1, .int .i64 3, .int .i64 10] ?_; (with_reducible refine (spec_l12Count.calls k _ _ l0 a1 3 10 a0 _ ?side1 ?side2 A3.out).mono ?_); (case side1 => exact uC b0.out); (case side2 => exact HC0.out); rintro e w' ⟨rfl, ⟨nd, rfl⟩⟩; refine ⟨_, rfl, ?_⟩))
 go_ret; exact ⟨by first | rfl | (simp; done) | (simp [*]; done), by repeat (first | exact R_ _ | apply Q_)⟩

/-! ### spec_Crossings: function 9 -/
def spec_Crossings.l0 : Nat → List (S43) → Int → Int → Option (Int)
 | 0, _, _, _ => none
 | k + 1, x0, x3, x4 => if 0 < (x0.length : Int) then (if (wrap64 (x4 + 1)) < (((rd_T43 x0 0).f0).length : Int) then ((spec_SwapsAt.f k x0 x4).bind fun o0 => ((spec_RingsAt.f k x0 x4).bind fun p0 => (spec_Crossings.l0 k x0 (wrap64 ((wrap64 (x3 + (wrap64 (2 * o0)))) + p0)) (wrap64 (x4 + 1))))) else (some x3)) else (none)
def spec_Crossings.f (k : Nat) (l0 : List (S43)) : Option (Int) := (spec_l13Ok.f k l0).bind fun g0 => (if g0 = true then (spec_Crossings.l0 k l0 0 0) else (some (-1)))
set_option maxHeartbeats 8000000 in
set_option maxRecDepth 100000 in
theorem spec_Crossings.calls (k : Nat) (A0 : Option Addr) (c0 : Nat) (l0 : List (S43)) (r : Int) (w : World) (hr0 : Kd.C k43 w A0 l0.length l0) (hc0 : l0.length ≤ c0) (h : spec_Crossings.f k l0 = some r) :
  Calls Tryz.prog 9 #[.slice A0 l0.length c0] w fun e w' => e = .returned (.int .i64 r) ∧ Drawn0 w w' := by
 have e0 := B_ hr0; have HC0 := B_ hc0; clear hr0 hc0; have H : ((spec_l13Ok.f k l0).bind fun g0 => (if g0 = true then (spec_Crossings.l0 k l0 0 0) else (some (-1)))) = some r := h; clear h; obtain ⟨g0, A2, H⟩ := ob_ H; by_cases c3 : g0 = true
 ·subst c3; rw [G_ rfl] at H; have H' := B_ H; clear H; go_enter Tryz.func9, Tryz.ntmps9; go_wp2_with (first | ((with_reducible refine J_ (f := 24) rfl ?_); refine gL_ (some 6) Tryz.func24 #[.slice A0 l0.length c0] ?_; (with_reducible refine (spec_l13Ok.calls k _ _ l0 true _ ?side1 ?side2 A2.out).mono ?_); (case side1 => exact uC e0.out); (case side2 => exact HC0.out); rintro e w' ⟨rfl, ⟨nd, rfl⟩⟩; refine ⟨_, rfl, ?_⟩))
  go_loopg [3, 4] k (fun kq v3 v4 w' => ∃ (q0 : Int) (a0 : Int), v3 = .int .i64 q0 ∧ v4 = .int .i64 a0 ∧ Aside0 (spec_Crossings.l0 kq l0 q0 a0 = some r) ∧ Aside0 (kq ≤ k) ∧ Drawn0 w w')
  case atStart => exact ⟨(0), (0), ev_, ev_, H', ⟨N_ _⟩, by repeat (first | exact R_ _ | apply Q_)⟩
  case round =>
   clear H'; (try clear c2); (try clear p2); (try clear c3); obtain ⟨q0, a0, rfl, rfl, HA, HK1, ⟨m1, rfl⟩⟩ := hrel
   cases gk with
   | zero => exact absurd HA.out (by simp [spec_Crossings.l0])
   | succ k1 =>
    have H := HA.out; clear HA; simp only [spec_Crossings.l0] at H; by_cases c4 : 0 < (l0.length : Int)
    ·rw [G_ c4] at H; have z0 := C_ c4; have C0 : decide (0 < l0.length) = true := C_ (by omega); clear c4; by_cases c5 : (wrap64 (a0 + 1)) < (((rd_T43 l0 0).f0).length : Int)
     ·rw [G_ c5] at H; have t0 := C_ c5; clear c5; obtain ⟨o0, A6, H⟩ := ob_ H; obtain ⟨p0, A7, H⟩ := ob_ H; have H' := B_ H; clear H; have b0 : 0 ≤ (0 : Int) := (by omega); have d0 : 0 < (l0.length : Int) := od_; obtain ⟨r0, u0, v0, s0, j0, m0, n0⟩ := at_T43 e0.out 0 b0 d0
      cases s0; have qi545 : (0 < l0.length) = True := E_ (by omega); (try rw [show ((0 : Int)).toNat = 0 from rfl] at j0); (try rw [Addr.add_zero'] at j0); have y0 := B_ n0; have HC545_0 := B_ m0; clear n0 m0; replace b0 := E_ b0; replace d0 := E_ d0; go_wp2_with (first | ((with_reducible refine J_ (f := 25) rfl ?_); refine gL_ (some 21) Tryz.func25 #[.slice (some r0) l0.length c0, .int .i64 a0] ?_; (with_reducible refine (spec_SwapsAt.calls k1 _ _ l0 a0 o0 _ ?side1 ?side2 A6.out).mono ?_); (case side1 => exact uC e0.out); (case side2 => exact HC0.out); rintro e w' ⟨rfl, ⟨nd, rfl⟩⟩; refine ⟨_, rfl, ?_⟩) | ((with_reducible refine J_ (f := 26) rfl ?_); refine gL_ (some 26) Tryz.func26 #[.slice (some r0) l0.length c0, .int .i64 a0] ?_; (with_reducible refine (spec_RingsAt.calls k1 _ _ l0 a0 p0 _ ?side1 ?side2 A7.out).mono ?_); (case side1 => exact uC e0.out); (case side2 => exact HC0.out); rintro e w' ⟨rfl, ⟨nd, rfl⟩⟩; refine ⟨_, rfl, ?_⟩))
      go_roundg k1
      case measure => have := HK1.out; omega
      case rel => exact ⟨(wrap64 ((wrap64 (q0 + (wrap64 (2 * o0)))) + p0)), (wrap64 (a0 + 1)), ev_, ev_, H', ⟨by have := HK1.out; omega⟩, by repeat (first | exact R_ _ | apply Q_)⟩
     ·rw [I_ c5] at H; have t0 := K_ c5; clear c5; obtain rfl := F_ H; have b0 : 0 ≤ (0 : Int) := (by omega); have d0 : 0 < (l0.length : Int) := od_; obtain ⟨r0, u0, v0, s0, j0, m0, n0⟩ := at_T43 e0.out 0 b0 d0
      cases s0; have qi545 : (0 < l0.length) = True := E_ (by omega); (try rw [show ((0 : Int)).toNat = 0 from rfl] at j0); (try rw [Addr.add_zero'] at j0); have y0 := B_ n0; have HC545_0 := B_ m0; clear n0 m0; replace b0 := E_ b0; replace d0 := E_ d0; go_wp2; go_ret; exact ⟨by first | rfl | (simp; done) | (simp [*]; done), by repeat (first | exact R_ _ | apply Q_)⟩
    ·rw [I_ c4] at H; exact absurd H (by simp)
 ·replace c3 := L_ c3; subst c3; rw [I_ (show ¬ (false = true) by decide)] at H; obtain rfl := F_ H; go_enter Tryz.func9, Tryz.ntmps9; go_wp2_with (first | ((with_reducible refine J_ (f := 24) rfl ?_); refine gL_ (some 6) Tryz.func24 #[.slice A0 l0.length c0] ?_; (with_reducible refine (spec_l13Ok.calls k _ _ l0 false _ ?side1 ?side2 A2.out).mono ?_); (case side1 => exact uC e0.out); (case side2 => exact HC0.out); rintro e w' ⟨rfl, ⟨nd, rfl⟩⟩; refine ⟨_, rfl, ?_⟩))
  go_ret; exact ⟨by first | rfl | (simp; done) | (simp [*]; done), by repeat (first | exact R_ _ | apply Q_)⟩

/-! ### laws_sameInts: function 57 -/
def laws_sameInts.l0 : Nat → List Int → List Int → Int → Option (Bool)
 | 0, _, _, _ => none
 | k + 1, x0, x1, x5 => if x5 < (x0.length : Int) then (if 0 ≤ x5 then (if x5 < (x1.length : Int) then (if (rd x0 x5) = (rd x1 x5) then (laws_sameInts.l0 k x0 x1 (wrap64 (x5 + 1))) else (some false)) else (none)) else (none)) else (some true)
def laws_sameInts.f (k : Nat) (l0 : List Int) (l1 : List Int) : Option (Bool) := if (l0.length : Int) = (l1.length : Int) then (laws_sameInts.l0 k l0 l1 0) else (some false)
set_option maxHeartbeats 8000000 in
set_option maxRecDepth 100000 in
theorem laws_sameInts.calls (k : Nat) (A0 : Option Addr) (c0 : Nat) (l0 : List Int) (A1 : Option Addr) (c1 : Nat) (l1 : List Int) (r : Bool) (w : World) (hr0 : Kd.C (Kd.int .i64) w A0 l0.length l0) (hc0 : l0.length ≤ c0) (hr1 : Kd.C (Kd.int .i64) w A1 l1.length l1) (hc1 : l1.length ≤ c1) (h : laws_sameInts.f k l0 l1 = some r) :
  Calls Tryz.prog 57 #[.slice A0 l0.length c0, .slice A1 l1.length c1] w fun e w' => e = .returned (.bool r) ∧ Drawn0 w w' := by
 have n0 := B_ hr0; have HC0 := B_ hc0; clear hr0 hc0; have o0 := B_ hr1; have HC1 := B_ hc1; clear hr1 hc1; have H : (if (l0.length : Int) = (l1.length : Int) then (laws_sameInts.l0 k l0 l1 0) else (some false)) = some r := h; clear h; by_cases c3 : (l0.length : Int) = (l1.length : Int)
 ·rw [G_ c3] at H; have p0 := D__ c3; have q0 := T_ c3; have r0 : (l0.length == l1.length) = true := by first | simpa using c3 | (simp at c3 ⊢; omega)
  clear c3; have H' := B_ H; clear H; go_enter Tryz.func57, Tryz.ntmps57; go_wp2
  repeat (go_quiet (fail); try go_wp2)
  go_loopg [5] k (fun kq v5 w' => ∃ (a0 : Int), v5 = .int .i64 a0 ∧ Aside0 (laws_sameInts.l0 kq l0 l1 a0 = some r) ∧ Aside0 (kq ≤ k) ∧ Drawn0 w w')
  case atStart => exact ⟨(0), ev_, H', ⟨N_ _⟩, by repeat (first | exact R_ _ | apply Q_)⟩
  case round =>
   clear H'; (try clear c1); (try clear p2); (try clear c3); (try clear p0); (try clear q0); (try clear r0); obtain ⟨a0, rfl, HA, HK1, ⟨m1, rfl⟩⟩ := hrel
   cases gk with
   | zero => exact absurd HA.out (by simp [laws_sameInts.l0])
   | succ k1 =>
    have H := HA.out; clear HA; simp only [laws_sameInts.l0] at H; by_cases c4 : a0 < (l0.length : Int)
    ·rw [G_ c4] at H; have s0 := C_ c4; clear c4; by_cases c5 : 0 ≤ a0
     ·rw [G_ c5] at H; have D0 := C_ c5; clear c5; by_cases c6 : a0 < (l1.length : Int)
      ·rw [G_ c6] at H; have E0 := C_ c6; clear c6; by_cases c7 : (rd l0 a0) = (rd l1 a0)
       ·rw [G_ c7] at H; have t0 := D__ c7; have u0 := T_ c7; clear c7; have H' := B_ H; clear H; have b0 : 0 ≤ (a0 : Int) := od_; have d0 : a0 < (l0.length : Int) := od_; obtain ⟨v0, j0, y0⟩ := U_ n0.out a0 b0 d0
        cases j0; replace b0 := E_ b0; replace d0 := E_ d0; have e0 : 0 ≤ (a0 : Int) := od_; have g0 : a0 < (l1.length : Int) := od_; obtain ⟨z0, m0, C0⟩ := U_ o0.out a0 e0 g0
        cases m0; replace e0 := E_ e0; replace g0 := E_ g0; go_wp2
        repeat (go_quiet (fail); try go_wp2)
        go_roundg k1
        case measure => have := HK1.out; omega
        case rel => exact ⟨(wrap64 (a0 + 1)), ev_, H', ⟨by have := HK1.out; omega⟩, by repeat (first | exact R_ _ | apply Q_)⟩
       ·rw [I_ c7] at H; have t0 := P_ c7; have u0 := B__ c7; obtain rfl := F_ H; have b0 : 0 ≤ (a0 : Int) := od_; have d0 : a0 < (l0.length : Int) := od_; obtain ⟨v0, j0, y0⟩ := U_ n0.out a0 b0 d0
        cases j0; replace b0 := E_ b0; replace d0 := E_ d0; have e0 : 0 ≤ (a0 : Int) := od_; have g0 : a0 < (l1.length : Int) := od_; obtain ⟨z0, m0, C0⟩ := U_ o0.out a0 e0 g0
        cases m0; replace e0 := E_ e0; replace g0 := E_ g0; go_wp2
        repeat (go_quiet (fail); try go_wp2)
        go_ret; exact ⟨by first | rfl | (simp; done) | (simp [*]; done), by repeat (first | exact R_ _ | apply Q_)⟩
      ·rw [I_ c6] at H; exact absurd H (by simp)
     ·rw [I_ c5] at H; exact absurd H (by simp)
    ·rw [I_ c4] at H; have s0 := K_ c4; clear c4; obtain rfl := F_ H; go_wp2
     repeat (go_quiet (fail); try go_wp2)
     go_ret; exact ⟨by first | rfl | (simp; done) | (simp [*]; done), by repeat (first | exact R_ _ | apply Q_)⟩
 ·rw [I_ c3] at H; have p0 := P_ c3; have q0 := B__ c3; have r0 : (l0.length == l1.length) = false := by first | simpa using c3 | (simp at c3 ⊢; omega)
  obtain rfl := F_ H; go_enter Tryz.func57, Tryz.ntmps57; go_wp2
  repeat (go_quiet (fail); try go_wp2)
  go_ret; exact ⟨by first | rfl | (simp; done) | (simp [*]; done), by repeat (first | exact R_ _ | apply Q_)⟩

/-! ### laws_sameWay: function 27 -/
def laws_sameWay.f (k : Nat) (a0 : List Int) (b0 : List Int) : Option (Bool) := (laws_sameInts.f k a0 b0).bind fun c0 => (some c0)
set_option maxHeartbeats 8000000 in
set_option maxRecDepth 100000 in
theorem laws_sameWay.calls (k : Nat) (e0 : Option Addr) (g0 : Nat) (a0 : List Int) (j0 : Option Addr) (l0 : Nat) (b0 : List Int) (r : Bool) (w : World) (hr0_0 : Kd.C (Kd.int .i64) w e0 a0.length a0) (hc0_0 : a0.length ≤ g0) (hr1_0 : Kd.C (Kd.int .i64) w j0 b0.length b0) (hc1_0 : b0.length ≤ l0) (h : laws_sameWay.f k a0 b0 = some r) :
  Calls Tryz.prog 27 #[.agg #[.slice e0 a0.length g0], .agg #[.slice j0 b0.length l0]] w fun e w' => e = .returned (.bool r) ∧ Below w.heap.size w w' := by
 have hu43 := Tryz.underlying43; have m0 := B_ hr0_0; have HC0_0 := B_ hc0_0; clear hr0_0 hc0_0; have n0 := B_ hr1_0; have HC1_0 := B_ hc1_0; clear hr1_0 hc1_0; have HB := B_ (A__ w.heap.size w); have H : ((laws_sameInts.f k a0 b0).bind fun c0 => (some c0)) = some r := h; clear h; obtain ⟨c0, A3, H⟩ := ob_ H; obtain rfl := F_ H; go_enter Tryz.func27, Tryz.ntmps27; go_wp2_with (first | ((with_reducible refine Y_ (N := 2) rfl ?_); refine be_ (N := 2) (cs := #[.slice e0 a0.length g0]) (t := 43) ?_; intro o0 hg w4 hbox hb; have d0 := B_ (hbox); have t0 := B_ ((by rw [hg]; exact (H_ (uB HB.out)) : w.heap.size ≤ o0)); have u0 := ge_ hg HB; replace HB := hB_ HB hb; clear hb hbox hg) | ((with_reducible refine Y_ (N := 3) rfl ?_); refine be_ (N := 3) (cs := #[.slice j0 b0.length l0]) (t := 43) ?_; intro p0 hg w5 hbox hb; have q0 := B_ (hbox); have v0 := B_ ((by rw [hg]; exact (H_ (uB HB.out)) : w.heap.size ≤ p0)); have x0 := ge_ hg HB; replace HB := hB_ HB hb; have r0 := nl_ hg d0; have s0 := nr_ hg d0; replace d0 := kb_ d0 hb; clear hb hbox hg; have y0 := r0.out; have z0 := s0.out; have A0 := bx1 d0.out; have C0 := bx1 q0.out) | ((with_reducible refine J_ (f := 57) rfl ?_); refine gL_ (some 9) Tryz.func57 #[.slice e0 a0.length g0, .slice j0 b0.length l0] ?_; (with_reducible refine (laws_sameInts.calls k _ _ a0 _ _ b0 c0 _ ?side1 ?side2 ?side3 ?side4 A3.out).mono ?_); (case side1 => exact cu_ m0 HB); (case side2 => exact HC0_0.out); (case side3 => exact cu_ n0 HB); (case side4 => exact HC1_0.out); rintro e w' ⟨rfl, ⟨nd, rfl⟩⟩; refine ⟨_, rfl, ?_⟩))
 go_ret; exact ⟨ew_, uB HB.out⟩

/-! ### laws_sameWays: function 10 -/
def laws_sameWays.l0 : Nat → List (S43) → List (S43) → Int → Option (Bool)
 | 0, _, _, _ => none
 | k + 1, x0, x1, x5 => if x5 < (x0.length : Int) then (if 0 ≤ x5 then (if x5 < (x1.length : Int) then ((laws_sameWay.f k ((rd_T43 x0 x5).f0) ((rd_T43 x1 x5).f0)).bind fun D0 => (if D0 = true then (laws_sameWays.l0 k x0 x1 (wrap64 (x5 + 1))) else (some false))) else (none)) else (none)) else (some true)
def laws_sameWays.f (k : Nat) (l0 : List (S43)) (l1 : List (S43)) : Option (Bool) := if (l0.length : Int) = (l1.length : Int) then (laws_sameWays.l0 k l0 l1 0) else (some false)
def laws_sameWays.T6 : Bool × List (List Nat × List Nat) := (true, [([], []), ([], []), ([0, 1], [0, 1]), ([2], [2]), ([], []), ([], []), ([4, 5], [4, 5]), ([6], [6]), ([3, 7], [3, 7]), ([8], [8])])
def laws_sameWays.B6 : List Nat := [0, 0, 3, 7, 0, 0, 48, 112, 255, 511]
theorem laws_sameWays.tab6 : rtab .any (opsOf Tryz.f10 6) = laws_sameWays.T6 := by kernel_rfl
theorem laws_sameWays.bits6 : waitsOk laws_sameWays.T6.2 laws_sameWays.B6 = true := by kernel_rfl
set_option maxHeartbeats 8000000 in
set_option maxRecDepth 100000 in
theorem laws_sameWays.calls (k : Nat) (A0 : Option Addr) (c0 : Nat) (l0 : List (S43)) (A1 : Option Addr) (c1 : Nat) (l1 : List (S43)) (r : Bool) (w : World) (hr0 : Kd.C k43 w A0 l0.length l0) (hc0 : l0.length ≤ c0) (hr1 : Kd.C k43 w A1 l1.length l1) (hc1 : l1.length ≤ c1) (h : laws_sameWays.f k l0 l1 = some r) :
  Calls Tryz.prog 10 #[.slice A0 l0.length c0, .slice A1 l1.length c1] w fun e w' => e = .returned (.bool r) ∧ Below w.heap.size w w' := by
 have hu43 := Tryz.underlying43; have M0 := B_ hr0; have HC0 := B_ hc0; clear hr0 hc0; have N0 := B_ hr1; have HC1 := B_ hc1; clear hr1 hc1; have HB := B_ (A__ w.heap.size w); have H : (if (l0.length : Int) = (l1.length : Int) then (laws_sameWays.l0 k l0 l1 0) else (some false)) = some r := h; clear h; by_cases c3 : (l0.length : Int) = (l1.length : Int)
 ·rw [G_ c3] at H; have O0 := D__ c3; have P0 := T_ c3; have Q0 : (l0.length == l1.length) = true := by first | simpa using c3 | (simp at c3 ⊢; omega)
  clear c3; have H' := B_ H; clear H; go_enter Tryz.func10, Tryz.ntmps10; go_wp2; go_loopg [5] k (fun kq v5 w' => ∃ (a0 : Int), v5 = .int .i64 a0 ∧ Aside0 (laws_sameWays.l0 kq l0 l1 a0 = some r) ∧ Aside0 (kq ≤ k) ∧ Aside0 (Below w.heap.size w w'))
  case atStart => exact ⟨(0), ev_, H', ⟨N_ _⟩, ⟨uB HB.out⟩⟩
  case round =>
   clear H'; (try clear c1); (try clear p2); (try clear c3); (try clear O0); (try clear P0); (try clear Q0); obtain ⟨a0, rfl, HA, HK1, HB⟩ := hrel
   cases gk with
   | zero => exact absurd HA.out (by simp [laws_sameWays.l0])
   | succ k1 =>
    have H := HA.out; clear HA; simp only [laws_sameWays.l0] at H; by_cases c4 : a0 < (l0.length : Int)
    ·rw [G_ c4] at H; have R0 := C_ c4; clear c4; by_cases c5 : 0 ≤ a0
     ·rw [G_ c5] at H; have U0 := C_ c5; clear c5; by_cases c6 : a0 < (l1.length : Int)
      ·rw [G_ c6] at H; have V0 := C_ c6; clear c6; obtain ⟨D0, A7, H⟩ := ob_ H; by_cases c8 : D0 = true
       ·subst c8; rw [G_ rfl] at H; have H' := B_ H; clear H
        try go_wp2
        replace HB := B_ (below_drew1 HB.out); have j0 : 0 ≤ (a0 : Int) := od_; have m0 : a0 < (l0.length : Int) := od_; obtain ⟨E0, p0, q0, G0, b0, r0, s0⟩ := at_T43 M0.out a0 j0 m0; have e0 := b0
        cases G0; replace b0 := (HB.out.cell (D_ w _ b0)).trans b0; have t0 := B_ s0; have HC553_0 := B_ r0; clear s0 r0; replace j0 := E_ j0; replace m0 := E_ m0; have n0 : 0 ≤ (a0 : Int) := od_; have o0 : a0 < (l1.length : Int) := od_; obtain ⟨J0, u0, v0, L0, d0, y0, z0⟩ := at_T43 N0.out a0 n0 o0; have g0 := d0
        cases L0; replace d0 := (HB.out.cell (D_ w _ d0)).trans d0; have C0 := B_ z0; have HC554_0 := B_ y0; clear z0 y0; replace n0 := E_ n0; replace o0 := E_ o0; refine start_ (n := 10) (S := fun w' => w'.cell? (E0.add (a0).toNat) = some (.slice p0 ((rd_T43 l0 a0).f0).length q0) ∧ w'.cell? (J0.add (a0).toNat) = some (.slice u0 ((rd_T43 l1 a0).f0).length v0)) (ds := []) (bs_ 10 0) (by kernel_rfl) rfl rfl ⟨((HB.out.cell (D_ w _ e0)).trans e0), ((HB.out.cell (D_ w _ g0)).trans g0)⟩ (fun hHeld => ?_); refine with_tabW laws_sameWays.tab6 laws_sameWays.bits6 (fun HT_ HW_ => ?_); generalize wr.drew = w9 at HB t0 C0 b0 d0 hHeld ⊢; refine pq_ 0 17 10 1 HT_ ?_; refine pq_ 1 18 10 3 HT_ ?_; refine pq_ 2 19 10 7 HT_ ?_; refine pq_ 4 21 10 23 HT_ ?_; refine pq_ 5 22 10 55 HT_ ?_; refine pq_ 6 23 10 119 HT_ ?_; refine tq_ 3 20 10 127 HT_ HW_ hHeld ?_; refine tq_ 7 24 10 255 HT_ HW_ hHeld ?_; refine on_ 8 25 10 511 HT_ (fun K hK => ?_); refine gO_ Tryz.func27 #[.agg #[.slice p0 ((rd_T43 l0 a0).f0).length q0], .agg #[.slice u0 ((rd_T43 l1 a0).f0).length v0]] ?_
        with_reducible refine (laws_sameWay.calls k1 _ _ ((rd_T43 l0 a0).f0) _ _ ((rd_T43 l1 a0).f0) true _ ?side1 ?side2 ?side3 ?side4 A7.out).mono ?_
        (case side1 => exact cu_ t0 HB)
        (case side2 => exact HC553_0.out)
        (case side3 => exact cu_ C0 HB)
        (case side4 => exact HC554_0.out)
        rintro e X0 ⟨rfl, hb⟩; refine ⟨_, rfl, ?_⟩; replace HB := hB_ HB hb; (try clear hb); refine hK.out _ _ ⟨((HB.out.cell (D_ w _ e0)).trans e0), ((HB.out.cell (D_ w _ g0)).trans g0)⟩ (fun hHeld => ?_); clear hK K; refine norm_ (a' := ?_) ?_ ?_; rotate_left
        ·show Act.put _ (some 25) _ = _
         simp only [Act.put, pt_]
         rfl
        refine pq_ 9 26 10 1023 HT_ ?_; refine done_ (done_of HT_.out (by kernel_rfl)) ?_
        try go_wp2
        go_roundg k1
        case measure => have := HK1.out; omega
        case rel => exact ⟨(wrap64 (a0 + 1)), ev_, H', ⟨by have := HK1.out; omega⟩, ⟨uB HB.out⟩⟩
       ·replace c8 := L_ c8; subst c8; rw [I_ (show ¬ (false = true) by decide)] at H; obtain rfl := F_ H
        try go_wp2
        replace HB := B_ (below_drew1 HB.out); have j0 : 0 ≤ (a0 : Int) := od_; have m0 : a0 < (l0.length : Int) := od_; obtain ⟨E0, p0, q0, G0, b0, r0, s0⟩ := at_T43 M0.out a0 j0 m0; have e0 := b0
        cases G0; replace b0 := (HB.out.cell (D_ w _ b0)).trans b0; have t0 := B_ s0; have HC553_0 := B_ r0; clear s0 r0; replace j0 := E_ j0; replace m0 := E_ m0; have n0 : 0 ≤ (a0 : Int) := od_; have o0 : a0 < (l1.length : Int) := od_; obtain ⟨J0, u0, v0, L0, d0, y0, z0⟩ := at_T43 N0.out a0 n0 o0; have g0 := d0
        cases L0; replace d0 := (HB.out.cell (D_ w _ d0)).trans d0; have C0 := B_ z0; have HC554_0 := B_ y0; clear z0 y0; replace n0 := E_ n0; replace o0 := E_ o0; refine start_ (n := 10) (S := fun w' => w'.cell? (E0.add (a0).toNat) = some (.slice p0 ((rd_T43 l0 a0).f0).length q0) ∧ w'.cell? (J0.add (a0).toNat) = some (.slice u0 ((rd_T43 l1 a0).f0).length v0)) (ds := []) (bs_ 10 0) (by kernel_rfl) rfl rfl ⟨((HB.out.cell (D_ w _ e0)).trans e0), ((HB.out.cell (D_ w _ g0)).trans g0)⟩ (fun hHeld => ?_); refine with_tabW laws_sameWays.tab6 laws_sameWays.bits6 (fun HT_ HW_ => ?_); generalize wr.drew = Y0 at HB t0 C0 b0 d0 hHeld ⊢; refine pq_ 0 17 10 1 HT_ ?_; refine pq_ 1 18 10 3 HT_ ?_; refine pq_ 2 19 10 7 HT_ ?_; refine pq_ 4 21 10 23 HT_ ?_; refine pq_ 5 22 10 55 HT_ ?_; refine pq_ 6 23 10 119 HT_ ?_; refine tq_ 3 20 10 127 HT_ HW_ hHeld ?_; refine tq_ 7 24 10 255 HT_ HW_ hHeld ?_; refine on_ 8 25 10 511 HT_ (fun K hK => ?_); refine gO_ Tryz.func27 #[.agg #[.slice p0 ((rd_T43 l0 a0).f0).length q0], .agg #[.slice u0 ((rd_T43 l1 a0).f0).length v0]] ?_
        with_reducible refine (laws_sameWay.calls k1 _ _ ((rd_T43 l0 a0).f0) _ _ ((rd_T43 l1 a0).f0) false _ ?side1 ?side2 ?side3 ?side4 A7.out).mono ?_
        (case side1 => exact cu_ t0 HB)
        (case side2 => exact HC553_0.out)
        (case side3 => exact cu_ C0 HB)
        (case side4 => exact HC554_0.out)
        rintro e Z0 ⟨rfl, hb⟩; refine ⟨_, rfl, ?_⟩; replace HB := hB_ HB hb; (try clear hb); refine hK.out _ _ ⟨((HB.out.cell (D_ w _ e0)).trans e0), ((HB.out.cell (D_ w _ g0)).trans g0)⟩ (fun hHeld => ?_); clear hK K; refine norm_ (a' := ?_) ?_ ?_; rotate_left
        ·show Act.put _ (some 25) _ = _
         simp only [Act.put, pt_]
         rfl
        refine pq_ 9 26 10 1023 HT_ ?_; refine done_ (done_of HT_.out (by kernel_rfl)) ?_
        try go_wp2
        go_ret; exact ⟨ew_, uB HB.out⟩
      ·rw [I_ c6] at H; exact absurd H (by simp)
     ·rw [I_ c5] at H; exact absurd H (by simp)
    ·rw [I_ c4] at H; have R0 := K_ c4; clear c4; obtain rfl := F_ H; go_wp2; go_ret; exact ⟨ew_, uB HB.out⟩
 ·rw [I_ c3] at H; have O0 := P_ c3; have P0 := B__ c3; have Q0 : (l0.length == l1.length) = false := by first | simpa using c3 | (simp at c3 ⊢; omega)
  obtain rfl := F_ H; go_enter Tryz.func10, Tryz.ntmps10; go_wp2; go_ret; exact ⟨ew_, uB HB.out⟩

/-! ### slices_Equal_int_int: function 30 -/
def slices_Equal_int_int.l0 : Nat → List Int → List Int → Int → Int → Option (Bool)
 | 0, _, _, _, _ => none
 | k + 1, x0, x1, o0, b0 => if b0 < o0 then (if 0 ≤ b0 then (if b0 < (x0.length : Int) then (if b0 < (x1.length : Int) then (if (rd x0 b0) = (rd x1 b0) then (slices_Equal_int_int.l0 k x0 x1 o0 (wrap64 (b0 + 1))) else (some false)) else (none)) else (none)) else (none)) else (some true)
def slices_Equal_int_int.f (k : Nat) (l0 : List Int) (l1 : List Int) : Option (Bool) := if (l0.length : Int) = (l1.length : Int) then (slices_Equal_int_int.l0 k l0 l1 (l0.length : Int) 0) else (some false)
set_option maxHeartbeats 8000000 in
set_option maxRecDepth 100000 in
theorem slices_Equal_int_int.calls (k : Nat) (A0 : Option Addr) (c0 : Nat) (l0 : List Int) (A1 : Option Addr) (c1 : Nat) (l1 : List Int) (r : Bool) (w : World) (hr0 : Kd.C (Kd.int .i64) w A0 l0.length l0) (hc0 : l0.length ≤ c0) (hr1 : Kd.C (Kd.int .i64) w A1 l1.length l1) (hc1 : l1.length ≤ c1) (h : slices_Equal_int_int.f k l0 l1 = some r) :
  Calls Tryz.prog 30 #[.slice A0 l0.length c0, .slice A1 l1.length c1] w fun e w' => e = .returned (.bool r) ∧ Drawn0 w w' := by
 have p0 := B_ hr0; have HC0 := B_ hc0; clear hr0 hc0; have q0 := B_ hr1; have HC1 := B_ hc1; clear hr1 hc1; have H : (if (l0.length : Int) = (l1.length : Int) then (slices_Equal_int_int.l0 k l0 l1 (l0.length : Int) 0) else (some false)) = some r := h; clear h; by_cases c3 : (l0.length : Int) = (l1.length : Int)
 ·rw [G_ c3] at H; have r0 := D__ c3; have s0 := T_ c3; have t0 : (l0.length == l1.length) = true := by first | simpa using c3 | (simp at c3 ⊢; omega)
  clear c3; have H' := B_ H; clear H; go_enter Tryz.func30, Tryz.ntmps30; go_wp2
  repeat (go_quiet (fail); try go_wp2)
  go_loopg [13] k (fun kq v13 w' => ∃ (a0 : Int), v13 = .int .i64 a0 ∧ Aside0 (slices_Equal_int_int.l0 kq l0 l1 (l0.length : Int) a0 = some r) ∧ Aside0 (kq ≤ k) ∧ Drawn0 w w')
  case atStart => exact ⟨(0), ev_, H', ⟨N_ _⟩, by repeat (first | exact R_ _ | apply Q_)⟩
  case round =>
   clear H'; (try clear c1); (try clear p2); (try clear c3); (try clear r0); (try clear s0); (try clear t0); obtain ⟨a0, rfl, HA, HK1, ⟨m1, rfl⟩⟩ := hrel
   cases gk with
   | zero => exact absurd HA.out (by simp [slices_Equal_int_int.l0])
   | succ k1 =>
    have H := HA.out; clear HA; simp only [slices_Equal_int_int.l0] at H; by_cases c4 : a0 < (l0.length : Int)
    ·rw [G_ c4] at H; have u0 := C_ c4; clear c4; by_cases c5 : 0 ≤ a0
     ·rw [G_ c5] at H; have G0 := C_ c5; clear c5; by_cases c6 : a0 < (l0.length : Int)
      ·rw [G_ c6] at H; have J0 := C_ c6; clear c6; by_cases c7 : a0 < (l1.length : Int)
       ·rw [G_ c7] at H; have L0 := C_ c7; clear c7; by_cases c8 : (rd l0 a0) = (rd l1 a0)
        ·rw [G_ c8] at H; have v0 := D__ c8; have y0 := T_ c8; clear c8; have H' := B_ H; clear H; have d0 : 0 ≤ (a0 : Int) := od_; have e0 : a0 < (l0.length : Int) := od_; obtain ⟨z0, m0, C0⟩ := U_ p0.out a0 d0 e0
         cases m0; replace d0 := E_ d0; replace e0 := E_ e0; have g0 : 0 ≤ (a0 : Int) := od_; have j0 : a0 < (l1.length : Int) := od_; obtain ⟨D0, n0, E0⟩ := U_ q0.out a0 g0 j0
         cases n0; replace g0 := E_ g0; replace j0 := E_ j0; go_wp2
         repeat (go_quiet (fail); try go_wp2)
         go_roundg k1
         case measure => have := HK1.out; omega
         case rel => exact ⟨(wrap64 (a0 + 1)), ev_, H', ⟨by have := HK1.out; omega⟩, by repeat (first | exact R_ _ | apply Q_)⟩
        ·rw [I_ c8] at H; have v0 := P_ c8; have y0 := B__ c8; obtain rfl := F_ H; have d0 : 0 ≤ (a0 : Int) := od_; have e0 : a0 < (l0.length : Int) := od_; obtain ⟨z0, m0, C0⟩ := U_ p0.out a0 d0 e0
         cases m0; replace d0 := E_ d0; replace e0 := E_ e0; have g0 : 0 ≤ (a0 : Int) := od_; have j0 : a0 < (l1.length : Int) := od_; obtain ⟨D0, n0, E0⟩ := U_ q0.out a0 g0 j0
         cases n0; replace g0 := E_ g0; replace j0 := E_ j0; go_wp2
         repeat (go_quiet (fail); try go_wp2)
         go_ret; exact ⟨by first | rfl | (simp; done) | (simp [*]; done), by repeat (first | exact R_ _ | apply Q_)⟩
       ·rw [I_ c7] at H; exact absurd H (by simp)
      ·rw [I_ c6] at H; exact absurd H (by simp)
     ·rw [I_ c5] at H; exact absurd H (by simp)
    ·rw [I_ c4] at H; have u0 := K_ c4; clear c4; obtain rfl := F_ H; go_wp2
     repeat (go_quiet (fail); try go_wp2)
     go_ret; exact ⟨by first | rfl | (simp; done) | (simp [*]; done), by repeat (first | exact R_ _ | apply Q_)⟩
 ·rw [I_ c3] at H; have r0 := P_ c3; have s0 := B__ c3; have t0 : (l0.length == l1.length) = false := by first | simpa using c3 | (simp at c3 ⊢; omega)
  obtain rfl := F_ H; go_enter Tryz.func30, Tryz.ntmps30; go_wp2
  repeat (go_quiet (fail); try go_wp2)
  go_ret; exact ⟨by first | rfl | (simp; done) | (simp [*]; done), by repeat (first | exact R_ _ | apply Q_)⟩

end Go.Proofs.YtdebpmdbeogglaaGreat.Q
