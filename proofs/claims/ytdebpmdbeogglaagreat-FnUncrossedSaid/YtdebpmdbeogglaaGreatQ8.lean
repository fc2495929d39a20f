-- Written by a session's own program (wip/tools/myprint.py) over the kit's printer, out of the translation. Not trusted: Lean checks it.
import Derived.Test.YtdebpmdbeogglaaGreatQ0
import Derived.Test.YtdebpmdbeogglaaGreatQ7
-- squeezed
-- renamed
-- squeezed4
namespace Go.Proofs.YtdebpmdbeogglaaGreat.Q
open Go.RowKit Go.Proofs.YtdebpmdbeogglaaGreatW.PrintWords Go.Proofs.YtdebpmdbeogglaaGreatW.PrintLast Go.Proofs.YtdebpmdbeogglaaGreatW.PrintMore
attribute [local go_sem] max2_int min2_int max_two min_two max_three min_three max_four min_four   -- for this text's walks alone
set_option linter.unusedVariables false
set_option linter.unusedSimpArgs false

/-! ### impl_LevelWays: function 52 -/
def impl_LevelWays.f (l0 : List (S43)) (a1 : Int) : Option (Bool) := (impl_areLevel.f l0).bind fun a0 => (if a0 = true then (if a1 ≥ 0 then (if 0 < (l0.length : Int) then (some (decide (a1 < (wrap64 ((((rd_T43 l0 0).f0).length : Int) - 1))))) else (none)) else (some false)) else (some false))
set_option maxHeartbeats 8000000 in
set_option maxRecDepth 100000 in
theorem impl_LevelWays.calls (A0 : Option Addr) (c0 : Nat) (l0 : List (S43)) (a1 : Int) (r : Bool) (w : World) (hr0 : Kd.C k43 w A0 l0.length l0) (hc0 : l0.length ≤ c0) (h : impl_LevelWays.f l0 a1 = some r) :
  Calls Tryz.prog 52 #[.slice A0 l0.length c0, .int .i64 a1] w fun e w' => e = .returned (.bool r) ∧ Below w.heap.size w w' := by
 have d0 := B_ hr0; have HC0 := B_ hc0; clear hr0 hc0; have HB := B_ (A__ w.heap.size w); have H : ((impl_areLevel.f l0).bind fun a0 => (if a0 = true then (if a1 ≥ 0 then (if 0 < (l0.length : Int) then (some (decide (a1 < (wrap64 ((((rd_T43 l0 0).f0).length : Int) - 1))))) else (none)) else (some false)) else (some false))) = some r := h; clear h; obtain ⟨a0, A3, H⟩ := ob_ H; by_cases c4 : a0 = true
 ·subst c4; rw [G_ rfl] at H; by_cases c5 : a1 ≥ 0
  ·rw [G_ c5] at H; have n0 := C_ c5; clear c5; by_cases c6 : 0 < (l0.length : Int)
   ·rw [G_ c6] at H; have p0 := C_ c6; have q0 : decide (0 < l0.length) = true := C_ (by omega); clear c6; obtain rfl := F_ H; go_enter Tryz.func52, Tryz.ntmps52; go_wp2_with (first | ((with_reducible refine J_ (f := 50) rfl ?_); refine gL_ (some 6) Tryz.func50 #[.slice A0 l0.length c0] ?_; (with_reducible refine (impl_areLevel.calls _ _ l0 true _ ?side1 ?side2 A3.out).mono ?_); (case side1 => exact uC d0.out); (case side2 => exact HC0.out); rintro e w7 ⟨rfl, hb⟩; refine ⟨_, rfl, ?_⟩; replace HB := hB_ HB hb; (try clear hb); have e0 : 0 ≤ (0 : Int) := (by omega); have g0 : 0 < (l0.length : Int) := od_; obtain ⟨r0, s0, t0, o0, b0, j0, m0⟩ := at_T43 d0.out 0 e0 g0; cases o0; have qi419 : (0 < l0.length) = True := E_ (by omega); (try rw [show ((0 : Int)).toNat = 0 from rfl] at b0); (try rw [Addr.add_zero'] at b0); replace b0 := (HB.out.cell (D_ w _ b0)).trans b0; have u0 := B_ m0; have HC419_0 := B_ j0; clear m0 j0; replace e0 := E_ e0; replace g0 := E_ g0))
    go_ret; exact ⟨ew_, uB HB.out⟩
   ·rw [I_ c6] at H; exact absurd H (by simp)
  ·rw [I_ c5] at H; have n0 := K_ c5; clear c5; obtain rfl := F_ H; go_enter Tryz.func52, Tryz.ntmps52; go_wp2_with (first | ((with_reducible refine J_ (f := 50) rfl ?_); refine gL_ (some 6) Tryz.func50 #[.slice A0 l0.length c0] ?_; (with_reducible refine (impl_areLevel.calls _ _ l0 true _ ?side1 ?side2 A3.out).mono ?_); (case side1 => exact uC d0.out); (case side2 => exact HC0.out); rintro e w8 ⟨rfl, hb⟩; refine ⟨_, rfl, ?_⟩; replace HB := hB_ HB hb; (try clear hb)))
   go_ret; exact ⟨ew_, uB HB.out⟩
 ·replace c4 := L_ c4; subst c4; rw [I_ (show ¬ (false = true) by decide)] at H; obtain rfl := F_ H; go_enter Tryz.func52, Tryz.ntmps52; go_wp2_with (first | ((with_reducible refine J_ (f := 50) rfl ?_); refine gL_ (some 6) Tryz.func50 #[.slice A0 l0.length c0] ?_; (with_reducible refine (impl_areLevel.calls _ _ l0 false _ ?side1 ?side2 A3.out).mono ?_); (case side1 => exact uC d0.out); (case side2 => exact HC0.out); rintro e w9 ⟨rfl, hb⟩; refine ⟨_, rfl, ?_⟩; replace HB := hB_ HB hb; (try clear hb)))
  go_ret; exact ⟨ew_, uB HB.out⟩

/-! ### impl_meets: function 63 -/
mutual
def impl_meets.l0 : Nat → List (S43) → Int → Int → Int → Option (Bool)
 | 0, _, _, _, _ => none
 | k + 1, x0, x1, x8, x9 => if x9 < x8 then (if 0 ≤ x9 then (if x9 ≤ (x0.length : Int) then (impl_meets.l1 k x0 x1 x9 x8 x9 ((x0.take (x9 : Int).toNat).length : Int) 0) else (none)) else (none)) else (some false)
def impl_meets.l1 : Nat → List (S43) → Int → Int → Int → Int → Int → Int → Option (Bool)
 | 0, _, _, _, _, _, _, _ => none
 | k + 1, x0, x1, x5, x8, x9, V0, r0 => if r0 < V0 then (if 0 ≤ x5 then (if x5 < (x0.length : Int) then (if 0 ≤ x1 then (if x1 < (((rd_T43 x0 x5).f0).length : Int) then (if 0 ≤ r0 then (if r0 < (x0.length : Int) then (if x1 < (((rd_T43 x0 r0).f0).length : Int) then (if (rd ((rd_T43 x0 x5).f0) x1) = (rd ((rd_T43 x0 r0).f0) x1) then (some true) else (impl_meets.l1 k x0 x1 x5 x8 x9 V0 (wrap64 (r0 + 1)))) else (none)) else (none)) else (none)) else (none)) else (none)) else (none)) else (none)) else (impl_meets.l0 k x0 x1 x8 (wrap64 (x9 + 1)))
end
def impl_meets.f (k : Nat) (l0 : List (S43)) (a1 : Int) : Option (Bool) := impl_meets.l0 k l0 a1 (l0.length : Int) 0
set_option maxHeartbeats 8000000 in
set_option maxRecDepth 100000 in
theorem impl_meets.calls (k : Nat) (A0 : Option Addr) (c0 : Nat) (l0 : List (S43)) (a1 : Int) (r : Bool) (w : World) (hr0 : Kd.C k43 w A0 l0.length l0) (hc0 : l0.length ≤ c0) (h : impl_meets.f k l0 a1 = some r) :
  Calls Tryz.prog 63 #[.slice A0 l0.length c0, .int .i64 a1] w fun e w' => e = .returned (.bool r) ∧ Drawn0 w w' := by
 have s0 := B_ hr0; have HC0 := B_ hc0; clear hr0 hc0; have H : (impl_meets.l0 k l0 a1 (l0.length : Int) 0) = some r := h; clear h; have H' := B_ H; clear H; go_enter Tryz.func63, Tryz.ntmps63; go_wp2
 repeat (go_quiet (fail); try go_wp2)
 go_loopg [9] k (fun kq v9 w' => ∃ (a0 : Int), v9 = .int .i64 a0 ∧ Aside0 (impl_meets.l0 kq l0 a1 (l0.length : Int) a0 = some r) ∧ Aside0 (kq ≤ k) ∧ Drawn0 w w')
 case atStart => exact ⟨(0), ev_, H', ⟨N_ _⟩, by repeat (first | exact R_ _ | apply Q_)⟩
 case round =>
  clear H'; (try clear p2); obtain ⟨a0, rfl, HA, HK1, ⟨m1, rfl⟩⟩ := hrel
  cases gk with
  | zero => exact absurd HA.out (by simp [impl_meets.l0])
  | succ k1 =>
   have H := HA.out; clear HA; simp only [impl_meets.l0] at H; by_cases c3 : a0 < (l0.length : Int)
   ·rw [G_ c3] at H; have X0 := C_ c3; clear c3; by_cases c4 : 0 ≤ a0
    ·rw [G_ c4] at H; have Z0 := E_ c4; have b1 := C_ c4; clear c4; by_cases c5 : a0 ≤ (l0.length : Int)
     ·rw [G_ c5] at H; have c1 := E_ c5; have d1 := C_ c5; clear c5; obtain ⟨t0, hy_⟩ : ∃ y_ : List (S43), y_ = (l0.take (a0 : Int).toNat) := ⟨_, rfl⟩; replace H : (impl_meets.l1 k1 l0 a1 a0 (l0.length : Int) a0 (t0.length : Int) 0) = some r := hz_
      have Y0 := B_ hy_; clear hy_; have H' := B_ H; clear H; have q6 : (a0 : Int) ≤ ((l0.length : Int) : Int) := od_; obtain ⟨i06, hi06, _, hsz6, _⟩ := info_parts info43; have hroom6 : l0.length ≤ c0 := HC0.out; have hC6 : Kd.C k43 _ A0 l0.length l0 := s0.out; have hcut6 := cut_to (P := Tryz.prog) 27 43 .i64 Tryz.underlying27 hi06 A0 l0.length c0 a0 od_ q6 hroom6; have hr6 := Kd.C_take (m := (a0 : Int).toNat) hC6 (by omega); have hy_ : t0.length = (a0 : Int).toNat := (by rw [Y0.out, List.length_take]; omega); rw [← Y0.out] at hr6; rw [← hy_] at hcut6; have z1 := B_ hr6; have HC423 := B_ (show t0.length ≤ c0 from by omega); clear hr6 hC6 hroom6 hi06 hsz6; have KY6 := B_ hy_; clear hy_; replace q6 := E_ q6; go_wp2
      repeat (go_quiet (fail); try go_wp2)
      go_loopg [16] k1 (fun kq v16 w' => ∃ (b0 : Int), v16 = .int .i64 b0 ∧ Aside0 (impl_meets.l1 kq l0 a1 a0 (l0.length : Int) a0 (t0.length : Int) b0 = some r) ∧ Aside0 (kq ≤ k1) ∧ Drawn0 w w')
      case atStart => exact ⟨(0), ev_, H', ⟨N_ _⟩, by repeat (first | exact R_ _ | apply Q_)⟩
      case round =>
       clear H'; (try clear p2); (try clear c3); (try clear X0); (try clear c4); (try clear Z0); (try clear b1); (try clear c5); (try clear c1); (try clear d1); (try clear c6); (try clear q6); obtain ⟨b0, rfl, HA, HK2, ⟨m2, rfl⟩⟩ := hrel
       cases gk with
       | zero => exact absurd HA.out (by simp [impl_meets.l1])
       | succ k2 =>
        have H := HA.out; clear HA; simp only [impl_meets.l1] at H; by_cases c7 : b0 < (t0.length : Int)
        ·rw [G_ c7] at H; have e1 := C_ c7; clear c7; by_cases c8 : 0 ≤ a0
         ·rw [G_ c8] at H; have A1 := C_ c8; clear c8; by_cases c9 : a0 < (l0.length : Int)
          ·rw [G_ c9] at H; have C1 := C_ c9; clear c9; by_cases C0 : 0 ≤ a1
           ·rw [G_ C0] at H; have D1 := C_ C0; clear C0; by_cases D0 : a1 < (((rd_T43 l0 a0).f0).length : Int)
            ·rw [G_ D0] at H; have E1 := C_ D0; clear D0; by_cases E0 : 0 ≤ b0
             ·rw [G_ E0] at H; have G1 := C_ E0; clear E0; by_cases G0 : b0 < (l0.length : Int)
              ·rw [G_ G0] at H; have J1 := C_ G0; clear G0; by_cases J0 : a1 < (((rd_T43 l0 b0).f0).length : Int)
               ·rw [G_ J0] at H; have L1 := C_ J0; clear J0; by_cases d0 : (rd ((rd_T43 l0 a0).f0) a1) = (rd ((rd_T43 l0 b0).f0) a1)
                ·rw [G_ d0] at H; have g1 := D__ d0; have j1 := T_ d0; clear d0; obtain rfl := F_ H; have e0 : 0 ≤ (a0 : Int) := od_; have g0 : a0 < (l0.length : Int) := od_; obtain ⟨L0, n1, o1, M0, p1, u0, v0⟩ := at_T43 s0.out a0 e0 g0
                 cases M0; have N0 := B_ v0; have HC424_0 := B_ u0; clear v0 u0; replace e0 := E_ e0; replace g0 := E_ g0; have j0 : 0 ≤ (a1 : Int) := od_; have m0 : a1 < (((rd_T43 l0 a0).f0).length : Int) := od_; obtain ⟨q1, O0, r1⟩ := U_ N0.out a1 j0 m0
                 cases O0; replace j0 := E_ j0; replace m0 := E_ m0; have n0 : 0 ≤ (b0 : Int) := od_; have o0 : b0 < (l0.length : Int) := od_; obtain ⟨P0, s1, t1, Q0, u1, y0, z0⟩ := at_T43 s0.out b0 n0 o0; obtain rfl : L0 = P0 := (by injection Q0); have R0 := B_ z0; have HC426_0 := B_ y0; clear z0 y0; replace n0 := E_ n0; replace o0 := E_ o0; have p0 : 0 ≤ (a1 : Int) := od_; have q0 : a1 < (((rd_T43 l0 b0).f0).length : Int) := od_; obtain ⟨v1, U0, y1⟩ := U_ R0.out a1 p0 q0
                 cases U0; replace p0 := E_ p0; replace q0 := E_ q0; go_wp2
                 repeat (go_quiet (fail); try go_wp2)
                 go_ret; exact ⟨by first | rfl | (simp; done) | (simp [*]; done), by repeat (first | exact R_ _ | apply Q_)⟩
                ·rw [I_ d0] at H; have g1 := P_ d0; have j1 := B__ d0; have H' := B_ H; clear H; have e0 : 0 ≤ (a0 : Int) := od_; have g0 : a0 < (l0.length : Int) := od_; obtain ⟨L0, n1, o1, M0, p1, u0, v0⟩ := at_T43 s0.out a0 e0 g0
                 cases M0; have N0 := B_ v0; have HC424_0 := B_ u0; clear v0 u0; replace e0 := E_ e0; replace g0 := E_ g0; have j0 : 0 ≤ (a1 : Int) := od_; have m0 : a1 < (((rd_T43 l0 a0).f0).length : Int) := od_; obtain ⟨q1, O0, r1⟩ := U_ N0.out a1 j0 m0
                 cases O0; replace j0 := E_ j0; replace m0 := E_ m0; have n0 : 0 ≤ (b0 : Int) := od_; have o0 : b0 < (l0.length : Int) := od_; obtain ⟨P0, s1, t1, Q0, u1, y0, z0⟩ := at_T43 s0.out b0 n0 o0; obtain rfl : L0 = P0 := (by injection Q0); have R0 := B_ z0; have HC426_0 := B_ y0; clear z0 y0; replace n0 := E_ n0; replace o0 := E_ o0; have p0 : 0 ≤ (a1 : Int) := od_; have q0 : a1 < (((rd_T43 l0 b0).f0).length : Int) := od_; obtain ⟨v1, U0, y1⟩ := U_ R0.out a1 p0 q0
                 cases U0; replace p0 := E_ p0; replace q0 := E_ q0; go_wp2
                 repeat (go_quiet (fail); try go_wp2)
                 go_roundg k2
                 case measure => have := HK1.out; have := HK2.out; omega
                 case rel => exact ⟨(wrap64 (b0 + 1)), ev_, H', ⟨by have := HK1.out; have := HK2.out; omega⟩, by repeat (first | exact R_ _ | apply Q_)⟩
               ·rw [I_ J0] at H; exact absurd H (by simp)
              ·rw [I_ G0] at H; exact absurd H (by simp)
             ·rw [I_ E0] at H; exact absurd H (by simp)
            ·rw [I_ D0] at H; exact absurd H (by simp)
           ·rw [I_ C0] at H; exact absurd H (by simp)
          ·rw [I_ c9] at H; exact absurd H (by simp)
         ·rw [I_ c8] at H; exact absurd H (by simp)
        ·rw [I_ c7] at H; have e1 := K_ c7; clear c7; have H' := B_ H; clear H; go_wp2
         repeat (go_quiet (fail); try go_wp2)
         go_roundg k2
         case measure => have := HK1.out; have := HK2.out; omega
         case rel => exact ⟨(wrap64 (a0 + 1)), ev_, H', ⟨by have := HK1.out; have := HK2.out; omega⟩, by repeat (first | exact R_ _ | apply Q_)⟩
     ·rw [I_ c5] at H; exact absurd H (by simp)
    ·rw [I_ c4] at H; exact absurd H (by simp)
   ·rw [I_ c3] at H; have X0 := K_ c3; clear c3; obtain rfl := F_ H; go_wp2
    repeat (go_quiet (fail); try go_wp2)
    go_ret; exact ⟨by first | rfl | (simp; done) | (simp [*]; done), by repeat (first | exact R_ _ | apply Q_)⟩

/-! ### impl_MeetAt: function 38 -/
def impl_MeetAt.f (k : Nat) (l0 : List (S43)) (a1 : Int) : Option (Bool) := (impl_LevelWays.f l0 a1).bind fun d0 => (if d0 = true then ((impl_meets.f k l0 a1).bind fun e0 => (if e0 = true then (some true) else ((impl_meets.f k l0 (wrap64 (a1 + 1))).bind fun g0 => (some g0)))) else (some false))
set_option maxHeartbeats 8000000 in
set_option maxRecDepth 100000 in
theorem impl_MeetAt.calls (k : Nat) (A0 : Option Addr) (c0 : Nat) (l0 : List (S43)) (a1 : Int) (r : Bool) (w : World) (hr0 : Kd.C k43 w A0 l0.length l0) (hc0 : l0.length ≤ c0) (h : impl_MeetAt.f k l0 a1 = some r) :
  Calls Tryz.prog 38 #[.slice A0 l0.length c0, .int .i64 a1] w fun e w' => e = .returned (.bool r) ∧ Below w.heap.size w w' := by
 have b0 := B_ hr0; have HC0 := B_ hc0; clear hr0 hc0; have HB := B_ (A__ w.heap.size w); have H : ((impl_LevelWays.f l0 a1).bind fun d0 => (if d0 = true then ((impl_meets.f k l0 a1).bind fun e0 => (if e0 = true then (some true) else ((impl_meets.f k l0 (wrap64 (a1 + 1))).bind fun g0 => (some g0)))) else (some false))) = some r := h; clear h; obtain ⟨d0, A3, H⟩ := ob_ H; by_cases c4 : d0 = true
 ·subst c4; rw [G_ rfl] at H; obtain ⟨e0, A5, H⟩ := ob_ H; by_cases c6 : e0 = true
  ·subst c6; rw [G_ rfl] at H; obtain rfl := F_ H; go_enter Tryz.func38, Tryz.ntmps38; go_wp2_with (first | ((with_reducible refine J_ (f := 52) rfl ?_); refine gL_ (some 7) Tryz.func52 #[.slice A0 l0.length c0, .int .i64 a1] ?_; (with_reducible refine (impl_LevelWays.calls _ _ l0 a1 true _ ?side1 ?side2 A3.out).mono ?_); (case side1 => exact uC b0.out); (case side2 => exact HC0.out); rintro e w7 ⟨rfl, hb⟩; refine ⟨_, rfl, ?_⟩; replace HB := hB_ HB hb; (try clear hb)) | (go_at_call 63; (with_reducible refine (impl_meets.calls k _ _ l0 a1 true _ ?side1 ?side2 A5.out).mono ?_); (case side1 => exact cu_ b0 HB); (case side2 => exact HC0.out); rintro e w' ⟨rfl, ⟨nd, rfl⟩⟩))
   go_ret; exact ⟨ew_, uB HB.out⟩
  ·replace c6 := L_ c6; subst c6; rw [I_ (show ¬ (false = true) by decide)] at H; obtain ⟨g0, A8, H⟩ := ob_ H; obtain rfl := F_ H; go_enter Tryz.func38, Tryz.ntmps38; go_wp2_with (first | ((with_reducible refine J_ (f := 52) rfl ?_); refine gL_ (some 7) Tryz.func52 #[.slice A0 l0.length c0, .int .i64 a1] ?_; (with_reducible refine (impl_LevelWays.calls _ _ l0 a1 true _ ?side1 ?side2 A3.out).mono ?_); (case side1 => exact uC b0.out); (case side2 => exact HC0.out); rintro e w9 ⟨rfl, hb⟩; refine ⟨_, rfl, ?_⟩; replace HB := hB_ HB hb; (try clear hb)) | (go_at_call 63; (with_reducible refine (impl_meets.calls k _ _ l0 a1 false _ ?side1 ?side2 A5.out).mono ?_); (case side1 => exact cu_ b0 HB); (case side2 => exact HC0.out); rintro e w' ⟨rfl, ⟨nd, rfl⟩⟩) | (go_at_call 63; (with_reducible refine (impl_meets.calls k _ _ l0 (wrap64 (a1 + 1)) g0 _ ?side1 ?side2 A8.out).mono ?_); (case side1 => repeat (first | exact (Kd.C_below b0.out (uB HB.out)) | (with_reducible refine Kd.C_alloc ?_ _) | (with_reducible refine Kd.C_drewN ?_ _) | (with_reducible refine Kd.C_drew ?_))); (case side2 => exact HC0.out); rintro e w' ⟨rfl, ⟨nd, rfl⟩⟩))
   go_ret; exact ⟨ew_, uB HB.out⟩
 ·replace c4 := L_ c4; subst c4; rw [I_ (show ¬ (false = true) by decide)] at H; obtain rfl := F_ H; go_enter Tryz.func38, Tryz.ntmps38; go_wp2_with (first | ((with_reducible refine J_ (f := 52) rfl ?_); refine gL_ (some 7) Tryz.func52 #[.slice A0 l0.length c0, .int .i64 a1] ?_; (with_reducible refine (impl_LevelWays.calls _ _ l0 a1 false _ ?side1 ?side2 A3.out).mono ?_); (case side1 => exact uC b0.out); (case side2 => exact HC0.out); rintro e j0 ⟨rfl, hb⟩; refine ⟨_, rfl, ?_⟩; replace HB := hB_ HB hb; (try clear hb)))
  go_ret; exact ⟨ew_, uB HB.out⟩

/-! ### someTime, at whatever function value that tells F -/
def someT (F : Nat → Int → Option Bool) : Nat → Int → Int → Option Bool
 | 0, _, _ => none
 | k + 1, span, t => if t < span then ((F k t).bind fun b => (if b = true then (some true) else (someT F k span (wrap64 (t + 1))))) else (some false)
theorem someT_mono (F : Nat → Int → Option Bool) (hF : ∀ k t, LeO (F k t) (F (k + 1) t)) : ∀ k span t, LeO (someT F k span t) (someT F (k + 1) span t)
 | 0, span, t => fun r h => by simp [someT] at h
 | k + 1, span, t => by
  unfold someT
  refine LeO.ite ?_ (LeO.refl _)
  refine LeO.bind (hF k t) (fun b => ?_)
  exact LeO.ite (LeO.refl _) (someT_mono F hF k span (wrap64 (t + 1)))
set_option maxHeartbeats 8000000 in
set_option maxRecDepth 100000 in
theorem someTime_calls (F : Nat → Int → Option Bool) (g : Nat) (lb : Array Value) (eg : ∀ args w, (callFunc g args).run Tryz.prog w = .ok (.enter g args) w) (k : Nat) (span : Int) (r : Bool) (w : World)
  (hp : ∀ (k : Nat) (W : World) (t : Int) (b : Bool), F k t = some b → Below w.heap.size w W → Calls Tryz.prog g (#[.int .i64 t] ++ lb) W fun e w' => e = .returned (.bool b) ∧ Below W.heap.size W w') (h : someT F k span 0 = some r) :
  Calls Tryz.prog 28 #[.int .i64 span, .func (.func g) #[] lb] w fun e w' => e = .returned (.bool r) ∧ Below w.heap.size w w' := by
 have HP := B_ hp
 have H' := B_ h
 clear hp h
 have HB := B_ (A__ w.heap.size w)
 go_enter Tryz.func28, Tryz.ntmps28
 go_wp2
 go_loopg [5] k (fun kq v5 w' => ∃ t : Int, v5 = .int .i64 t ∧ Aside0 (someT F kq span t = some r) ∧ Aside0 (Below w.heap.size w w'))
 case atStart => exact ⟨0, rfl, H', ⟨A__ _ _⟩⟩
 case round =>
  clear H' HB
  obtain ⟨t, rfl, HA, HB⟩ := hrel
  cases gk with
  | zero => exact absurd HA.out (by simp [someT])
  | succ k1 =>
   have H := HA.out
   clear HA
   simp only [someT] at H
   by_cases c : t < span
   ·rw [G_ c] at H
    have cb : decide (t < span) = true := C_ c
    clear c
    obtain ⟨b, hF, H⟩ := M_ H
    have hcall := HP.out k1 _ t b hF HB.out
    have HCALL := B_ hcall
    clear hcall hF
    cases b with
    | true =>
     rw [G_ rfl] at H
     obtain rfl := F_ H
     go_wp2_with fail
     refine HCALL.out.mono ?_
     rintro e w' ⟨rfl, hb⟩
     go_wp2
     go_ret
     exact ⟨rfl, below_step HB.out hb⟩
    | false =>
     rw [I_ (by decide)] at H
     have H2 := B_ H
     clear H
     go_wp2_with fail
     refine HCALL.out.mono ?_
     rintro e w' ⟨rfl, hb⟩
     go_wp2
     have HB2 := B_ (below_step HB.out hb)
     go_roundg k1
     case measure => omega
     case rel => exact ⟨wrap64 (t + 1), by first | rfl | go_num, H2, HB2⟩
   ·rw [I_ c] at H
    have cb : decide (t < span) = false := K_ c
    clear c
    obtain rfl := F_ H
    go_wp2
    go_ret
    exact ⟨rfl, HB.out⟩

/-! ### someTime with areRegular's literal -/
def hof_areRegular.f (k : Nat) (span : Int) (l1 : List S43) : Option Bool := someT (fun k t => impl_MeetAt.f k l1 t) k span 0
theorem hof_areRegular.calls (k : Nat) (a0 : Int) (A1 : Option Addr) (c1 : Nat) (l1 : List S43) (B : Nat) (r : Bool) (w : World) (hr1 : Kd.C k43 w A1 l1.length l1) (hc1 : l1.length ≤ c1)
  (hb : w.heap[B]? = some (.cells #[.slice A1 l1.length c1] 27 (0, 0))) (h : hof_areRegular.f k a0 l1 = some r) :
  Calls Tryz.prog 28 #[.int .i64 a0, .func (.func 51) #[] #[.pointer (some ⟨B, 0, none⟩)]] w fun e w' => e = .returned (.bool r) ∧ Below w.heap.size w w' := by
 have eg : ∀ args w, (callFunc 51 args).run Tryz.prog w = .ok (.enter 51 args) w := entersOf Tryz.func51 (by kernel_rfl) rfl; refine someTime_calls _ _ _ eg k a0 r w ?_ h; intro k W t b hF hbw; have hB2 : W.heap[B]? = some (.cells #[.slice A1 l1.length c1] 27 (0, 0)) := (hbw.block B (blk_lt hb)).trans hb; have hc2 : W.cell? ⟨B, 0, none⟩ = some (.slice A1 l1.length c1) := blk_cell hB2 0; have HR := B_ (Kd.C_below hr1 hbw); have HC := B_ hc1; have HF := B_ hF; clear hB2 hr1 hc1 hF hb hbw h
 show Calls Tryz.prog 51 #[.int .i64 t, .pointer (some ⟨B, 0, none⟩)] W _
 go_enter Tryz.func51, Tryz.ntmps51; go_wp2_with (go_at_call 38; refine (impl_MeetAt.calls k _ _ l1 t b _ HR.out HC.out HF.out).mono ?_; rintro e w' ⟨rfl, hb⟩)
 go_ret; exact ⟨rfl, hb⟩

/-! ### impl_areRegular: function 16 -/
def impl_areRegular.f (k : Nat) (l0 : List (S43)) : Option (Bool) := (impl_areLevel.f l0).bind fun n0 => (if n0 = true then (if 0 < (l0.length : Int) then (if (((rd_T43 l0 0).f0).length : Int) < 1 then (some false) else ((hof_areRegular.f k (wrap64 ((((rd_T43 l0 0).f0).length : Int) - 1)) l0).bind fun o0 => (some (!o0)))) else (none)) else (some false))
set_option maxHeartbeats 8000000 in
set_option maxRecDepth 100000 in
theorem impl_areRegular.calls (k : Nat) (A0 : Option Addr) (c0 : Nat) (l0 : List (S43)) (r : Bool) (w : World) (hr0 : Kd.C k43 w A0 l0.length l0) (hc0 : l0.length ≤ c0) (h : impl_areRegular.f k l0 = some r) :
  Calls Tryz.prog 16 #[.slice A0 l0.length c0] w fun e w' => e = .returned (.bool r) ∧ Below w.heap.size w w' := by
 have d0 := B_ hr0; have HC0 := B_ hc0; clear hr0 hc0; have HB := B_ (A__ w.heap.size w); have H : ((impl_areLevel.f l0).bind fun n0 => (if n0 = true then (if 0 < (l0.length : Int) then (if (((rd_T43 l0 0).f0).length : Int) < 1 then (some false) else ((hof_areRegular.f k (wrap64 ((((rd_T43 l0 0).f0).length : Int) - 1)) l0).bind fun o0 => (some (!o0)))) else (none)) else (some false))) = some r := h; clear h; obtain ⟨n0, A2, H⟩ := ob_ H; by_cases c3 : n0 = true
 ·subst c3; rw [G_ rfl] at H; by_cases c4 : 0 < (l0.length : Int)
  ·rw [G_ c4] at H; have N0 := C_ c4; have O0 : decide (0 < l0.length) = true := C_ (by omega); clear c4; by_cases c5 : (((rd_T43 l0 0).f0).length : Int) < 1
   ·rw [G_ c5] at H; have C0 := C_ c5; have D0 : decide (((rd_T43 l0 0).f0).length < 1) = true := C_ (by omega); clear c5; obtain rfl := F_ H; go_enter Tryz.func16, Tryz.ntmps16; go_wp2_with (first | ((with_reducible refine Y_ (N := 1) rfl ?_); (try (refine gate_guard (by rfl) ?_; dsimp only)); refine be_ (N := 1) (cs := #[.slice A0 l0.length c0]) (t := 27) ?_; intro j0 hg w6 hbox hb; have a0 := B_ (hbox); have u0 := B_ ((by rw [hg]; exact (H_ (uB HB.out)) : w.heap.size ≤ j0)); have v0 := ge_ hg HB; replace HB := hB_ HB hb; clear hb hbox hg; have P0 := bx1 a0.out) | ((with_reducible refine J_ (f := 50) rfl ?_); refine gL_ (some 4) Tryz.func50 #[.slice A0 l0.length c0] ?_; (with_reducible refine (impl_areLevel.calls _ _ l0 true _ ?side1 ?side2 A2.out).mono ?_); (case side1 => exact cu_ d0 HB); (case side2 => exact HC0.out); rintro e w8 ⟨rfl, hb⟩; refine ⟨_, rfl, ?_⟩; replace a0 := kb_ a0 hb; replace HB := hB_ HB hb; (try clear hb); have Q0 := bx1 a0.out; have e0 : 0 ≤ (0 : Int) := (by omega); have g0 : 0 < (l0.length : Int) := od_; obtain ⟨x0, E0, G0, r0, b0, p0, q0⟩ := at_T43 d0.out 0 e0 g0; cases r0; have qi433 : (0 < l0.length) = True := E_ (by omega); (try rw [show ((0 : Int)).toNat = 0 from rfl] at b0); (try rw [Addr.add_zero'] at b0); replace b0 := (HB.out.cell (D_ w _ b0)).trans b0; have J0 := B_ q0; have HC433_0 := B_ p0; clear q0 p0; replace e0 := E_ e0; replace g0 := E_ g0))
    go_ret; exact ⟨ew_, uB HB.out⟩
   ·rw [I_ c5] at H; have C0 := K_ c5; have D0 : decide (((rd_T43 l0 0).f0).length < 1) = false := K_ (by omega); clear c5; obtain ⟨o0, A10, H⟩ := ob_ H; obtain rfl := F_ H; go_enter Tryz.func16, Tryz.ntmps16; go_wp2_with (first | ((with_reducible refine Y_ (N := 1) rfl ?_); (try (refine gate_guard (by rfl) ?_; dsimp only)); refine be_ (N := 1) (cs := #[.slice A0 l0.length c0]) (t := 27) ?_; intro j0 hg R0 hbox hb; have a0 := B_ (hbox); have u0 := B_ ((by rw [hg]; exact (H_ (uB HB.out)) : w.heap.size ≤ j0)); have v0 := ge_ hg HB; replace HB := hB_ HB hb; clear hb hbox hg; have U0 := bx1 a0.out) | ((with_reducible refine J_ (f := 50) rfl ?_); refine gL_ (some 4) Tryz.func50 #[.slice A0 l0.length c0] ?_; (with_reducible refine (impl_areLevel.calls _ _ l0 true _ ?side1 ?side2 A2.out).mono ?_); (case side1 => exact cu_ d0 HB); (case side2 => exact HC0.out); rintro e V0 ⟨rfl, hb⟩; refine ⟨_, rfl, ?_⟩; replace a0 := kb_ a0 hb; replace HB := hB_ HB hb; (try clear hb); have X0 := bx1 a0.out; have e0 : 0 ≤ (0 : Int) := (by omega); have g0 : 0 < (l0.length : Int) := od_; obtain ⟨x0, E0, G0, r0, b0, p0, q0⟩ := at_T43 d0.out 0 e0 g0; cases r0; have qi433 : (0 < l0.length) = True := E_ (by omega); (try rw [show ((0 : Int)).toNat = 0 from rfl] at b0); (try rw [Addr.add_zero'] at b0); replace b0 := (HB.out.cell (D_ w _ b0)).trans b0; have J0 := B_ q0; have HC433_0 := B_ p0; clear q0 p0; replace e0 := E_ e0; replace g0 := E_ g0; have s0 : 0 ≤ (0 : Int) := (by omega); have t0 : 0 < (l0.length : Int) := od_; obtain ⟨L0, Y0, Z0, M0, m0, y0, z0⟩ := at_T43 d0.out 0 s0 t0; obtain rfl : x0 = L0 := (by injection M0); have qi434 : (0 < l0.length) = True := E_ (by omega); (try rw [show ((0 : Int)).toNat = 0 from rfl] at m0); (try rw [Addr.add_zero'] at m0); replace m0 := (HB.out.cell (D_ w _ m0)).trans m0; have a1 := B_ z0; have HC434_0 := B_ y0; clear z0 y0; replace s0 := E_ s0; replace t0 := E_ t0; have ea_ := F_ (b0.symm.trans m0); injection ea_ with ea_ en_ ec_; subst ea_; subst ec_; clear en_) | ((with_reducible refine J_ (f := 28) rfl ?_); refine gL_ (some 21) Tryz.func28 #[.int .i64 (wrap64 ((((rd_T43 l0 0).f0).length : Int) - 1)), .func (.func 51) #[] #[.pointer (some ⟨j0, 0, none⟩)]] ?_; (with_reducible refine (hof_areRegular.calls k (wrap64 ((((rd_T43 l0 0).f0).length : Int) - 1)) _ _ l0 _ o0 _ ?side1 ?side2 (by exact (uK a0.out)) A10.out).mono ?_); (case side1 => exact cu_ d0 HB); (case side2 => exact HC0.out); rintro e b1 ⟨rfl, hb⟩; refine ⟨_, rfl, ?_⟩; replace a0 := kb_ a0 hb; replace HB := hB_ HB hb; (try clear hb)))
    go_ret; exact ⟨ew_, uB HB.out⟩
  ·rw [I_ c4] at H; exact absurd H (by simp)
 ·replace c3 := L_ c3; subst c3; rw [I_ (show ¬ (false = true) by decide)] at H; obtain rfl := F_ H; go_enter Tryz.func16, Tryz.ntmps16; go_wp2_with (first | ((with_reducible refine Y_ (N := 1) rfl ?_); (try (refine gate_guard (by rfl) ?_; dsimp only)); refine be_ (N := 1) (cs := #[.slice A0 l0.length c0]) (t := 27) ?_; intro j0 hg c1 hbox hb; have a0 := B_ (hbox); have u0 := B_ ((by rw [hg]; exact (H_ (uB HB.out)) : w.heap.size ≤ j0)); have v0 := ge_ hg HB; replace HB := hB_ HB hb; clear hb hbox hg; have d1 := bx1 a0.out) | ((with_reducible refine J_ (f := 50) rfl ?_); refine gL_ (some 4) Tryz.func50 #[.slice A0 l0.length c0] ?_; (with_reducible refine (impl_areLevel.calls _ _ l0 false _ ?side1 ?side2 A2.out).mono ?_); (case side1 => exact cu_ d0 HB); (case side2 => exact HC0.out); rintro e e1 ⟨rfl, hb⟩; refine ⟨_, rfl, ?_⟩; replace a0 := kb_ a0 hb; replace HB := hB_ HB hb; (try clear hb)))
  go_ret; exact ⟨ew_, uB HB.out⟩

/-! ### slices_Clone_int_int: function 21 -/
/-! ### slices.Clone over whole numbers: by hand (a slice held against nil) -/
def slices_Clone_int_int.f (l0 : List Int) : Option (List Int) := if l0.length < 17592186044416 then some l0 else none
theorem cloneNil (t e : TypeId) (A : Option Addr) (n c : Nat) (h : Tryz.prog.underlying t = some (.slice e)) : ∀ w, (binOp .eql t (.slice A n c) (.slice none 0 0)).run Tryz.prog w = .ok (.bool A.isNone) w := by
  intro w
  have h1 : ∀ d : Nat, (Op.equalIn (d + 1) t (.slice A n c) (.slice none 0 0)).run Tryz.prog w = .ok A.isNone w := fun d => by
    cases A <;> simp [Op.equalIn, run_underlying h]
  simp only [binOp]
  simp [Op.equal, Op.maxDepth, h1 9999]
set_option maxHeartbeats 8000000 in
set_option maxRecDepth 100000 in
theorem slices_Clone_int_int.calls (A0 : Option Addr) (c0 : Nat) (l0 : List Int) (r : List Int) (w : World) (hr0 : Kd.C (Kd.int .i64) w A0 l0.length l0) (hc0 : l0.length ≤ c0) (h : slices_Clone_int_int.f l0 = some r) :
    Calls Tryz.prog 21 #[.slice A0 l0.length c0] w fun e w' => ∃ v0_ : Value, e = .returned (v0_) ∧ Kd.R (Kd.int .i64) 3 w' w.heap.size (fun _ => True) v0_ r ∧ Below w.heap.size w w' := by
  unfold slices_Clone_int_int.f at h
  by_cases c2 : l0.length < 17592186044416
  · rw [G_ c2] at h
    obtain rfl := F_ h; clear h; have d0 := B_ c2; have hnil := fun n c => cloneNil 26 3 A0 n c Tryz.underlying26
    cases A0 with
    | none =>
      have h0 : l0.length = 0 := by
        rcases Nat.eq_zero_or_pos l0.length with h | h
        · exact h
        · obtain ⟨ad, e, _⟩ := hr0.2.2 h
          cases e
      obtain rfl : l0 = [] := List.eq_nil_of_length_eq_zero h0; clear c2 d0 hr0 h0 hc0; go_enter Tryz.func21, Tryz.ntmps21; go_wp2; go_ret; exact ⟨_, rfl, Kd.R_nil _ _ _ _ _, A__ _ _⟩
    | some a =>
      have j0 := B_ hr0; have HC0 := B_ hc0; have HB := B_ (A__ w.heap.size w); obtain ⟨a0, hy133⟩ : ∃ y_ : List Int, y_ = (([] : List Int)) := ⟨_, rfl⟩; have m0 := B_ hy133; obtain ⟨n0, hy136⟩ : ∃ y_ : List Int, y_ = (a0 ++ l0) := ⟨_, rfl⟩; have o0 := B_ hy136; have NL := B_ (show l0 = n0 by rw [hy136, hy133]; rfl); have L133 : Aside0 (a0.length = 0) := ⟨by rw [hy133]; rfl⟩; clear hr0 hc0 hy133 hy136 c2; go_enter Tryz.func21, Tryz.ntmps21; go_wp2_with (first | ((with_reducible refine Y_ (N := 5) rfl ?_); refine Kd.R_lit (Kd.int .i64) _ 3 ?hg (N := 5) ?hd (xs := ([] : List Int)) (inner := []) (ok := fun _ => True) (okp := fun _ => True) ?hr ?hp (fun _ hk => hk) trivial (A__ _ _) (N_ _) (by simp) ?_; (case hd => rfl); (case hg => rfl); (case hr => first | (go_simp; done) | (go_simp; rfl)); (case hp => exact (Reps.none _ _)); intro v134 w5 b0 hb hg_ hnew_; clear hg_ hnew_; rw [← m0.out] at b0; have e0 := B_ (below_step HB.out hb); have g0 := B_ b0; clear HB hb b0; have HB := e0; clear e0) | ((with_reducible refine gate_builtin (b := .append) (xs := #[.tmp 5, .tmp 6]) rfl ?_); at_builtin; refine Kd.R_append_rows (Kd.int .i64) (w0 := w) w.heap.size rfl (.tmp 5) (.tmp 6) 26 3 (.int .i64 0) 8 rfl Tryz.underlying26 info3 rfl (by decide) (by omega) v134 a0 l0 _ _ _ (fun _ => True) (fun _ => False) rfl rfl ?aO ?aR (fun _ _ h => h) (fun _ h => h.elim) ?aF ?aB ?aS ?aL ?_; (case aR => exact (Kd.C_below j0.out HB.out)); (case aB => exact HB.out); (case aF => exact (fun _ _ => trivial)); (case aO => exact g0.out); (case aS => exact (H_ HB.out)); (case aL => have := d0.out; have := L133.out; omega); intro v137 w9 ho hb hg hat; rw [← o0.out] at ho; have HB2 := B_ hb; have p0 := B_ ho; clear HB g0 ho hb hg hat))
      go_ret; exact ⟨_, rfl, by rw [NL.out]; exact p0.out, HB2.out⟩
  · rw [I_ c2] at h
    exact absurd h (by simp)


/-! ### impl_copyWays: function 17 -/
def impl_copyWays.l0 : Nat → List (S43) → List (S43) → Int → Int → Option ((List (S43)))
 | 0, _, _, _, _ => none
 | k + 1, x3, x6, x7, x8 => if x8 < x7 then (if 0 ≤ x8 then (if x8 < (x6.length : Int) then ((slices_Clone_int_int.f ((rd_T43 x6 x8).f0)).bind fun d0 => (if x3.length < 5864062014805 then (impl_copyWays.l0 k (x3 ++ [(⟨d0⟩ : S43)]) x6 x7 (wrap64 (x8 + 1))) else (none))) else (none)) else (none)) else (some x3)
def impl_copyWays.f (k : Nat) (l0 : List (S43)) : Option ((List (S43))) := impl_copyWays.l0 k ([] : List (S43)) l0 (l0.length : Int) 0
set_option maxHeartbeats 8000000 in
set_option maxRecDepth 100000 in
theorem impl_copyWays.calls (k : Nat) (A0 : Option Addr) (c0 : Nat) (l0 : List (S43)) (r : List (S43)) (w : World) (hr0 : Kd.C k43 w A0 l0.length l0) (hc0 : l0.length ≤ c0) (h : impl_copyWays.f k l0 = some r) :
  Calls Tryz.prog 17 #[.slice A0 l0.length c0] w fun e w' => ∃ v0_ : Value, e = .returned (v0_) ∧ Kd.S k43 43 w' w.heap.size (fun _ => True) v0_ r ∧ Below w.heap.size w w' := by
 have hu43 := Tryz.underlying43; have z0 := B_ hr0; have HC0 := B_ hc0; clear hr0 hc0; have HB := B_ (A__ w.heap.size w); have H : (impl_copyWays.l0 k ([] : List (S43)) l0 (l0.length : Int) 0) = some r := h; clear h; have H' := B_ H; clear H; go_enter Tryz.func17, Tryz.ntmps17; go_wp2; go_loopg [3, 8] k (fun kq v3 v8 w' => ∃ (j0 : List (S43)) (a0 : Int), v8 = .int .i64 a0 ∧ Aside0 (impl_copyWays.l0 kq j0 l0 (l0.length : Int) a0 = some r) ∧ Aside0 (kq ≤ k) ∧ Aside0 (Kd.S k43 43 w' w.heap.size (fun _ => True) v3 j0) ∧ Aside0 (Below w.heap.size w w'))
 case atStart => exact ⟨(([] : List (S43))), (0), ev_, H', ⟨N_ _⟩, ⟨by first | exact Kd.S_nil _ _ _ _ _ | exact Kd.N_nil _ _ _ _ _ | exact Kd.V_nil _ _ _ _ _ | exact Kd.Q_nil _ _ _ _ _ | exact Kd.R_nil _ _ _ _ _⟩, ⟨uB HB.out⟩⟩
 case round =>
  clear H'; (try clear c1); obtain ⟨j0, a0, rfl, HA, HK1, b0, HB⟩ := hrel
  cases gk with
  | zero => exact absurd HA.out (by simp [impl_copyWays.l0])
  | succ k1 =>
   have H := HA.out; clear HA; simp only [impl_copyWays.l0] at H; by_cases c2 : a0 < (l0.length : Int)
   ·rw [G_ c2] at H; have C0 := C_ c2; clear c2; by_cases c3 : 0 ≤ a0
    ·rw [G_ c3] at H; have N0 := C_ c3; clear c3; by_cases c4 : a0 < (l0.length : Int)
     ·rw [G_ c4] at H; have O0 := C_ c4; clear c4; obtain ⟨d0, A5, H⟩ := ob_ H; by_cases c6 : j0.length < 5864062014805
      ·rw [G_ c6] at H; have D0 := B_ c6; clear c6; obtain ⟨t0, hy441⟩ : ∃ y_ : List (S43), y_ = (j0 ++ [(⟨d0⟩ : S43)]) := ⟨_, rfl⟩; replace H : (impl_copyWays.l0 k1 t0 l0 (l0.length : Int) (wrap64 (a0 + 1))) = some r := by first | (rw [hy441]; with_reducible exact H) | (have H2_ := (Option.bind_some _ _).symm.trans H; rw [hy441]; with_reducible exact H2_) | (have H2_ := (Option.bind_some _ _).symm.trans H; with_reducible exact H2_) | with_reducible exact H | (rw [hy441]; exact H) | exact H
       have E0 := B_ hy441; clear hy441; have H' := B_ H; clear H; have n0 : 0 ≤ (a0 : Int) := od_; have o0 : a0 < (l0.length : Int) := od_; obtain ⟨P0, p0, q0, G0, r0, u0, v0⟩ := at_T43 z0.out a0 n0 o0
       cases G0; replace r0 := (HB.out.cell (D_ w _ r0)).trans r0; have J0 := B_ v0; have HC436_0 := B_ u0; clear v0 u0; replace n0 := E_ n0; replace o0 := E_ o0; go_wp2_with (first | ((with_reducible refine Y_ (N := 5) rfl ?_); refine be_ (N := 5) (cs := #[.slice none 0 0]) (t := 43) ?_; intro e0 hg w7 hbox hb; replace b0 := B_ (Kd.S_below (Kd.S_elderB (uS b0.out) e0 (Nat.le_of_eq hg.symm)) hb); have g0 := B_ (hbox); have Q0 := B_ ((by rw [hg]; exact (H_ (uB HB.out)) : w.heap.size ≤ e0)); have R0 := ge_ hg HB; replace HB := hB_ HB hb; clear hb hbox hg; have U0 := bx1 g0.out) | ((with_reducible refine J_ (f := 21) rfl ?_); refine gL_ (some 15) Tryz.func21 #[.slice p0 ((rd_T43 l0 a0).f0).length q0] ?_; (with_reducible refine (slices_Clone_int_int.calls _ _ ((rd_T43 l0 a0).f0) d0 _ ?side1 ?side2 A5.out).mono ?_); (case side1 => exact Kd.C_below J0.out bw_); (case side2 => exact HC436_0.out); rintro e w9 ⟨v439, rfl, s0, hb⟩; refine ⟨_, rfl, ?_⟩; replace b0 := B_ (Kd.S_elder' (uS ((E__ (Kd.S_far (p := ⟨e0, 0, none⟩) (E__ b0.out (fun k_ hk => (⟨hk, hk.2⟩ : _ ∧ k_ ≠ e0))) (fun _ hk => hk.2) (.slice p0 ((rd_T43 l0 a0).f0).length q0)) (fun _ h_ => h_.1)))) (Kd.R_base s0) hb); have m0 := B_ (Kd.R_lower s0 (H_ bw_)); replace g0 := B_ (blk_below (g := e0) (o := .cells #[.slice p0 ((rd_T43 l0 a0).f0).length q0] 43 (0, 0)) zk_ hb); replace HB := hw_ hb; (try clear hb s0); obtain ⟨x0, y0, L0⟩ := Kd.R_slice m0.out; subst L0) | ((with_reducible refine gate_builtin (b := .append) (xs := #[.tmp 12, .tmp 17]) rfl ?_); at_builtin; refine Kd.S_append k43 (w0 := w) w.heap.size rfl (.tmp 12) (.tmp 17) 27 43 (.agg #[(.slice none 0 0)]) 24 rfl Tryz.underlying27 info43 rfl (by decide) (by omega) u3 j0 (⟨d0⟩ : S43) [.slice x0 d0.length y0] (fun k_ => k_ ≠ e0) (fun k_ => some k_ = (.slice x0 d0.length y0 : Value).ownBlock) rfl rfl ?aP (fun k_ hk_ => ((O_ (ok' := fun k_ => ((fun k_ => k_ ≠ e0)) k_ ∧ some k_ ≠ (u3 : Value).ownBlock) (Kd.R_types (Kd.R_apart' (m0.out) (Kd.S_typed b0.out) (by decide)) g0.out (by decide)) (fun k_ hk => ⟨hk.2, hk.1.2⟩))).1 k_ hk_.symm) ?aF ?aO ?aB ?aS ?aL ?_; (case aP => exact k43_mkM _ _ _ (⟨d0⟩ : S43) (O_ (Kd.R_tight rfl (O_ (ok' := fun k_ => ((fun k_ => k_ ≠ e0)) k_ ∧ some k_ ≠ (u3 : Value).ownBlock) (Kd.R_types (Kd.R_apart' (m0.out) (Kd.S_typed b0.out) (by decide)) g0.out (by decide)) (fun k_ hk => ⟨hk.2, hk.1.2⟩))) (fun _ h_ => h_))); (case aB => exact bw_); (case aF => exact (fun k_ hk => Kd.freshB (uK g0.out) k_ hk)); (case aO => exact (uS (E__ b0.out (fun k_ hk => ⟨hk.1.2, fun e_ => hk.2 e_⟩)))); (case aS => exact (H_ bw_)); (case aL => have := D0.out; omega); intro v442 V0 ho hb hg hat; rw [← E0.out] at ho; replace g0 := B_ (blk_grown (uK g0.out) hg (Kd.S_away b0.out (fun _ hk => hk.1.2))); replace HB := B_ (hb); have M0 := B_ (ho); clear b0 m0; clear ho hb hg hat))
       go_roundg k1
       case measure => have := HK1.out; omega
       case rel => exact ⟨(t0), (wrap64 (a0 + 1)), ev_, H', ⟨by have := HK1.out; omega⟩, ⟨uS (E__ M0.out (fun _ hk => trivial))⟩, ⟨bw_⟩⟩
      ·rw [I_ c6] at H; exact absurd H (by simp)
     ·rw [I_ c4] at H; exact absurd H (by simp)
    ·rw [I_ c3] at H; exact absurd H (by simp)
   ·rw [I_ c2] at H; have C0 := K_ c2; clear c2; obtain rfl := F_ H; go_wp2; go_ret; exact ⟨_, ew_, by (with_reducible repeat (first | apply Kd.S_alloc | apply Kd.S_drewN | apply Kd.S_drew)); exact b0.out, uB HB.out⟩

/-! ### slices.IndexFunc with nextOf's literal -/
def hof_nextOf.p (t : Int) (l2 : List Int) (x : S43) : Bool := decide (rd x.f0 t = rd l2 (wrap64 (t + 1)))
def hof_nextOf.f (l0 : List S43) (t : Int) (l2 : List Int) : Option Int := if 0 ≤ t ∧ t < 9223372036854775807 ∧ t + 1 < (l2.length : Int) ∧ (∀ x ∈ l0, t < (x.f0.length : Int)) then some (findI (hof_nextOf.p t l2) l0) else none
theorem hof_nextOf.tells (t : Int) (l2 : List Int) (A2 : Option Addr) (c2 : Nat) (B1 B2 : Nat) (l : List S43) (w : World) (h0 : 0 ≤ t) (h1 : t < 9223372036854775807) (h2 : t + 1 < (l2.length : Int)) (h3 : ∀ x ∈ l, t < (x.f0.length : Int)) (hr2 : (Kd.int .i64).C w A2 l2.length l2)
  (hB1 : w.heap[B1]? = some (.cells #[.int .i64 t] 3 (0, 0))) (hB2 : w.heap[B2]? = some (.cells #[.slice A2 l2.length c2] 43 (0, 0))) :
  TellsWay 54 #[.pointer (some ⟨B1, 0, none⟩), .pointer (some ⟨B2, 0, none⟩)] (hof_nextOf.p t l2) l w := by
 intro W x Ax cx hx hb hl hi
 have hB1W : W.heap[B1]? = some (.cells #[.int .i64 t] 3 (0, 0)) := (hb.block B1 (blk_lt hB1)).trans hB1
 have hB2W : W.heap[B2]? = some (.cells #[.slice A2 l2.length c2] 43 (0, 0)) := (hb.block B2 (blk_lt hB2)).trans hB2
 have hc1 : W.cell? ⟨B1, 0, none⟩ = some (.int .i64 t) := blk_cell hB1W 0
 have hc2 : W.cell? ⟨B2, 0, none⟩ = some (.slice A2 l2.length c2) := blk_cell hB2W 0
 have hrW := Kd.C_below hr2 hb
 have hw1 : wrap64 (t + 1) = t + 1 := by unfold wrap64; omega
 have hxl := h3 x hx
 obtain ⟨ad, ead, hx0⟩ := U_ hi t h0 hxl
 obtain ⟨ae, eae, hy0⟩ := U_ hrW (wrap64 (t + 1)) (by omega) (by omega)
 cases ead
 cases eae
 have hs1 : ∀ o : Obj, (W.alloc o).cell? ⟨B1, 0, none⟩ = some (.int .i64 t) := fun o => (World.cell?_alloc_lt W o ⟨B1, 0, none⟩ (blk_lt hB1W)).trans hc1
 have hs2 : ∀ o : Obj, (W.alloc o).cell? ⟨B2, 0, none⟩ = some (.slice (some ae) l2.length c2) := fun o => (World.cell?_alloc_lt W o ⟨B2, 0, none⟩ (blk_lt hB2W)).trans hc2
 have hs3 : ∀ o : Obj, (W.alloc o).cell? (ad.add t.toNat) = some (.int .i64 (rd x.f0 t)) := fun o => (World.cell?_alloc_lt W o _ (D_ W _ hx0)).trans hx0
 have hs4 : ∀ o : Obj, (W.alloc o).cell? (ae.add (wrap64 (t + 1)).toNat) = some (.int .i64 (rd l2 (wrap64 (t + 1)))) := fun o => (World.cell?_alloc_lt W o _ (D_ W _ hy0)).trans hy0
 have hq1 : (0 ≤ t) = True := E_ h0
 have hq2 : (t < (x.f0.length : Int)) = True := E_ hxl
 have hq3 : (0 ≤ wrap64 (t + 1)) = True := E_ (by omega)
 have hq4 : (wrap64 (t + 1) < (l2.length : Int)) = True := E_ (by omega)
 have hg1 : decide (0 ≤ t) = true := C_ h0
 have hg2 : decide (t < (x.f0.length : Int)) = true := C_ hxl
 have hg3 : decide (0 ≤ wrap64 (t + 1)) = true := C_ (by omega)
 have hg4 : decide (wrap64 (t + 1) < (l2.length : Int)) = true := C_ (by omega)
 have hu := Tryz.underlying43
 clear hi hrW hr2 hb hB1 hB2 hB1W hB2W h0 h1 h2 h3 hw1 hxl hx
 show Calls Tryz.prog 54 #[.agg #[.slice (some ad) x.f0.length cx], .pointer (some ⟨B1, 0, none⟩), .pointer (some ⟨B2, 0, none⟩)] W _
 unfold hof_nextOf.p
 go_enter Tryz.func54, Tryz.ntmps54
 go_wp2
 repeat (go_quiet (fail); try go_wp2)
 go_ret
 exact ⟨by first | rfl | simp [BEq.beq], by first | exact (A__ _ W).alloc (N_ _) _ | exact pw_below_drewN ((A__ _ W).alloc (N_ _) _) _⟩
theorem hof_nextOf.calls (A0 : Option Addr) (c0 : Nat) (l0 : List S43) (t : Int) (A2 : Option Addr) (c2 : Nat) (l2 : List Int) (B1 B2 : Nat) (r : Int) (w : World) (hr0 : Kd.C k43 w A0 l0.length l0) (hc0 : l0.length ≤ c0) (hr2 : (Kd.int .i64).C w A2 l2.length l2) (hc2 : l2.length ≤ c2)
  (hb1 : w.heap[B1]? = some (.cells #[.int .i64 t] 3 (0, 0))) (hb2 : w.heap[B2]? = some (.cells #[.slice A2 l2.length c2] 43 (0, 0))) (h : hof_nextOf.f l0 t l2 = some r) :
  Calls Tryz.prog 53 #[.slice A0 l0.length c0, .func (.func 54) #[] #[.pointer (some ⟨B1, 0, none⟩), .pointer (some ⟨B2, 0, none⟩)]] w fun e w' => e = .returned (.int .i64 r) ∧ Below w.heap.size w w' := by
 unfold hof_nextOf.f at h
 by_cases h0 : 0 ≤ t ∧ t < 9223372036854775807 ∧ t + 1 < (l2.length : Int) ∧ (∀ x ∈ l0, t < (x.f0.length : Int))
 ·rw [G_ h0] at h; obtain rfl := F_ h; have eg : ∀ args w, (callFunc 54 args).run Tryz.prog w = .ok (.enter 54 args) w := entersOf Tryz.func54 (by kernel_rfl) rfl; exact indexFunc_Way (hof_nextOf.p t l2) _ _ eg A0 c0 l0 w hr0 hc0 (hof_nextOf.tells t l2 A2 c2 B1 B2 l0 w h0.1 h0.2.1 h0.2.2.1 h0.2.2.2 hr2 hb1 hb2)
 ·rw [I_ h0] at h; exact absurd h (by simp)

/-! ### impl_nextOf: function 18 -/
mutual
def impl_nextOf.j0 : Nat → List (S43) → Bool → Int → Option (List Int)
 | 0, _, _, _ => none
 | k + 1, x0, Z0, v0 => if Z0 = true then (some ([] : List Int)) else (impl_nextOf.l0 k x0 ([] : List Int) x0 (x0.length : Int) 0 v0)
def impl_nextOf.l0 : Nat → List (S43) → List Int → List (S43) → Int → Int → Int → Option (List Int)
 | 0, _, _, _, _, _, _ => none
 | k + 1, x0, x5, E0, M0, q0, v0 => if q0 < M0 then (if 0 ≤ q0 then (if q0 < (E0.length : Int) then ((hof_nextOf.f x0 v0 ((rd_T43 E0 q0).f0)).bind fun m0 => (if x5.length < 17592186044416 then (impl_nextOf.l0 k x0 (x5 ++ [m0]) E0 M0 (wrap64 (q0 + 1)) v0) else (none))) else (none)) else (none)) else (some x5)
end
def impl_nextOf.f (k : Nat) (l0 : List (S43)) (a1 : Int) : Option (List Int) := (impl_LevelWays.f l0 a1).bind fun r0 => (if r0 = true then ((impl_MeetAt.f k l0 a1).bind fun n0 => (impl_nextOf.j0 k l0 n0 a1)) else (impl_nextOf.j0 k l0 true a1))
set_option maxHeartbeats 8000000 in
set_option maxRecDepth 100000 in
theorem impl_nextOf.calls (k : Nat) (A0 : Option Addr) (c0 : Nat) (l0 : List (S43)) (a1 : Int) (r : List Int) (w : World) (hr0 : Kd.C k43 w A0 l0.length l0) (hc0 : l0.length ≤ c0) (h : impl_nextOf.f k l0 a1 = some r) :
  Calls Tryz.prog 18 #[.slice A0 l0.length c0, .int .i64 a1] w fun e w' => ∃ v0_ : Value, e = .returned (v0_) ∧ Kd.R (Kd.int .i64) 3 w' w.heap.size (fun _ => True) v0_ r ∧ Below w.heap.size w w' := by
 have hu43 := Tryz.underlying43; have s0 := B_ hr0; have HC0 := B_ hc0; clear hr0 hc0; have HB := B_ (A__ w.heap.size w); have H : ((impl_LevelWays.f l0 a1).bind fun r0 => (if r0 = true then ((impl_MeetAt.f k l0 a1).bind fun n0 => (impl_nextOf.j0 k l0 n0 a1)) else (impl_nextOf.j0 k l0 true a1))) = some r := h; clear h; have HC3 := B_ H; clear H; go_enter Tryz.func18, Tryz.ntmps18; go_upto_region 1 with (first | ((with_reducible refine Y_ (N := 3) rfl ?_); refine be_ (N := 3) (cs := #[.int .i64 a1]) (t := 3) ?_; intro e0 hg w4 hbox hb; have a0 := B_ (hbox); have o1 := B_ ((by rw [hg]; exact (H_ (uB HB.out)) : w.heap.size ≤ e0)); have p1 := ge_ hg HB; replace HB := hB_ HB hb; clear hb hbox hg))
 (try simp only [Act.put, List.setIfInBounds_toArray, List.set_cons_zero, List.set_cons_succ]); go_cut [16] (fun v16 wc => ∃ (kq : Nat) (y0 : Bool), v16 = .bool y0 ∧ Aside0 (impl_nextOf.j0 kq l0 y0 a1 = some r) ∧ Aside0 (kq ≤ k) ∧ Aside0 (wc.heap[e0]? = some (.cells #[.int .i64 a1] 3 (0, 0))) ∧ Aside0 (Below w.heap.size w wc))
 case first =>
  have H := HC3.out; clear HC3; obtain ⟨r0, A5, H⟩ := ob_ H; by_cases c6 : r0 = true
  ·subst c6; rw [G_ rfl] at H; obtain ⟨n0, A7, H⟩ := ob_ H; have H' := B_ H; clear H; have N0 := bx1 a0.out; go_wp2_with (first | ((with_reducible refine J_ (f := 52) rfl ?_); refine gL_ (some 10) Tryz.func52 #[.slice A0 l0.length c0, .int .i64 a1] ?_; (with_reducible refine (impl_LevelWays.calls _ _ l0 a1 true _ ?side1 ?side2 A5.out).mono ?_); (case side1 => exact cu_ s0 HB); (case side2 => exact HC0.out); rintro e w9 ⟨rfl, hb⟩; refine ⟨_, rfl, ?_⟩; replace a0 := kb_ a0 hb; replace HB := hw_ hb; (try clear hb); have O0 := bx1 a0.out) | (go_at_call 38; (with_reducible refine (impl_MeetAt.calls k _ _ l0 a1 n0 _ ?side1 ?side2 A7.out).mono ?_); (case side1 => exact cu_ s0 HB); (case side2 => exact HC0.out); rintro e q1 ⟨rfl, hb⟩; replace a0 := kb_ a0 hb; replace HB := hw_ hb; (try clear hb)))
   go_meet
   case rel => exact ⟨_, (n0), ev_, H', ⟨by first | omega | exact N_ _⟩, ⟨uK a0.out⟩, ⟨bw_⟩⟩
  ·replace c6 := L_ c6; subst c6; rw [I_ (show ¬ (false = true) by decide)] at H; have H' := B_ H; clear H; have P0 := bx1 a0.out; go_wp2_with (first | ((with_reducible refine J_ (f := 52) rfl ?_); refine gL_ (some 10) Tryz.func52 #[.slice A0 l0.length c0, .int .i64 a1] ?_; (with_reducible refine (impl_LevelWays.calls _ _ l0 a1 false _ ?side1 ?side2 A5.out).mono ?_); (case side1 => exact cu_ s0 HB); (case side2 => exact HC0.out); rintro e r1 ⟨rfl, hb⟩; refine ⟨_, rfl, ?_⟩; replace a0 := kb_ a0 hb; replace HB := hw_ hb; (try clear hb)))
   go_meet
   case rel => exact ⟨_, (true), ev_, H', ⟨by first | omega | exact N_ _⟩, ⟨uK a0.out⟩, ⟨bw_⟩⟩
 case rest =>
  clear HC3; (try clear c1); (try clear p2); (try clear c5); (try clear c6); (try clear O0); (try clear P0); (try clear N0); obtain ⟨kq, y0, rfl, HA, HJ2, a0, HB⟩ := hcut
  cases kq with
  | zero => exact absurd HA.out (by simp [impl_nextOf.j0])
  | succ kj2 =>
   have H := HA.out; clear HA; simp only [impl_nextOf.j0] at H; by_cases t0 : y0 = true
   ·subst t0; rw [G_ rfl] at H; obtain rfl := F_ H; go_wp2; go_ret; exact ⟨_, ew_, by first | exact Kd.R_nil _ _ _ _ _ | exact Kd.N_nil _ _ _ _ _ | exact Kd.V_nil _ _ _ _ _ | exact Kd.Q_nil _ _ _ _ _ | exact Kd.S_nil _ _ _ _ _, bw_⟩
   ·replace t0 := L_ t0; subst t0; rw [I_ (show ¬ (false = true) by decide)] at H; have H' := B_ H; clear H; go_wp2; go_loopg [5, 19] kj2 (fun kq v5 v19 w' => ∃ (o0 : List Int) (b0 : Int), v19 = .int .i64 b0 ∧ Aside0 (impl_nextOf.l0 kq l0 o0 l0 (l0.length : Int) b0 a1 = some r) ∧ Aside0 (kq ≤ kj2) ∧ Aside0 (Kd.R (Kd.int .i64) 3 w' w.heap.size (fun k_ => k_ ≠ e0) v5 o0) ∧ Aside0 (w'.heap[e0]? = some (.cells #[.int .i64 a1] 3 (0, 0))) ∧ Aside0 (Below w.heap.size w w'))
    case atStart => exact ⟨(([] : List Int)), (0), ev_, H', ⟨N_ _⟩, ⟨by first | exact Kd.R_nil _ _ _ _ _ | exact Kd.N_nil _ _ _ _ _ | exact Kd.V_nil _ _ _ _ _ | exact Kd.Q_nil _ _ _ _ _ | exact Kd.S_nil _ _ _ _ _⟩, ⟨uK a0.out⟩, ⟨bw_⟩⟩
    case round =>
     clear H'; (try clear c1); (try clear p2); (try clear c5); (try clear c6); (try clear t0); (try clear O0); (try clear P0); (try clear N0); obtain ⟨o0, b0, rfl, HA, HK2, d0, a0, HB⟩ := hrel
     cases gk with
     | zero => exact absurd HA.out (by simp [impl_nextOf.l0])
     | succ k2 =>
      have H := HA.out; clear HA; simp only [impl_nextOf.l0] at H; by_cases p0 : b0 < (l0.length : Int)
      ·rw [G_ p0] at H; have b1 := C_ p0; clear p0; by_cases z0 : 0 ≤ b0
       ·rw [G_ z0] at H; have s1 := C_ z0; clear z0; by_cases C0 : b0 < (l0.length : Int)
        ·rw [G_ C0] at H; have t1 := C_ C0; clear C0; obtain ⟨m0, A18, H⟩ := ob_ H; by_cases D0 : o0.length < 17592186044416
         ·rw [G_ D0] at H; have d1 := B_ D0; clear D0; obtain ⟨Q0, hy_⟩ : ∃ y_ : List Int, y_ = (o0 ++ [m0]) := ⟨_, rfl⟩; replace H : (impl_nextOf.l0 k2 l0 Q0 l0 (l0.length : Int) (wrap64 (b0 + 1)) a1) = some r := hz_
          have e1 := B_ hy_; clear hy_; have H' := B_ H; clear H; have G0 : 0 ≤ (b0 : Int) := od_; have J0 : b0 < (l0.length : Int) := od_; obtain ⟨g1, R0, U0, j1, L0, V0, X0⟩ := at_T43 s0.out b0 G0 J0
          cases j1; replace L0 := (HB.out.cell (D_ w _ L0)).trans L0; have l1 := B_ X0; have HC447_0 := B_ V0; clear X0 V0; replace G0 := E_ G0; replace J0 := E_ J0; go_wp2_with (first | ((with_reducible refine Y_ (N := 7) rfl ?_); refine be_ (N := 7) (cs := #[.slice none 0 0]) (t := 43) ?_; intro u0 hg u1 hbox hb; replace d0 := rb_ d0 hb; have g0 := B_ (hbox); have v1 := B_ ((by rw [hg]; exact (H_ bw_) : w.heap.size ≤ u0)); have x1 := B_ ((by rw [hg]; exact (H_ bw_) : w.heap.size ≤ u0)); replace HB := hw_ hb; have Y0 := nl_ hg a0; have m1 := nr_ hg a0; replace a0 := kb_ a0 hb; clear hb hbox hg; have y1 := m1.out; have z1 := Y0.out; have A1 := bx1 g0.out) | ((with_reducible refine J_ (f := 53) rfl ?_); refine gL_ (some 26) Tryz.func53 #[.slice (some g1) l0.length c0, .func (.func 54) #[] #[.pointer (some ⟨e0, 0, none⟩), .pointer (some ⟨u0, 0, none⟩)]] ?_; (with_reducible refine (hof_nextOf.calls _ _ l0 a1 _ _ ((rd_T43 l0 b0).f0) _ _ m0 _ ?side1 ?side2 ?side3 ?side4 (by exact (by (with_reducible repeat (first | refine blk_drewN ?_ _ | refine X_ ?_ | refine blk_alloc ?_ _)); refine blk_far ?_ Y0.out _; (with_reducible repeat (first | refine blk_drewN ?_ _ | refine X_ ?_ | refine blk_alloc ?_ _)); exact a0.out)) (by exact (by (with_reducible repeat (first | refine blk_drewN ?_ _ | refine X_ ?_ | refine blk_alloc ?_ _)); refine blk_put (cs := #[.slice none 0 0]) ?_ 0 _ rfl; (with_reducible repeat (first | refine blk_drewN ?_ _ | refine X_ ?_ | refine blk_alloc ?_ _)); exact g0.out)) A18.out).mono ?_); (case side1 => exact Kd.C_below s0.out bw_); (case side2 => exact HC0.out); (case side3 => exact Kd.C_below l1.out bw_); (case side4 => exact HC447_0.out); rintro e C1 ⟨rfl, hb⟩; refine ⟨_, rfl, ?_⟩; replace d0 := B_ (Kd.R_below (uR ((O_ (Kd.R_far (p := ⟨u0, 0, none⟩) (Kd.R_types d0.out g0.out (by decide)) (fun _ hk => hk.2) (.slice R0 ((rd_T43 l0 b0).f0).length U0)) (fun _ h_ => h_.1)))) hb); replace a0 := B_ (blk_below (g := e0) (o := .cells #[.int .i64 a1] 3 (0, 0)) zk_ hb); replace g0 := B_ (blk_below (g := u0) (o := .cells #[.slice R0 ((rd_T43 l0 b0).f0).length U0] 43 (0, 0)) zk_ hb); replace HB := hw_ hb; (try clear hb)) | ((with_reducible refine gate_builtin (b := .append) (xs := #[.tmp 23, .tmp 27]) rfl ?_); at_builtin; refine Kd.R_append (Kd.int .i64) (w0 := w) w.heap.size rfl (.tmp 23) (.tmp 27) 26 3 (.int .i64 0) 8 rfl Tryz.underlying26 info3 rfl (by decide) (by omega) u5 o0 m0 [.int .i64 m0] (fun k_ => k_ ≠ e0) (fun _ => False) rfl rfl ?aP (fun _ hk => hk.elim) ?aF ?aO ?aB ?aS ?aL ?_; (case aP => exact rfl); (case aB => exact bw_); (case aF => exact (fun k_ hk => Kd.freshB (uK a0.out) k_ hk)); (case aO => exact (uR d0.out)); (case aS => exact (H_ bw_)); (case aL => have := d1.out; omega); intro v451 D1 ho hb hg hat; rw [← e1.out] at ho; replace a0 := B_ (blk_grown (uK a0.out) hg (Kd.R_away d0.out (fun _ hk => hk))); replace g0 := B_ (blk_grown (uK g0.out) hg (Kd.R_ne d0.out g0.out (by decide))); replace HB := B_ (hb); have n1 := B_ (ho); clear d0; clear ho hb hg hat))
          go_roundg k2
          case measure => have := HJ2.out; have := HK2.out; omega
          case rel => exact ⟨(Q0), (wrap64 (b0 + 1)), ev_, H', ⟨by have := HJ2.out; have := HK2.out; omega⟩, ⟨uR n1.out⟩, ⟨uK a0.out⟩, ⟨bw_⟩⟩
         ·rw [I_ D0] at H; exact absurd H (by simp)
        ·rw [I_ C0] at H; exact absurd H (by simp)
       ·rw [I_ z0] at H; exact absurd H (by simp)
      ·rw [I_ p0] at H; have b1 := K_ p0; clear p0; obtain rfl := F_ H; go_wp2; go_ret; exact ⟨_, ew_, by (with_reducible repeat (first | apply Kd.R_alloc | apply Kd.R_drewN | apply Kd.R_drew)); exact O_ d0.out (fun _ hk => trivial), bw_⟩

end Go.Proofs.YtdebpmdbeogglaaGreat.Q
