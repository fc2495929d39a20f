-- Written by a session's own program (wip/tools/myprint.py) over the kit's printer, out of the translation. Not trusted: Lean checks it.
import Derived.Test.YtdebpmdbeogglaaGreatQ0
import Derived.Test.YtdebpmdbeogglaaGreatQ1
import Derived.Test.YtdebpmdbeogglaaGreatQ8
import Derived.Test.YtdebpmdbeogglaaGreatQ9
-- squeezed
-- renamed
-- squeezed4
namespace Go.Proofs.YtdebpmdbeogglaaGreat.Q
open Go.RowKit Go.Proofs.YtdebpmdbeogglaaGreatW.PrintWords Go.Proofs.YtdebpmdbeogglaaGreatW.PrintLast Go.Proofs.YtdebpmdbeogglaaGreatW.PrintMore
attribute [local go_sem] max2_int min2_int max_two min_two max_three min_three max_four min_four   -- for this text's walks alone
set_option linter.unusedVariables false
set_option linter.unusedSimpArgs false

/-! ### impl_SwapsAt: function 22 -/
def impl_SwapsAt.l0 : Nat → List Int → Int → Int → Int → Option (Int)
 | 0, _, _, _, _ => none
 | k + 1, x5, x6, m0, j0 => if j0 < m0 then ((impl_ringOf.f k x5 j0).bind fun e0 => (if e0 = 2 then (impl_SwapsAt.l0 k x5 (wrap64 (x6 + 1)) m0 (wrap64 (j0 + 1))) else (impl_SwapsAt.l0 k x5 x6 m0 (wrap64 (j0 + 1))))) else (some (wrap64 (Int.tdiv x6 2)))
def impl_SwapsAt.f (k : Nat) (l0 : List (S43)) (a1 : Int) : Option (Int) := (impl_nextOf.f k l0 a1).bind fun a0 => (impl_SwapsAt.l0 k a0 0 (a0.length : Int) 0)
set_option maxHeartbeats 8000000 in
set_option maxRecDepth 100000 in
theorem impl_SwapsAt.calls (k : Nat) (A0 : Option Addr) (c0 : Nat) (l0 : List (S43)) (a1 : Int) (r : Int) (w : World) (hr0 : Kd.C k43 w A0 l0.length l0) (hc0 : l0.length ≤ c0) (h : impl_SwapsAt.f k l0 a1 = some r) :
  Calls Tryz.prog 22 #[.slice A0 l0.length c0, .int .i64 a1] w fun e w' => e = .returned (.int .i64 r) ∧ Below w.heap.size w w' := by
 have r0 := B_ hr0; have HC0 := B_ hc0; clear hr0 hc0; have HB := B_ (A__ w.heap.size w); have H : ((impl_nextOf.f k l0 a1).bind fun a0 => (impl_SwapsAt.l0 k a0 0 (a0.length : Int) 0)) = some r := h; clear h; obtain ⟨a0, A3, H⟩ := ob_ H; have H' := B_ H; clear H; go_enter Tryz.func22, Tryz.ntmps22; go_wp2_with (first | ((with_reducible refine J_ (f := 18) rfl ?_); refine gL_ (some 10) Tryz.func18 #[.slice A0 l0.length c0, .int .i64 a1] ?_; (with_reducible refine (impl_nextOf.calls k _ _ l0 a1 a0 _ ?side1 ?side2 A3.out).mono ?_); (case side1 => exact uC r0.out); (case side2 => exact HC0.out); rintro e w4 ⟨v500, rfl, p0, hb⟩; refine ⟨_, rfl, ?_⟩; have q0 := B_ (Kd.R_lower p0 (H_ (uB HB.out))); replace HB := hB_ HB hb; (try clear hb p0); obtain ⟨n0, o0, s0⟩ := Kd.R_slice q0.out; subst s0))
 go_loopg [6, 13] k (fun kq v6 v13 w' => ∃ (g0 : Int) (b0 : Int), v6 = .int .i64 g0 ∧ v13 = .int .i64 b0 ∧ Aside0 (impl_SwapsAt.l0 kq a0 g0 (a0.length : Int) b0 = some r) ∧ Aside0 (kq ≤ k) ∧ Aside0 (Kd.R (Kd.int .i64) 3 w' w.heap.size (fun _ => True) (.slice n0 a0.length o0) a0) ∧ Aside0 (Below w.heap.size w w'))
 case atStart => exact ⟨(0), (0), ev_, ev_, H', ⟨N_ _⟩, ⟨uR q0.out⟩, ⟨uB HB.out⟩⟩
 case round =>
  clear H'; (try clear c1); (try clear c2); (try clear p2); obtain ⟨g0, b0, rfl, rfl, HA, HK1, d0, HB⟩ := hrel
  cases gk with
  | zero => exact absurd HA.out (by simp [impl_SwapsAt.l0])
  | succ k1 =>
   have H := HA.out; clear HA; simp only [impl_SwapsAt.l0] at H; by_cases c6 : b0 < (a0.length : Int)
   ·rw [G_ c6] at H; have t0 := C_ c6; clear c6; obtain ⟨e0, A7, H⟩ := ob_ H; by_cases c8 : e0 = 2
    ·rw [G_ c8] at H; have u0 := D__ c8; have v0 := T_ c8; clear c8; have H' := B_ H; clear H; go_wp2_with (first | ((with_reducible refine J_ (f := 19) rfl ?_); refine gL_ (some 18) Tryz.func19 #[.slice n0 a0.length o0, .int .i64 b0] ?_; (with_reducible refine (impl_ringOf.calls k1 _ _ a0 b0 e0 _ ?side1 ?side2 A7.out).mono ?_); (case side1 => exact uC (S_ d0.out).2.2); (case side2 => exact (S_ d0.out).2.1); rintro e w' ⟨rfl, ⟨nd, rfl⟩⟩; refine ⟨_, rfl, ?_⟩))
     go_roundg k1
     case measure => have := HK1.out; omega
     case rel => exact ⟨(wrap64 (g0 + 1)), (wrap64 (b0 + 1)), ev_, ev_, H', ⟨by have := HK1.out; omega⟩, ⟨uR d0.out⟩, ⟨uB HB.out⟩⟩
    ·rw [I_ c8] at H; have u0 := P_ c8; have v0 := B__ c8; have H' := B_ H; clear H; go_wp2_with (first | ((with_reducible refine J_ (f := 19) rfl ?_); refine gL_ (some 18) Tryz.func19 #[.slice n0 a0.length o0, .int .i64 b0] ?_; (with_reducible refine (impl_ringOf.calls k1 _ _ a0 b0 e0 _ ?side1 ?side2 A7.out).mono ?_); (case side1 => exact uC (S_ d0.out).2.2); (case side2 => exact (S_ d0.out).2.1); rintro e w' ⟨rfl, ⟨nd, rfl⟩⟩; refine ⟨_, rfl, ?_⟩))
     go_roundg k1
     case measure => have := HK1.out; omega
     case rel => exact ⟨(g0), (wrap64 (b0 + 1)), ev_, ev_, H', ⟨by have := HK1.out; omega⟩, ⟨uR d0.out⟩, ⟨uB HB.out⟩⟩
   ·rw [I_ c6] at H; have t0 := K_ c6; clear c6; obtain rfl := F_ H; go_wp2; go_ret; exact ⟨ew_, uB HB.out⟩

/-! ### impl_RingsAt: function 23 -/
def impl_RingsAt.l0 : Nat → List Int → Int → Int → Int → Option (Int)
 | 0, _, _, _, _ => none
 | k + 1, x5, x6, m0, j0 => if j0 < m0 then ((impl_ringOf.f k x5 j0).bind fun e0 => (if e0 > 2 then (impl_RingsAt.l0 k x5 (wrap64 (x6 + 1)) m0 (wrap64 (j0 + 1))) else (impl_RingsAt.l0 k x5 x6 m0 (wrap64 (j0 + 1))))) else (some x6)
def impl_RingsAt.f (k : Nat) (l0 : List (S43)) (a1 : Int) : Option (Int) := (impl_nextOf.f k l0 a1).bind fun a0 => (impl_RingsAt.l0 k a0 0 (a0.length : Int) 0)
set_option maxHeartbeats 8000000 in
set_option maxRecDepth 100000 in
theorem impl_RingsAt.calls (k : Nat) (A0 : Option Addr) (c0 : Nat) (l0 : List (S43)) (a1 : Int) (r : Int) (w : World) (hr0 : Kd.C k43 w A0 l0.length l0) (hc0 : l0.length ≤ c0) (h : impl_RingsAt.f k l0 a1 = some r) :
  Calls Tryz.prog 23 #[.slice A0 l0.length c0, .int .i64 a1] w fun e w' => e = .returned (.int .i64 r) ∧ Below w.heap.size w w' := by
 have r0 := B_ hr0; have HC0 := B_ hc0; clear hr0 hc0; have HB := B_ (A__ w.heap.size w); have H : ((impl_nextOf.f k l0 a1).bind fun a0 => (impl_RingsAt.l0 k a0 0 (a0.length : Int) 0)) = some r := h; clear h; obtain ⟨a0, A3, H⟩ := ob_ H; have H' := B_ H; clear H; go_enter Tryz.func23, Tryz.ntmps23; go_wp2_with (first | ((with_reducible refine J_ (f := 18) rfl ?_); refine gL_ (some 10) Tryz.func18 #[.slice A0 l0.length c0, .int .i64 a1] ?_; (with_reducible refine (impl_nextOf.calls k _ _ l0 a1 a0 _ ?side1 ?side2 A3.out).mono ?_); (case side1 => exact uC r0.out); (case side2 => exact HC0.out); rintro e w4 ⟨v504, rfl, p0, hb⟩; refine ⟨_, rfl, ?_⟩; have q0 := B_ (Kd.R_lower p0 (H_ (uB HB.out))); replace HB := hB_ HB hb; (try clear hb p0); obtain ⟨n0, o0, s0⟩ := Kd.R_slice q0.out; subst s0))
 go_loopg [6, 13] k (fun kq v6 v13 w' => ∃ (g0 : Int) (b0 : Int), v6 = .int .i64 g0 ∧ v13 = .int .i64 b0 ∧ Aside0 (impl_RingsAt.l0 kq a0 g0 (a0.length : Int) b0 = some r) ∧ Aside0 (kq ≤ k) ∧ Aside0 (Kd.R (Kd.int .i64) 3 w' w.heap.size (fun _ => True) (.slice n0 a0.length o0) a0) ∧ Aside0 (Below w.heap.size w w'))
 case atStart => exact ⟨(0), (0), ev_, ev_, H', ⟨N_ _⟩, ⟨uR q0.out⟩, ⟨uB HB.out⟩⟩
 case round =>
  clear H'; (try clear c1); (try clear c2); (try clear p2); obtain ⟨g0, b0, rfl, rfl, HA, HK1, d0, HB⟩ := hrel
  cases gk with
  | zero => exact absurd HA.out (by simp [impl_RingsAt.l0])
  | succ k1 =>
   have H := HA.out; clear HA; simp only [impl_RingsAt.l0] at H; by_cases c6 : b0 < (a0.length : Int)
   ·rw [G_ c6] at H; have t0 := C_ c6; clear c6; obtain ⟨e0, A7, H⟩ := ob_ H; by_cases c8 : e0 > 2
    ·rw [G_ c8] at H; have u0 := C_ c8; clear c8; have H' := B_ H; clear H; go_wp2_with (first | ((with_reducible refine J_ (f := 19) rfl ?_); refine gL_ (some 18) Tryz.func19 #[.slice n0 a0.length o0, .int .i64 b0] ?_; (with_reducible refine (impl_ringOf.calls k1 _ _ a0 b0 e0 _ ?side1 ?side2 A7.out).mono ?_); (case side1 => exact uC (S_ d0.out).2.2); (case side2 => exact (S_ d0.out).2.1); rintro e w' ⟨rfl, ⟨nd, rfl⟩⟩; refine ⟨_, rfl, ?_⟩))
     go_roundg k1
     case measure => have := HK1.out; omega
     case rel => exact ⟨(wrap64 (g0 + 1)), (wrap64 (b0 + 1)), ev_, ev_, H', ⟨by have := HK1.out; omega⟩, ⟨uR d0.out⟩, ⟨uB HB.out⟩⟩
    ·rw [I_ c8] at H; have u0 := K_ c8; clear c8; have H' := B_ H; clear H; go_wp2_with (first | ((with_reducible refine J_ (f := 19) rfl ?_); refine gL_ (some 18) Tryz.func19 #[.slice n0 a0.length o0, .int .i64 b0] ?_; (with_reducible refine (impl_ringOf.calls k1 _ _ a0 b0 e0 _ ?side1 ?side2 A7.out).mono ?_); (case side1 => exact uC (S_ d0.out).2.2); (case side2 => exact (S_ d0.out).2.1); rintro e w' ⟨rfl, ⟨nd, rfl⟩⟩; refine ⟨_, rfl, ?_⟩))
     go_roundg k1
     case measure => have := HK1.out; omega
     case rel => exact ⟨(g0), (wrap64 (b0 + 1)), ev_, ev_, H', ⟨by have := HK1.out; omega⟩, ⟨uR d0.out⟩, ⟨uB HB.out⟩⟩
   ·rw [I_ c6] at H; have t0 := K_ c6; clear c6; obtain rfl := F_ H; go_wp2; go_ret; exact ⟨ew_, uB HB.out⟩

/-! ### impl_Crossings: function 8 -/
def impl_Crossings.l0 : Nat → List (S43) → Int → Int → Option (Int)
 | 0, _, _, _ => none
 | k + 1, x0, x3, x4 => if 0 < (x0.length : Int) then (if x4 < (wrap64 ((((rd_T43 x0 0).f0).length : Int) - 1)) then ((impl_SwapsAt.f k x0 x4).bind fun o0 => ((impl_RingsAt.f k x0 x4).bind fun p0 => (impl_Crossings.l0 k x0 (wrap64 (x3 + (wrap64 ((wrap64 (2 * o0)) + p0)))) (wrap64 (x4 + 1))))) else (some x3)) else (none)
def impl_Crossings.f (k : Nat) (l0 : List (S43)) : Option (Int) := (impl_areRegular.f k l0).bind fun j0 => (if j0 = true then (impl_Crossings.l0 k l0 0 0) else (some (-1)))
set_option maxHeartbeats 8000000 in
set_option maxRecDepth 100000 in
theorem impl_Crossings.calls (k : Nat) (A0 : Option Addr) (c0 : Nat) (l0 : List (S43)) (r : Int) (w : World) (hr0 : Kd.C k43 w A0 l0.length l0) (hc0 : l0.length ≤ c0) (h : impl_Crossings.f k l0 = some r) :
  Calls Tryz.prog 8 #[.slice A0 l0.length c0] w fun e w' => e = .returned (.int .i64 r) ∧ Below w.heap.size w w' := by
 have g0 := B_ hr0; have HC0 := B_ hc0; clear hr0 hc0; have HB := B_ (A__ w.heap.size w); have H : ((impl_areRegular.f k l0).bind fun j0 => (if j0 = true then (impl_Crossings.l0 k l0 0 0) else (some (-1)))) = some r := h; clear h; obtain ⟨j0, A2, H⟩ := ob_ H; by_cases c3 : j0 = true
 ·subst c3; rw [G_ rfl] at H; have H' := B_ H; clear H; go_enter Tryz.func8, Tryz.ntmps8; go_wp2_with (first | ((with_reducible refine J_ (f := 16) rfl ?_); refine gL_ (some 6) Tryz.func16 #[.slice A0 l0.length c0] ?_; (with_reducible refine (impl_areRegular.calls k _ _ l0 true _ ?side1 ?side2 A2.out).mono ?_); (case side1 => exact uC g0.out); (case side2 => exact HC0.out); rintro e w4 ⟨rfl, hb⟩; refine ⟨_, rfl, ?_⟩; replace HB := hB_ HB hb; (try clear hb)))
  go_loopg [3, 4] k (fun kq v3 v4 w' => ∃ (q0 : Int) (b0 : Int), v3 = .int .i64 q0 ∧ v4 = .int .i64 b0 ∧ Aside0 (impl_Crossings.l0 kq l0 q0 b0 = some r) ∧ Aside0 (kq ≤ k) ∧ Aside0 (Below w.heap.size w w'))
  case atStart => exact ⟨(0), (0), ev_, ev_, H', ⟨N_ _⟩, ⟨uB HB.out⟩⟩
  case round =>
   clear H'; (try clear c1); (try clear p2); (try clear c3); obtain ⟨q0, b0, rfl, rfl, HA, HK1, HB⟩ := hrel
   cases gk with
   | zero => exact absurd HA.out (by simp [impl_Crossings.l0])
   | succ k1 =>
    have H := HA.out; clear HA; simp only [impl_Crossings.l0] at H; by_cases c5 : 0 < (l0.length : Int)
    ·rw [G_ c5] at H; have z0 := C_ c5; have C0 : decide (0 < l0.length) = true := C_ (by omega); clear c5; by_cases c6 : b0 < (wrap64 ((((rd_T43 l0 0).f0).length : Int) - 1))
     ·rw [G_ c6] at H; have t0 := C_ c6; clear c6; obtain ⟨o0, A7, H⟩ := ob_ H; obtain ⟨p0, A8, H⟩ := ob_ H; have H' := B_ H; clear H; have d0 : 0 ≤ (0 : Int) := (by omega); have e0 : 0 < (l0.length : Int) := od_; obtain ⟨r0, u0, v0, s0, a0, m0, n0⟩ := at_T43 g0.out 0 d0 e0
      cases s0; have qi508 : (0 < l0.length) = True := E_ (by omega); (try rw [show ((0 : Int)).toNat = 0 from rfl] at a0); (try rw [Addr.add_zero'] at a0); replace a0 := (HB.out.cell (D_ w _ a0)).trans a0; have y0 := B_ n0; have HC508_0 := B_ m0; clear n0 m0; replace d0 := E_ d0; replace e0 := E_ e0; go_wp2_with (first | ((with_reducible refine J_ (f := 22) rfl ?_); refine gL_ (some 21) Tryz.func22 #[.slice (some r0) l0.length c0, .int .i64 b0] ?_; (with_reducible refine (impl_SwapsAt.calls k1 _ _ l0 b0 o0 _ ?side1 ?side2 A7.out).mono ?_); (case side1 => exact cu_ g0 HB); (case side2 => exact HC0.out); rintro e w9 ⟨rfl, hb⟩; refine ⟨_, rfl, ?_⟩; replace HB := hB_ HB hb; (try clear hb)) | ((with_reducible refine J_ (f := 23) rfl ?_); refine gL_ (some 25) Tryz.func23 #[.slice (some r0) l0.length c0, .int .i64 b0] ?_; (with_reducible refine (impl_RingsAt.calls k1 _ _ l0 b0 p0 _ ?side1 ?side2 A8.out).mono ?_); (case side1 => exact cu_ g0 HB); (case side2 => exact HC0.out); rintro e D0 ⟨rfl, hb⟩; refine ⟨_, rfl, ?_⟩; replace HB := hB_ HB hb; (try clear hb)))
      go_roundg k1
      case measure => have := HK1.out; omega
      case rel => exact ⟨(wrap64 (q0 + (wrap64 ((wrap64 (2 * o0)) + p0)))), (wrap64 (b0 + 1)), ev_, ev_, H', ⟨by have := HK1.out; omega⟩, ⟨uB HB.out⟩⟩
     ·rw [I_ c6] at H; have t0 := K_ c6; clear c6; obtain rfl := F_ H; have d0 : 0 ≤ (0 : Int) := (by omega); have e0 : 0 < (l0.length : Int) := od_; obtain ⟨r0, u0, v0, s0, a0, m0, n0⟩ := at_T43 g0.out 0 d0 e0
      cases s0; have qi508 : (0 < l0.length) = True := E_ (by omega); (try rw [show ((0 : Int)).toNat = 0 from rfl] at a0); (try rw [Addr.add_zero'] at a0); replace a0 := (HB.out.cell (D_ w _ a0)).trans a0; have y0 := B_ n0; have HC508_0 := B_ m0; clear n0 m0; replace d0 := E_ d0; replace e0 := E_ e0; go_wp2; go_ret; exact ⟨ew_, uB HB.out⟩
    ·rw [I_ c5] at H; exact absurd H (by simp)
 ·replace c3 := L_ c3; subst c3; rw [I_ (show ¬ (false = true) by decide)] at H; obtain rfl := F_ H; go_enter Tryz.func8, Tryz.ntmps8; go_wp2_with (first | ((with_reducible refine J_ (f := 16) rfl ?_); refine gL_ (some 6) Tryz.func16 #[.slice A0 l0.length c0] ?_; (with_reducible refine (impl_areRegular.calls k _ _ l0 false _ ?side1 ?side2 A2.out).mono ?_); (case side1 => exact uC g0.out); (case side2 => exact HC0.out); rintro e E0 ⟨rfl, hb⟩; refine ⟨_, rfl, ?_⟩; replace HB := hB_ HB hb; (try clear hb)))
  go_ret; exact ⟨ew_, uB HB.out⟩

/-! ### spec_l13Ok: function 24 -/
mutual
def spec_l13Ok.j0 : Nat → List (S43) → Bool → Option (Bool)
 | 0, _, _ => none
 | k + 1, x0, N2 => if N2 = true then (some false) else (spec_l13Ok.l0 k x0 0)
def spec_l13Ok.l0 : Nat → List (S43) → Int → Option (Bool)
 | 0, _, _ => none
 | k + 1, x0, x3 => if x3 < (x0.length : Int) then (if 0 ≤ x3 then (if 0 < (x0.length : Int) then (if (((rd_T43 x0 x3).f0).length : Int) = (((rd_T43 x0 0).f0).length : Int) then (spec_l13Ok.l1 k x0 x3 0) else (some false)) else (none)) else (none)) else (some true)
def spec_l13Ok.l1 : Nat → List (S43) → Int → Int → Option (Bool)
 | 0, _, _, _ => none
 | k + 1, x0, x3, x4 => if x4 < x3 then (spec_l13Ok.l2 k x0 x3 x4 0) else (spec_l13Ok.l0 k x0 (wrap64 (x3 + 1)))
def spec_l13Ok.l2 : Nat → List (S43) → Int → Int → Int → Option (Bool)
 | 0, _, _, _, _ => none
 | k + 1, x0, x3, x4, x5 => if 0 < (x0.length : Int) then (if x5 < (((rd_T43 x0 0).f0).length : Int) then (if 0 ≤ x3 then (if x3 < (x0.length : Int) then (if 0 ≤ x5 then (if x5 < (((rd_T43 x0 x3).f0).length : Int) then (if 0 ≤ x4 then (if x4 < (x0.length : Int) then (if x5 < (((rd_T43 x0 x4).f0).length : Int) then (if (rd ((rd_T43 x0 x3).f0) x5) = (rd ((rd_T43 x0 x4).f0) x5) then (if (((rd_T43 x0 0).f0).length : Int) > 1 then (some false) else (spec_l13Ok.l2 k x0 x3 x4 (wrap64 (x5 + 1)))) else (spec_l13Ok.l2 k x0 x3 x4 (wrap64 (x5 + 1)))) else (none)) else (none)) else (none)) else (none)) else (none)) else (none)) else (none)) else (spec_l13Ok.l1 k x0 x3 (wrap64 (x4 + 1)))) else (none)
end
def spec_l13Ok.f (k : Nat) (l0 : List (S43)) : Option (Bool) := (spec_l01In.f (l0.length : Int) 1 10).bind fun n1 => (if n1 = true then (if 0 < (l0.length : Int) then (spec_l13Ok.j0 k l0 ((((rd_T43 l0 0).f0).length : Int) == 0)) else (none)) else (spec_l13Ok.j0 k l0 true))
set_option maxHeartbeats 8000000 in
set_option maxRecDepth 100000 in
theorem spec_l13Ok.calls (k : Nat) (A0 : Option Addr) (c0 : Nat) (l0 : List (S43)) (r : Bool) (w : World) (hr0 : Kd.C k43 w A0 l0.length l0) (hc0 : l0.length ≤ c0) (h : spec_l13Ok.f k l0 = some r) :
  Calls Tryz.prog 24 #[.slice A0 l0.length c0] w fun e w' => e = .returned (.bool r) ∧ Drawn0 w w' := by
 have e0 := B_ hr0; have HC0 := B_ hc0; clear hr0 hc0; have H : ((spec_l01In.f (l0.length : Int) 1 10).bind fun n1 => (if n1 = true then (if 0 < (l0.length : Int) then (spec_l13Ok.j0 k l0 ((((rd_T43 l0 0).f0).length : Int) == 0)) else (none)) else (spec_l13Ok.j0 k l0 true))) = some r := h; clear h; have HC2 := B_ H; clear H; go_enter Tryz.func24, Tryz.ntmps24; go_upto_region 1 with (fail)
 repeat (go_quiet (fail); go_upto_region 1 with (fail))
 go_cut [17] (fun v17 wc => ∃ (kq : Nat) (J1 : Bool), v17 = .bool J1 ∧ Aside0 (spec_l13Ok.j0 kq l0 J1 = some r) ∧ Aside0 (kq ≤ k) ∧ Drawn0 w wc)
 case first =>
  have H := HC2.out; clear HC2; obtain ⟨n1, A3, H⟩ := ob_ H; by_cases c4 : n1 = true
  ·subst c4; rw [G_ rfl] at H; by_cases c5 : 0 < (l0.length : Int)
   ·rw [G_ c5] at H; have g1 := C_ c5; have L1 : decide (0 < l0.length) = true := C_ (by omega); clear c5; (first | rw [g1] | (simp only [i64_w, i32_w]; rw [g1]) | skip); have H' := B_ H; clear H
    repeat ((fail_if_success (first | clear z_ | done)); go_wp2_with (first | (go_at_call 55; (with_reducible refine (spec_l01In.calls (l0.length : Int) 1 10 true _ A3.out).mono ?_); rintro e w' ⟨rfl, ⟨nd, rfl⟩⟩; (try first | exact ⟨rfl, _, F__ _ _ _⟩ | exact ⟨rfl, _, Eq.trans (F__ _ _ _) (congrArg (World.drewN _) (Nat.add_assoc _ _ _))⟩); have q0 : 0 ≤ (0 : Int) := (by omega); have r0 : 0 < (l0.length : Int) := od_; obtain ⟨O2, P2, Q2, X1, J0, o1, p1⟩ := at_T43 e0.out 0 q0 r0; cases X1; have qi512 : (0 < l0.length) = True := E_ (by omega); (try rw [show ((0 : Int)).toNat = 0 from rfl] at J0); (try rw [Addr.add_zero'] at J0); have R2 := B_ p1; have HC512_0 := B_ o1; clear p1 o1; replace q0 := E_ q0; replace r0 := E_ r0)); first | go_quiet (first | (go_at_call 55; (with_reducible refine (spec_l01In.calls (l0.length : Int) 1 10 true _ A3.out).mono ?_); rintro e w' ⟨rfl, ⟨nd, rfl⟩⟩; (try first | exact ⟨rfl, _, F__ _ _ _⟩ | exact ⟨rfl, _, Eq.trans (F__ _ _ _) (congrArg (World.drewN _) (Nat.add_assoc _ _ _))⟩); have q0 : 0 ≤ (0 : Int) := (by omega); have r0 : 0 < (l0.length : Int) := od_; obtain ⟨O2, P2, Q2, X1, J0, o1, p1⟩ := at_T43 e0.out 0 q0 r0; cases X1; have qi512 : (0 < l0.length) = True := E_ (by omega); (try rw [show ((0 : Int)).toNat = 0 from rfl] at J0); (try rw [Addr.add_zero'] at J0); have R2 := B_ p1; have HC512_0 := B_ o1; clear p1 o1; replace q0 := E_ q0; replace r0 := E_ r0)) | have z_ := True.intro | skip)
    (try clear z_); go_meet
    case rel => exact ⟨_, (((((rd_T43 l0 0).f0).length : Int) == 0)), ev_, H', ⟨by first | omega | exact N_ _⟩, by repeat (first | exact R_ _ | apply Q_)⟩
   ·rw [I_ c5] at H; exact absurd H (by simp)
  ·replace c4 := L_ c4; subst c4; rw [I_ (show ¬ (false = true) by decide)] at H; have H' := B_ H; clear H
   repeat ((fail_if_success (first | clear z_ | done)); go_wp2_with (first | (go_at_call 55; (with_reducible refine (spec_l01In.calls (l0.length : Int) 1 10 false _ A3.out).mono ?_); rintro e w' ⟨rfl, ⟨nd, rfl⟩⟩; (try first | exact ⟨rfl, _, F__ _ _ _⟩ | exact ⟨rfl, _, Eq.trans (F__ _ _ _) (congrArg (World.drewN _) (Nat.add_assoc _ _ _))⟩))); first | go_quiet (first | (go_at_call 55; (with_reducible refine (spec_l01In.calls (l0.length : Int) 1 10 false _ A3.out).mono ?_); rintro e w' ⟨rfl, ⟨nd, rfl⟩⟩; (try first | exact ⟨rfl, _, F__ _ _ _⟩ | exact ⟨rfl, _, Eq.trans (F__ _ _ _) (congrArg (World.drewN _) (Nat.add_assoc _ _ _))⟩))) | have z_ := True.intro | skip)
   (try clear z_); go_meet
   case rel => exact ⟨_, (true), ev_, H', ⟨by first | omega | exact N_ _⟩, by repeat (first | exact R_ _ | apply Q_)⟩
 case rest =>
  clear HC2; (try clear c2); (try clear p2); (try clear c4); (try clear c5); (try clear g1); (try clear L1); (try clear p5); (try clear q5); (try clear hx5); (try clear qi5); (try clear J0); (try clear q0); (try clear r0); obtain ⟨kq, J1, rfl, HA, HJ1, ⟨mc1, rfl⟩⟩ := hcut
  cases kq with
  | zero => exact absurd HA.out (by simp [spec_l13Ok.j0])
  | succ kj1 =>
   have H := HA.out; clear HA; simp only [spec_l13Ok.j0] at H; by_cases c6 : J1 = true
   ·subst c6; rw [G_ rfl] at H; obtain rfl := F_ H; go_wp2
    repeat (go_quiet (fail); try go_wp2)
    go_ret; exact ⟨by first | rfl | (simp; done) | (simp [*]; done), by repeat (first | exact R_ _ | apply Q_)⟩
   ·replace c6 := L_ c6; subst c6; rw [I_ (show ¬ (false = true) by decide)] at H; have H' := B_ H; clear H; go_wp2
    repeat (go_quiet (fail); try go_wp2)
    go_loopg [3] kj1 (fun kq v3 w' => ∃ (a0 : Int), v3 = .int .i64 a0 ∧ Aside0 (spec_l13Ok.l0 kq l0 a0 = some r) ∧ Aside0 (kq ≤ kj1) ∧ Drawn0 w w')
    case atStart => exact ⟨(0), ev_, H', ⟨N_ _⟩, by repeat (first | exact R_ _ | apply Q_)⟩
    case round =>
     clear H'; (try clear c1); (try clear c2); (try clear p2); (try clear c4); (try clear c5); (try clear g1); (try clear L1); (try clear p5); (try clear q5); (try clear hx5); (try clear qi5); (try clear c6); (try clear J0); (try clear q0); (try clear r0); obtain ⟨a0, rfl, HA, HK2, ⟨m2, rfl⟩⟩ := hrel
     cases gk with
     | zero => exact absurd HA.out (by simp [spec_l13Ok.l0])
     | succ k2 =>
      have H := HA.out; clear HA; simp only [spec_l13Ok.l0] at H; by_cases c7 : a0 < (l0.length : Int)
      ·rw [G_ c7] at H; have Y1 := C_ c7; clear c7; by_cases c8 : 0 ≤ a0
       ·rw [G_ c8] at H; have t2 := C_ c8; clear c8; by_cases c9 : 0 < (l0.length : Int)
        ·rw [G_ c9] at H; have u2 := C_ c9; have v2 : decide (0 < l0.length) = true := C_ (by omega); clear c9; by_cases o0 : (((rd_T43 l0 a0).f0).length : Int) = (((rd_T43 l0 0).f0).length : Int)
         ·rw [G_ o0] at H; have Z1 := D__ o0; have a2 := T_ o0; have b2 : (((rd_T43 l0 a0).f0).length == ((rd_T43 l0 0).f0).length) = true := by first | simpa using o0 | (simp at o0 ⊢; omega)
          clear o0; have H' := B_ H; clear H; have L0 : 0 ≤ (a0 : Int) := od_; have M0 : a0 < (l0.length : Int) := od_; obtain ⟨g0, U2, V2, d2, e2, q1, r1⟩ := at_T43 e0.out a0 L0 M0
          cases d2; have X2 := B_ r1; have HC513_0 := B_ q1; clear r1 q1; replace L0 := E_ L0; replace M0 := E_ M0; have N0 : 0 ≤ (0 : Int) := (by omega); have O0 : 0 < (l0.length : Int) := od_; obtain ⟨g2, Y2, Z2, j2, V0, s1, t1⟩ := at_T43 e0.out 0 N0 O0; obtain rfl : g0 = g2 := (by injection j2); have qi514 : (0 < l0.length) = True := E_ (by omega); (try rw [show ((0 : Int)).toNat = 0 from rfl] at V0); (try rw [Addr.add_zero'] at V0); have a3 := B_ t1; have HC514_0 := B_ s1; clear t1 s1; replace N0 := E_ N0; replace O0 := E_ O0; go_wp2
          repeat (go_quiet (fail); try go_wp2)
          go_loopg [4] k2 (fun kq v4 w' => ∃ (d0 : Int), v4 = .int .i64 d0 ∧ Aside0 (spec_l13Ok.l1 kq l0 a0 d0 = some r) ∧ Aside0 (kq ≤ k2) ∧ Drawn0 w w')
          case atStart => exact ⟨(0), ev_, H', ⟨N_ _⟩, by repeat (first | exact R_ _ | apply Q_)⟩
          case round =>
           clear H'; (try clear c1); (try clear c2); (try clear p2); (try clear c4); (try clear c5); (try clear g1); (try clear L1); (try clear p5); (try clear q5); (try clear hx5); (try clear qi5); (try clear c6); (try clear c7); (try clear Y1); (try clear c8); (try clear t2); (try clear c9); (try clear u2); (try clear v2); (try clear o0); (try clear Z1); (try clear a2); (try clear b2); (try clear J0); (try clear e2); (try clear V0); (try clear q0); (try clear L0); (try clear N0); (try clear r0); (try clear M0); (try clear O0); obtain ⟨d0, rfl, HA, HK3, ⟨m3, rfl⟩⟩ := hrel
           cases gk with
           | zero => exact absurd HA.out (by simp [spec_l13Ok.l1])
           | succ k3 =>
            have H := HA.out; clear HA; simp only [spec_l13Ok.l1] at H; by_cases X0 : d0 < a0
            ·rw [G_ X0] at H; have x2 := C_ X0; clear X0; have H' := B_ H; clear H; go_wp2
             repeat (go_quiet (fail); try go_wp2)
             go_loopg [5] k3 (fun kq v5 w' => ∃ (b0 : Int), v5 = .int .i64 b0 ∧ Aside0 (spec_l13Ok.l2 kq l0 a0 d0 b0 = some r) ∧ Aside0 (kq ≤ k3) ∧ Drawn0 w w')
             case atStart => exact ⟨(0), ev_, H', ⟨N_ _⟩, by repeat (first | exact R_ _ | apply Q_)⟩
             case round =>
              clear H'; (try clear c1); (try clear c2); (try clear p2); (try clear c4); (try clear c5); (try clear g1); (try clear L1); (try clear p5); (try clear q5); (try clear hx5); (try clear qi5); (try clear c6); (try clear c7); (try clear Y1); (try clear c8); (try clear t2); (try clear c9); (try clear u2); (try clear v2); (try clear o0); (try clear Z1); (try clear a2); (try clear b2); (try clear X0); (try clear x2); (try clear J0); (try clear e2); (try clear V0); (try clear q0); (try clear L0); (try clear N0); (try clear r0); (try clear M0); (try clear O0); obtain ⟨b0, rfl, HA, HK4, ⟨m4, rfl⟩⟩ := hrel
              cases gk with
              | zero => exact absurd HA.out (by simp [spec_l13Ok.l2])
              | succ k4 =>
               have H := HA.out; clear HA; simp only [spec_l13Ok.l2] at H; by_cases M1 : 0 < (l0.length : Int)
               ·rw [G_ M1] at H; have o3 := C_ M1; have p3 : decide (0 < l0.length) = true := C_ (by omega); clear M1; by_cases j1 : b0 < (((rd_T43 l0 0).f0).length : Int)
                ·rw [G_ j1] at H; have b3 := C_ j1; clear j1; by_cases N1 : 0 ≤ a0
                 ·rw [G_ N1] at H; have q3 := C_ N1; clear N1; by_cases O1 : a0 < (l0.length : Int)
                  ·rw [G_ O1] at H; have r3 := C_ O1; clear O1; by_cases P1 : 0 ≤ b0
                   ·rw [G_ P1] at H; have s3 := C_ P1; clear P1; by_cases Q1 : b0 < (((rd_T43 l0 a0).f0).length : Int)
                    ·rw [G_ Q1] at H; have t3 := C_ Q1; clear Q1; by_cases R1 : 0 ≤ d0
                     ·rw [G_ R1] at H; have u3 := C_ R1; clear R1; by_cases U1 : d0 < (l0.length : Int)
                      ·rw [G_ U1] at H; have y3 := C_ U1; clear U1; by_cases V1 : b0 < (((rd_T43 l0 d0).f0).length : Int)
                       ·rw [G_ V1] at H; have z3 := C_ V1; clear V1; by_cases Y0 : (rd ((rd_T43 l0 a0).f0) b0) = (rd ((rd_T43 l0 d0).f0) b0)
                        ·rw [G_ Y0] at H; have c3 := D__ Y0; have d3 := T_ Y0; clear Y0; by_cases m1 : (((rd_T43 l0 0).f0).length : Int) > 1
                         ·rw [G_ m1] at H; have e3 := C_ m1; have g3 : decide (1 < ((rd_T43 l0 0).f0).length) = true := C_ (by omega); clear m1; obtain rfl := F_ H; have m0 : 0 ≤ (0 : Int) := (by omega); have n0 : 0 < (l0.length : Int) := od_; obtain ⟨Z0, n2, o2, a1, p0, s0, t0⟩ := at_T43 e0.out 0 m0 n0; obtain rfl : g0 = Z0 := (by injection a1); have qi515 : (0 < l0.length) = True := E_ (by omega); (try rw [show ((0 : Int)).toNat = 0 from rfl] at p0); (try rw [Addr.add_zero'] at p0); have q2 := B_ t0; have HC515_0 := B_ s0; clear t0 s0; replace m0 := E_ m0; replace n0 := E_ n0; have u0 : 0 ≤ (a0 : Int) := od_; have v0 : a0 < (l0.length : Int) := od_; obtain ⟨u1, y2, z2, v1, A2, P0, Q0⟩ := at_T43 e0.out a0 u0 v0; obtain rfl : g0 = u1 := (by injection v1); have x1 := B_ Q0; have HC516_0 := B_ P0; clear Q0 P0; replace u0 := E_ u0; replace v0 := E_ v0; have y0 : 0 ≤ (b0 : Int) := od_; have z0 : b0 < (((rd_T43 l0 a0).f0).length : Int) := od_; obtain ⟨C2, y1, D2⟩ := U_ x1.out b0 y0 z0
                          cases y1; replace y0 := E_ y0; replace z0 := E_ z0; have C0 : 0 ≤ (d0 : Int) := od_; have D0 : d0 < (l0.length : Int) := od_; obtain ⟨z1, E2, G2, A1, J2, R0, U0⟩ := at_T43 e0.out d0 C0 D0; obtain rfl : g0 = z1 := (by injection A1); have C1 := B_ U0; have HC518_0 := B_ R0; clear U0 R0; replace C0 := E_ C0; replace D0 := E_ D0; have E0 : 0 ≤ (b0 : Int) := od_; have G0 : b0 < (((rd_T43 l0 d0).f0).length : Int) := od_; obtain ⟨L2, D1, M2⟩ := U_ C1.out b0 E0 G0
                          cases D1; replace E0 := E_ E0; replace G0 := E_ G0; have b1 : 0 ≤ (0 : Int) := (by omega); have d1 : 0 < (l0.length : Int) := od_; obtain ⟨r2, j3, l3, s2, e1, E1, G1⟩ := at_T43 e0.out 0 b1 d1; obtain rfl : g0 = r2 := (by injection s2); have qi520 : (0 < l0.length) = True := E_ (by omega); (try rw [show ((0 : Int)).toNat = 0 from rfl] at e1); (try rw [Addr.add_zero'] at e1); have n3 := B_ G1; have HC520_0 := B_ E1; clear G1 E1; replace b1 := E_ b1; replace d1 := E_ d1; have ea_ := F_ (p0.symm.trans e1); injection ea_ with ea_ en_ ec_
                          subst ea_; subst ec_; clear en_; go_wp2
                          repeat (go_quiet (fail); try go_wp2)
                          go_ret; exact ⟨by first | rfl | (simp; done) | (simp [*]; done), by repeat (first | exact R_ _ | apply Q_)⟩
                         ·rw [I_ m1] at H; have e3 := K_ m1; have g3 : decide (1 < ((rd_T43 l0 0).f0).length) = false := K_ (by omega); clear m1; have H' := B_ H; clear H; have m0 : 0 ≤ (0 : Int) := (by omega); have n0 : 0 < (l0.length : Int) := od_; obtain ⟨Z0, n2, o2, a1, p0, s0, t0⟩ := at_T43 e0.out 0 m0 n0; obtain rfl : g0 = Z0 := (by injection a1); have qi515 : (0 < l0.length) = True := E_ (by omega); (try rw [show ((0 : Int)).toNat = 0 from rfl] at p0); (try rw [Addr.add_zero'] at p0); have q2 := B_ t0; have HC515_0 := B_ s0; clear t0 s0; replace m0 := E_ m0; replace n0 := E_ n0; have u0 : 0 ≤ (a0 : Int) := od_; have v0 : a0 < (l0.length : Int) := od_; obtain ⟨u1, y2, z2, v1, A2, P0, Q0⟩ := at_T43 e0.out a0 u0 v0; obtain rfl : g0 = u1 := (by injection v1); have x1 := B_ Q0; have HC516_0 := B_ P0; clear Q0 P0; replace u0 := E_ u0; replace v0 := E_ v0; have y0 : 0 ≤ (b0 : Int) := od_; have z0 : b0 < (((rd_T43 l0 a0).f0).length : Int) := od_; obtain ⟨C2, y1, D2⟩ := U_ x1.out b0 y0 z0
                          cases y1; replace y0 := E_ y0; replace z0 := E_ z0; have C0 : 0 ≤ (d0 : Int) := od_; have D0 : d0 < (l0.length : Int) := od_; obtain ⟨z1, E2, G2, A1, J2, R0, U0⟩ := at_T43 e0.out d0 C0 D0; obtain rfl : g0 = z1 := (by injection A1); have C1 := B_ U0; have HC518_0 := B_ R0; clear U0 R0; replace C0 := E_ C0; replace D0 := E_ D0; have E0 : 0 ≤ (b0 : Int) := od_; have G0 : b0 < (((rd_T43 l0 d0).f0).length : Int) := od_; obtain ⟨L2, D1, M2⟩ := U_ C1.out b0 E0 G0
                          cases D1; replace E0 := E_ E0; replace G0 := E_ G0; have b1 : 0 ≤ (0 : Int) := (by omega); have d1 : 0 < (l0.length : Int) := od_; obtain ⟨r2, j3, l3, s2, e1, E1, G1⟩ := at_T43 e0.out 0 b1 d1; obtain rfl : g0 = r2 := (by injection s2); have qi520 : (0 < l0.length) = True := E_ (by omega); (try rw [show ((0 : Int)).toNat = 0 from rfl] at e1); (try rw [Addr.add_zero'] at e1); have n3 := B_ G1; have HC520_0 := B_ E1; clear G1 E1; replace b1 := E_ b1; replace d1 := E_ d1; have ea_ := F_ (p0.symm.trans e1); injection ea_ with ea_ en_ ec_
                          subst ea_; subst ec_; clear en_; go_wp2
                          repeat (go_quiet (fail); try go_wp2)
                          go_roundg k4
                          case measure => have := HJ1.out; have := HK2.out; have := HK3.out; have := HK4.out; omega
                          case rel => exact ⟨(wrap64 (b0 + 1)), ev_, H', ⟨by have := HJ1.out; have := HK2.out; have := HK3.out; have := HK4.out; omega⟩, by repeat (first | exact R_ _ | apply Q_)⟩
                        ·rw [I_ Y0] at H; have c3 := P_ Y0; have d3 := B__ Y0; have H' := B_ H; clear H; have m0 : 0 ≤ (0 : Int) := (by omega); have n0 : 0 < (l0.length : Int) := od_; obtain ⟨Z0, n2, o2, a1, p0, s0, t0⟩ := at_T43 e0.out 0 m0 n0; obtain rfl : g0 = Z0 := (by injection a1); have qi515 : (0 < l0.length) = True := E_ (by omega); (try rw [show ((0 : Int)).toNat = 0 from rfl] at p0); (try rw [Addr.add_zero'] at p0); have q2 := B_ t0; have HC515_0 := B_ s0; clear t0 s0; replace m0 := E_ m0; replace n0 := E_ n0; have u0 : 0 ≤ (a0 : Int) := od_; have v0 : a0 < (l0.length : Int) := od_; obtain ⟨u1, y2, z2, v1, A2, P0, Q0⟩ := at_T43 e0.out a0 u0 v0; obtain rfl : g0 = u1 := (by injection v1); have x1 := B_ Q0; have HC516_0 := B_ P0; clear Q0 P0; replace u0 := E_ u0; replace v0 := E_ v0; have y0 : 0 ≤ (b0 : Int) := od_; have z0 : b0 < (((rd_T43 l0 a0).f0).length : Int) := od_; obtain ⟨C2, y1, D2⟩ := U_ x1.out b0 y0 z0
                         cases y1; replace y0 := E_ y0; replace z0 := E_ z0; have C0 : 0 ≤ (d0 : Int) := od_; have D0 : d0 < (l0.length : Int) := od_; obtain ⟨z1, E2, G2, A1, J2, R0, U0⟩ := at_T43 e0.out d0 C0 D0; obtain rfl : g0 = z1 := (by injection A1); have C1 := B_ U0; have HC518_0 := B_ R0; clear U0 R0; replace C0 := E_ C0; replace D0 := E_ D0; have E0 : 0 ≤ (b0 : Int) := od_; have G0 : b0 < (((rd_T43 l0 d0).f0).length : Int) := od_; obtain ⟨L2, D1, M2⟩ := U_ C1.out b0 E0 G0
                         cases D1; replace E0 := E_ E0; replace G0 := E_ G0; go_wp2
                         repeat (go_quiet (fail); try go_wp2)
                         go_roundg k4
                         case measure => have := HJ1.out; have := HK2.out; have := HK3.out; have := HK4.out; omega
                         case rel => exact ⟨(wrap64 (b0 + 1)), ev_, H', ⟨by have := HJ1.out; have := HK2.out; have := HK3.out; have := HK4.out; omega⟩, by repeat (first | exact R_ _ | apply Q_)⟩
                       ·rw [I_ V1] at H; exact absurd H (by simp)
                      ·rw [I_ U1] at H; exact absurd H (by simp)
                     ·rw [I_ R1] at H; exact absurd H (by simp)
                    ·rw [I_ Q1] at H; exact absurd H (by simp)
                   ·rw [I_ P1] at H; exact absurd H (by simp)
                  ·rw [I_ O1] at H; exact absurd H (by simp)
                 ·rw [I_ N1] at H; exact absurd H (by simp)
                ·rw [I_ j1] at H; have b3 := K_ j1; clear j1; have H' := B_ H; clear H; have m0 : 0 ≤ (0 : Int) := (by omega); have n0 : 0 < (l0.length : Int) := od_; obtain ⟨Z0, n2, o2, a1, p0, s0, t0⟩ := at_T43 e0.out 0 m0 n0; obtain rfl : g0 = Z0 := (by injection a1); have qi515 : (0 < l0.length) = True := E_ (by omega); (try rw [show ((0 : Int)).toNat = 0 from rfl] at p0); (try rw [Addr.add_zero'] at p0); have q2 := B_ t0; have HC515_0 := B_ s0; clear t0 s0; replace m0 := E_ m0; replace n0 := E_ n0; go_wp2
                 repeat (go_quiet (fail); try go_wp2)
                 go_roundg k4
                 case measure => have := HJ1.out; have := HK2.out; have := HK3.out; have := HK4.out; omega
                 case rel => exact ⟨(wrap64 (d0 + 1)), ev_, H', ⟨by have := HJ1.out; have := HK2.out; have := HK3.out; have := HK4.out; omega⟩, by repeat (first | exact R_ _ | apply Q_)⟩
               ·rw [I_ M1] at H; exact absurd H (by simp)
            ·rw [I_ X0] at H; have x2 := K_ X0; clear X0; have H' := B_ H; clear H; go_wp2
             repeat (go_quiet (fail); try go_wp2)
             go_roundg k3
             case measure => have := HJ1.out; have := HK2.out; have := HK3.out; omega
             case rel => exact ⟨(wrap64 (a0 + 1)), ev_, H', ⟨by have := HJ1.out; have := HK2.out; have := HK3.out; omega⟩, by repeat (first | exact R_ _ | apply Q_)⟩
         ·rw [I_ o0] at H; have Z1 := P_ o0; have a2 := B__ o0; have b2 : (((rd_T43 l0 a0).f0).length == ((rd_T43 l0 0).f0).length) = false := by first | simpa using o0 | (simp at o0 ⊢; omega)
          obtain rfl := F_ H; have L0 : 0 ≤ (a0 : Int) := od_; have M0 : a0 < (l0.length : Int) := od_; obtain ⟨g0, U2, V2, d2, e2, q1, r1⟩ := at_T43 e0.out a0 L0 M0
          cases d2; have X2 := B_ r1; have HC513_0 := B_ q1; clear r1 q1; replace L0 := E_ L0; replace M0 := E_ M0; have N0 : 0 ≤ (0 : Int) := (by omega); have O0 : 0 < (l0.length : Int) := od_; obtain ⟨g2, Y2, Z2, j2, V0, s1, t1⟩ := at_T43 e0.out 0 N0 O0; obtain rfl : g0 = g2 := (by injection j2); have qi514 : (0 < l0.length) = True := E_ (by omega); (try rw [show ((0 : Int)).toNat = 0 from rfl] at V0); (try rw [Addr.add_zero'] at V0); have a3 := B_ t1; have HC514_0 := B_ s1; clear t1 s1; replace N0 := E_ N0; replace O0 := E_ O0; go_wp2
          repeat (go_quiet (fail); try go_wp2)
          go_ret; exact ⟨by first | rfl | (simp; done) | (simp [*]; done), by repeat (first | exact R_ _ | apply Q_)⟩
        ·rw [I_ c9] at H; exact absurd H (by simp)
       ·rw [I_ c8] at H; exact absurd H (by simp)
      ·rw [I_ c7] at H; have Y1 := K_ c7; clear c7; obtain rfl := F_ H; go_wp2
       repeat (go_quiet (fail); try go_wp2)
       go_ret; exact ⟨by first | rfl | (simp; done) | (simp [*]; done), by repeat (first | exact R_ _ | apply Q_)⟩

end Go.Proofs.YtdebpmdbeogglaaGreat.Q
