-- Written by a session's own program (wip/tools/myprint.py) over the kit's printer, out of the translation. Not trusted: Lean checks it.
import Derived.Test.YtdebpmdbeogglaaGreatQ0
-- squeezed
-- renamed
-- squeezed4
namespace Go.Proofs.YtdebpmdbeogglaaGreat.Q
open Go.RowKit Go.Proofs.YtdebpmdbeogglaaGreatW.PrintWords Go.Proofs.YtdebpmdbeogglaaGreatW.PrintLast Go.Proofs.YtdebpmdbeogglaaGreatW.PrintMore
attribute [local go_sem] max2_int min2_int max_two min_two max_three min_three max_four min_four   -- for this text's walks alone
set_option linter.unusedVariables false
set_option linter.unusedSimpArgs false

/-! ### spec_MovesOf: function 47 -/
mutual
def spec_MovesOf.l0 : Nat → List (S43) → Int → Int → Option (Int)
 | 0, _, _, _ => none
 | k + 1, x0, x3, x4 => if x4 < (x0.length : Int) then (spec_MovesOf.l1 k x0 x3 x4 1) else (some x3)
def spec_MovesOf.l1 : Nat → List (S43) → Int → Int → Int → Option (Int)
 | 0, _, _, _, _ => none
 | k + 1, x0, x3, x4, x5 => if 0 ≤ x4 then (if x4 < (x0.length : Int) then (if x5 < (((rd_T43 x0 x4).f0).length : Int) then (if 0 ≤ x5 then (if 0 ≤ (wrap64 (x5 - 1)) then (if (wrap64 (x5 - 1)) < (((rd_T43 x0 x4).f0).length : Int) then (if (rd ((rd_T43 x0 x4).f0) x5) = (rd ((rd_T43 x0 x4).f0) (wrap64 (x5 - 1))) then (spec_MovesOf.l1 k x0 x3 x4 (wrap64 (x5 + 1))) else (spec_MovesOf.l1 k x0 (wrap64 (x3 + 1)) x4 (wrap64 (x5 + 1)))) else (none)) else (none)) else (none)) else (spec_MovesOf.l0 k x0 x3 (wrap64 (x4 + 1)))) else (none)) else (none)
end
def spec_MovesOf.f (k : Nat) (l0 : List (S43)) : Option (Int) := spec_MovesOf.l0 k l0 0 0
set_option maxHeartbeats 8000000 in
set_option maxRecDepth 100000 in
theorem spec_MovesOf.calls (k : Nat) (A0 : Option Addr) (c0 : Nat) (l0 : List (S43)) (r : Int) (w : World) (hr0 : Kd.C k43 w A0 l0.length l0) (hc0 : l0.length ≤ c0) (h : spec_MovesOf.f k l0 = some r) :
  Calls Tryz.prog 47 #[.slice A0 l0.length c0] w fun e w' => e = .returned (.int .i64 r) ∧ Drawn0 w w' := by
 have n0 := B_ hr0; have HC0 := B_ hc0; clear hr0 hc0; have H : (spec_MovesOf.l0 k l0 0 0) = some r := h; clear h; have H' := B_ H; clear H; go_enter Tryz.func47, Tryz.ntmps47; go_wp2
 repeat (go_quiet (fail); try go_wp2)
 go_loopg [3, 4] k (fun kq v3 v4 w' => ∃ (M0 : Int) (a0 : Int), v3 = .int .i64 M0 ∧ v4 = .int .i64 a0 ∧ Aside0 (spec_MovesOf.l0 kq l0 M0 a0 = some r) ∧ Aside0 (kq ≤ k) ∧ Drawn0 w w')
 case atStart => exact ⟨(0), (0), ev_, ev_, H', ⟨N_ _⟩, by repeat (first | exact R_ _ | apply Q_)⟩
 case round =>
  clear H'; obtain ⟨M0, a0, rfl, rfl, HA, HK1, ⟨m1, rfl⟩⟩ := hrel
  cases gk with
  | zero => exact absurd HA.out (by simp [spec_MovesOf.l0])
  | succ k1 =>
   have H := HA.out; clear HA; simp only [spec_MovesOf.l0] at H; by_cases c2 : a0 < (l0.length : Int)
   ·rw [G_ c2] at H; have a1 := C_ c2; clear c2; have H' := B_ H; clear H; go_wp2
    repeat (go_quiet (fail); try go_wp2)
    go_loopg [3, 5] k1 (fun kq v3 v5 w' => ∃ (g0 : Int) (b0 : Int), v3 = .int .i64 g0 ∧ v5 = .int .i64 b0 ∧ Aside0 (spec_MovesOf.l1 kq l0 g0 a0 b0 = some r) ∧ Aside0 (kq ≤ k1) ∧ Drawn0 w w')
    case atStart => exact ⟨(M0), (1), ev_, ev_, H', ⟨N_ _⟩, by repeat (first | exact R_ _ | apply Q_)⟩
    case round =>
     clear H'; (try clear c2); (try clear a1); (try clear p2); obtain ⟨g0, b0, rfl, rfl, HA, HK2, ⟨m2, rfl⟩⟩ := hrel
     cases gk with
     | zero => exact absurd HA.out (by simp [spec_MovesOf.l1])
     | succ k2 =>
      have H := HA.out; clear HA; simp only [spec_MovesOf.l1] at H; by_cases c3 : 0 ≤ a0
      ·rw [G_ c3] at H; have v1 := C_ c3; clear c3; by_cases c4 : a0 < (l0.length : Int)
       ·rw [G_ c4] at H; have x1 := C_ c4; clear c4; by_cases c5 : b0 < (((rd_T43 l0 a0).f0).length : Int)
        ·rw [G_ c5] at H; have e1 := C_ c5; clear c5; by_cases c6 : 0 ≤ b0
         ·rw [G_ c6] at H; have y1 := C_ c6; clear c6; obtain ⟨ji7, hji7⟩ : ∃ j_ : Int, (wrap64 (b0 - 1)) = j_ := ⟨_, rfl⟩; replace H : (if 0 ≤ (ji7) then (if (ji7) < (((rd_T43 l0 a0).f0).length : Int) then (if (rd ((rd_T43 l0 a0).f0) b0) = (rd ((rd_T43 l0 a0).f0) (ji7)) then (spec_MovesOf.l1 k2 l0 g0 a0 (wrap64 (b0 + 1))) else (spec_MovesOf.l1 k2 l0 (wrap64 (g0 + 1)) a0 (wrap64 (b0 + 1)))) else (none)) else (none)) = some r := by first | (rw [hji7] at H; exact H) | (simp only [hji7] at H ⊢; exact H)
          have hji7w : (IntKind.i64.wrap (b0 - 1)) = ji7 := (i64_w _).trans hji7; by_cases c8 : 0 ≤ (ji7)
          ·rw [G_ c8] at H; have z1 := C_ c8; clear c8; by_cases c9 : (ji7) < (((rd_T43 l0 a0).f0).length : Int)
           ·rw [G_ c9] at H; have A1 := C_ c9; clear c9; by_cases o0 : (rd ((rd_T43 l0 a0).f0) b0) = (rd ((rd_T43 l0 a0).f0) (ji7))
            ·rw [G_ o0] at H; have g1 := D__ o0; have j1 := T_ o0; clear o0; have H' := B_ H; clear H; have d0 : 0 ≤ (a0 : Int) := od_; have e0 : a0 < (l0.length : Int) := od_; obtain ⟨z0, b1, c1, D0, C0, j0, m0⟩ := at_T43 n0.out a0 d0 e0
             cases D0; have d1 := B_ m0; have HC301_0 := B_ j0; clear m0 j0; replace d0 := E_ d0; replace e0 := E_ e0; have p0 : 0 ≤ (a0 : Int) := od_; have q0 : a0 < (l0.length : Int) := od_; obtain ⟨N0, n1, o1, O0, P0, E0, G0⟩ := at_T43 n0.out a0 p0 q0; obtain rfl : z0 = N0 := (by injection O0); have Q0 := B_ G0; have HC302_0 := B_ E0; clear G0 E0; replace p0 := E_ p0; replace q0 := E_ q0; have ea_ := F_ (C0.symm.trans P0); injection ea_ with ea_ en_ ec_
             subst ea_; subst ec_; clear en_; have r0 : 0 ≤ (b0 : Int) := od_; have s0 : b0 < (((rd_T43 l0 a0).f0).length : Int) := od_; obtain ⟨p1, R0, q1⟩ := U_ Q0.out b0 r0 s0
             cases R0; replace r0 := E_ r0; replace s0 := E_ s0; have t0 : 0 ≤ (a0 : Int) := od_; have u0 : a0 < (l0.length : Int) := od_; obtain ⟨U0, r1, s1, V0, X0, J0, L0⟩ := at_T43 n0.out a0 t0 u0; obtain rfl : z0 = U0 := (by injection V0); have Y0 := B_ L0; have HC304_0 := B_ J0; clear L0 J0; replace t0 := E_ t0; replace u0 := E_ u0; have ea_ := F_ (C0.symm.trans X0); injection ea_ with ea_ en_ ec_
             subst ea_; subst ec_; clear en_; have v0 : 0 ≤ ((ji7) : Int) := od_; have y0 : (ji7) < (((rd_T43 l0 a0).f0).length : Int) := od_; obtain ⟨t1, Z0, u1⟩ := U_ Y0.out (ji7) v0 y0
             cases Z0; replace v0 := E_ v0; replace y0 := E_ y0; go_wp2
             repeat (go_quiet (fail); try go_wp2)
             go_roundg k2
             case measure => have := HK1.out; have := HK2.out; omega
             case rel => exact ⟨(g0), (wrap64 (b0 + 1)), ev_, ev_, H', ⟨by have := HK1.out; have := HK2.out; omega⟩, by repeat (first | exact R_ _ | apply Q_)⟩
            ·rw [I_ o0] at H; have g1 := P_ o0; have j1 := B__ o0; have H' := B_ H; clear H; have d0 : 0 ≤ (a0 : Int) := od_; have e0 : a0 < (l0.length : Int) := od_; obtain ⟨z0, b1, c1, D0, C0, j0, m0⟩ := at_T43 n0.out a0 d0 e0
             cases D0; have d1 := B_ m0; have HC301_0 := B_ j0; clear m0 j0; replace d0 := E_ d0; replace e0 := E_ e0; have p0 : 0 ≤ (a0 : Int) := od_; have q0 : a0 < (l0.length : Int) := od_; obtain ⟨N0, n1, o1, O0, P0, E0, G0⟩ := at_T43 n0.out a0 p0 q0; obtain rfl : z0 = N0 := (by injection O0); have Q0 := B_ G0; have HC302_0 := B_ E0; clear G0 E0; replace p0 := E_ p0; replace q0 := E_ q0; have ea_ := F_ (C0.symm.trans P0); injection ea_ with ea_ en_ ec_
             subst ea_; subst ec_; clear en_; have r0 : 0 ≤ (b0 : Int) := od_; have s0 : b0 < (((rd_T43 l0 a0).f0).length : Int) := od_; obtain ⟨p1, R0, q1⟩ := U_ Q0.out b0 r0 s0
             cases R0; replace r0 := E_ r0; replace s0 := E_ s0; have t0 : 0 ≤ (a0 : Int) := od_; have u0 : a0 < (l0.length : Int) := od_; obtain ⟨U0, r1, s1, V0, X0, J0, L0⟩ := at_T43 n0.out a0 t0 u0; obtain rfl : z0 = U0 := (by injection V0); have Y0 := B_ L0; have HC304_0 := B_ J0; clear L0 J0; replace t0 := E_ t0; replace u0 := E_ u0; have ea_ := F_ (C0.symm.trans X0); injection ea_ with ea_ en_ ec_
             subst ea_; subst ec_; clear en_; have v0 : 0 ≤ ((ji7) : Int) := od_; have y0 : (ji7) < (((rd_T43 l0 a0).f0).length : Int) := od_; obtain ⟨t1, Z0, u1⟩ := U_ Y0.out (ji7) v0 y0
             cases Z0; replace v0 := E_ v0; replace y0 := E_ y0; go_wp2
             repeat (go_quiet (fail); try go_wp2)
             go_roundg k2
             case measure => have := HK1.out; have := HK2.out; omega
             case rel => exact ⟨(wrap64 (g0 + 1)), (wrap64 (b0 + 1)), ev_, ev_, H', ⟨by have := HK1.out; have := HK2.out; omega⟩, by repeat (first | exact R_ _ | apply Q_)⟩
           ·rw [I_ c9] at H; exact absurd H (by simp)
          ·rw [I_ c8] at H; exact absurd H (by simp)
         ·rw [I_ c6] at H; exact absurd H (by simp)
        ·rw [I_ c5] at H; have e1 := K_ c5; clear c5; have H' := B_ H; clear H; have d0 : 0 ≤ (a0 : Int) := od_; have e0 : a0 < (l0.length : Int) := od_; obtain ⟨z0, b1, c1, D0, C0, j0, m0⟩ := at_T43 n0.out a0 d0 e0
         cases D0; have d1 := B_ m0; have HC301_0 := B_ j0; clear m0 j0; replace d0 := E_ d0; replace e0 := E_ e0; go_wp2
         repeat (go_quiet (fail); try go_wp2)
         go_roundg k2
         case measure => have := HK1.out; have := HK2.out; omega
         case rel => exact ⟨(g0), (wrap64 (a0 + 1)), ev_, ev_, H', ⟨by have := HK1.out; have := HK2.out; omega⟩, by repeat (first | exact R_ _ | apply Q_)⟩
       ·rw [I_ c4] at H; exact absurd H (by simp)
      ·rw [I_ c3] at H; exact absurd H (by simp)
   ·rw [I_ c2] at H; have a1 := K_ c2; clear c2; obtain rfl := F_ H; go_wp2
    repeat (go_quiet (fail); try go_wp2)
    go_ret; exact ⟨by first | rfl | (simp; done) | (simp [*]; done), by repeat (first | exact R_ _ | apply Q_)⟩

/-! ### spec_l11Sorted: function 70 -/
mutual
def spec_l11Sorted.l0 : Nat → List Int → List Int → List Int → Int → Int → Option (List Int)
 | 0, _, _, _, _, _ => none
 | k + 1, x3, x4, x5, x6, x7 => if x6 < (x3.length : Int) then (spec_l11Sorted.j1 k x3 x4 x5 x6 x7 true) else (spec_l11Sorted.j1 k x3 x4 x5 x6 x7 (decide (x7 < (x4.length : Int))))
def spec_l11Sorted.j1 : Nat → List Int → List Int → List Int → Int → Int → Bool → Option (List Int)
 | 0, _, _, _, _, _, _ => none
 | k + 1, x3, x4, x5, x6, x7, z2 => if z2 = true then (if x7 ≥ (x4.length : Int) then (spec_l11Sorted.j2 k x3 x4 x5 x6 x7 true) else (if x6 < (x3.length : Int) then (if 0 ≤ x6 then (if 0 ≤ x7 then (if x7 < (x4.length : Int) then (spec_l11Sorted.j2 k x3 x4 x5 x6 x7 (decide ((rd x3 x6) ≤ (rd x4 x7)))) else (none)) else (none)) else (none)) else (spec_l11Sorted.j2 k x3 x4 x5 x6 x7 false))) else (some x5)
def spec_l11Sorted.j2 : Nat → List Int → List Int → List Int → Int → Int → Bool → Option (List Int)
 | 0, _, _, _, _, _, _ => none
 | k + 1, x3, x4, x5, x6, x7, A2 => if A2 = true then (if 0 ≤ x6 then (if x6 < (x3.length : Int) then (if (x5.length : Int) = 0 then (if x5.length < 17592186044416 then (spec_l11Sorted.l0 k x3 x4 (x5 ++ [rd x3 x6]) (wrap64 (x6 + 1)) x7) else (none)) else (if 0 ≤ (wrap64 ((x5.length : Int) - 1)) then (if (wrap64 ((x5.length : Int) - 1)) < (x5.length : Int) then (if (rd x5 (wrap64 ((x5.length : Int) - 1))) = (rd x3 x6) then (spec_l11Sorted.l0 k x3 x4 x5 (wrap64 (x6 + 1)) x7) else (if x5.length < 17592186044416 then (spec_l11Sorted.l0 k x3 x4 (x5 ++ [rd x3 x6]) (wrap64 (x6 + 1)) x7) else (none))) else (none)) else (none))) else (none)) else (none)) else (if 0 ≤ x7 then (if x7 < (x4.length : Int) then (if (x5.length : Int) = 0 then (if x5.length < 17592186044416 then (spec_l11Sorted.l0 k x3 x4 (x5 ++ [rd x4 x7]) x6 (wrap64 (x7 + 1))) else (none)) else (if 0 ≤ (wrap64 ((x5.length : Int) - 1)) then (if (wrap64 ((x5.length : Int) - 1)) < (x5.length : Int) then (if (rd x5 (wrap64 ((x5.length : Int) - 1))) = (rd x4 x7) then (spec_l11Sorted.l0 k x3 x4 x5 x6 (wrap64 (x7 + 1))) else (if x5.length < 17592186044416 then (spec_l11Sorted.l0 k x3 x4 (x5 ++ [rd x4 x7]) x6 (wrap64 (x7 + 1))) else (none))) else (none)) else (none))) else (none)) else (none))
def spec_l11Sorted.f : Nat → List Int → Option (List Int)
 | 0, _ => none
 | k + 1, l0 => if (l0.length : Int) < 2 then ((some (([] : List Int) : List Int)).bind fun p0 => (if p0.length + l0.length < 17592186044416 then (some (p0 ++ l0)) else (none))) else (if 0 ≤ (wrap64 ((l0.length : Int) / 2)) then (if (wrap64 ((l0.length : Int) / 2)) ≤ (l0.length : Int) then ((spec_l11Sorted.f k (l0.take ((wrap64 ((l0.length : Int) / 2)) : Int).toNat)).bind fun g0 => ((spec_l11Sorted.f k (l0.drop ((wrap64 ((l0.length : Int) / 2)) : Int).toNat)).bind fun e0 => (spec_l11Sorted.l0 k g0 e0 (([] : List Int)) 0 0))) else (none)) else (none))
end
set_option maxHeartbeats 8000000 in
set_option maxRecDepth 100000 in
theorem spec_l11Sorted.calls (k : Nat) : ∀ (A0 : Option Addr) (c0 : Nat) (l0 : List Int) (r : List Int) (w : World) (hr0 : Kd.C (Kd.int .i64) w A0 l0.length l0) (hc0 : l0.length ≤ c0) (h : spec_l11Sorted.f k l0 = some r),
  Calls Tryz.prog 70 #[.slice A0 l0.length c0] w fun e w' => ∃ v0_ : Value, e = .returned (v0_) ∧ Kd.R (Kd.int .i64) 3 w' w.heap.size (fun _ => True) v0_ r ∧ Below w.heap.size w w' := by
 induction k using Nat.strongRecOn with
 | _ k ih =>
 intro A0 c0 l0 r w hr0 hc0 h
 cases k with
 | zero => exact absurd h (by simp [spec_l11Sorted.f])
 | succ k =>
 simp only [spec_l11Sorted.f] at h; have l1 := B_ hr0; have HC0 := B_ hc0; clear hr0 hc0; have HB := B_ (A__ w.heap.size w); have H : (if (l0.length : Int) < 2 then ((some (([] : List Int) : List Int)).bind fun p0 => (if p0.length + l0.length < 17592186044416 then (some (p0 ++ l0)) else (none))) else (if 0 ≤ (wrap64 ((l0.length : Int) / 2)) then (if (wrap64 ((l0.length : Int) / 2)) ≤ (l0.length : Int) then ((spec_l11Sorted.f k (l0.take ((wrap64 ((l0.length : Int) / 2)) : Int).toNat)).bind fun g0 => ((spec_l11Sorted.f k (l0.drop ((wrap64 ((l0.length : Int) / 2)) : Int).toNat)).bind fun e0 => (spec_l11Sorted.l0 k g0 e0 (([] : List Int)) 0 0))) else (none)) else (none))) = some r := h; clear h; by_cases c2 : (l0.length : Int) < 2
 ·rw [G_ c2] at H; have m1 := C_ c2; have n1 : decide (l0.length < 2) = true := C_ (by omega); clear c2; obtain ⟨p0, hy_⟩ : ∃ y_ : List Int, y_ = (([] : List Int)) := ⟨_, rfl⟩; replace H : (if p0.length + l0.length < 17592186044416 then (some (p0 ++ l0)) else (none)) = some r := hz_
  have X1 := B_ hy_; clear hy_; by_cases c3 : p0.length + l0.length < 17592186044416
  ·rw [G_ c3] at H; have C2 := B_ c3; clear c3; obtain ⟨D2, hy_⟩ : ∃ y_ : List Int, y_ = (p0 ++ l0) := ⟨_, rfl⟩; replace H : (some D2) = some r := hz_
   have E2 := B_ hy_; clear hy_; obtain rfl := F_ H; go_enter Tryz.func70, Tryz.ntmps70
   repeat ((fail_if_success (first | clear z_ | done)); go_wp2_with (first | ((with_reducible refine Y_ (N := 12) rfl ?_); (try (refine gate_guard (by rfl) ?_; dsimp only)); refine Kd.R_lit (Kd.int .i64) _ 3 ?hg (N := 12) ?hd (xs := ([] : List Int)) (inner := []) (ok := fun _ => True) (okp := fun _ => True) ?hr ?hp (fun _ hk => hk) trivial (A__ _ _) (N_ _) (by simp) ?_; (case hd => rfl); (case hg => rfl); (case hr => first | (go_simp; done) | (go_simp; rfl)); (case hp => exact (Reps.none _ _)); intro v307 w4 X0 hb hg_ hnew_; clear hg_ hnew_; (first | rw [← X1.out] at X0 | (simp only [Int.reduceToNat] at X0; rw [← X1.out] at X0)); have Y1 := B_ (Kd.R_lower X0 (H_ (uB HB.out))); replace HB := hB_ HB hb; clear hb X0) | ((with_reducible refine gate_builtin (b := .append) (xs := #[.tmp 12, .tmp 13]) rfl ?_); (try (refine gate_guard (by rfl) ?_; dsimp only)); at_builtin; refine Kd.R_append_rows (Kd.int .i64) (w0 := w) w.heap.size rfl (.tmp 12) (.tmp 13) 26 3 (.int .i64 0) 8 rfl Tryz.underlying26 info3 rfl (by decide) (by omega) v307 p0 l0 _ _ _ (fun _ => True) (fun _ => False) rfl rfl ?aO ?aR (fun _ _ h => h) (fun _ h => h.elim) ?aF ?aB ?aS ?aL ?_; (case aR => repeat (first | exact (Kd.C_below l1.out HB.out) | (with_reducible refine Kd.C_alloc ?_ _) | (with_reducible refine Kd.C_drewN ?_ _) | (with_reducible refine Kd.C_drew ?_))); (case aB => exact (uB HB.out)); (case aF => exact (fun _ _ => trivial)); (case aO => exact (uR Y1.out)); (case aS => exact (H_ (uB HB.out))); (case aL => have := C2.out; omega); intro v310 w6 ho hb hg hat; rw [← E2.out] at ho; replace HB := B_ (hb); have G2 := B_ (ho); clear Y1; clear ho hb hg hat)); first | go_quiet (fail) | have z_ := True.intro | skip)
   (try clear z_); go_ret; exact ⟨_, ew_, by (with_reducible repeat (first | apply Kd.R_alloc | apply Kd.R_drewN | apply Kd.R_drew)); exact G2.out, uB HB.out⟩
  ·rw [I_ c3] at H; exact absurd H (by simp)
 ·rw [I_ c2] at H; have m1 := K_ c2; have n1 : decide (l0.length < 2) = false := K_ (by omega); clear c2; obtain ⟨ji7, hji7⟩ : ∃ j_ : Int, (wrap64 ((l0.length : Int) / 2)) = j_ := ⟨_, rfl⟩; replace H : (if 0 ≤ (ji7) then (if (ji7) ≤ (l0.length : Int) then ((spec_l11Sorted.f k (l0.take ((ji7) : Int).toNat)).bind fun g0 => ((spec_l11Sorted.f k (l0.drop ((ji7) : Int).toNat)).bind fun e0 => (spec_l11Sorted.l0 k g0 e0 (([] : List Int)) 0 0))) else (none)) else (none)) = some r := by first | (rw [hji7] at H; exact H) | (simp only [hji7] at H ⊢; exact H)
  have hji7w : (IntKind.i64.wrap ((l0.length : Int) / 2)) = ji7 := (i64_w _).trans hji7; by_cases c8 : 0 ≤ (ji7)
  ·rw [G_ c8] at H; have N1 := E_ c8; have O1 := C_ c8; clear c8; by_cases c9 : (ji7) ≤ (l0.length : Int)
   ·rw [G_ c9] at H; have P1 := E_ c9; have Q1 := C_ c9; clear c9; obtain ⟨g0, A10, H⟩ := ob_ H; have z0 := E_ (of_decide_eq_true (by first | (with_reducible assumption) | assumption) : 0 ≤ (ji7)); have C0 := E_ (of_decide_eq_true (by first | (with_reducible assumption) | assumption) : (ji7) ≤ (l0.length : Int)); obtain ⟨e0, A13, H⟩ := ob_ H; obtain ⟨Z1, hy_⟩ : ∃ y_ : List Int, y_ = (([] : List Int)) := ⟨_, rfl⟩; replace H : (spec_l11Sorted.l0 k g0 e0 Z1 0 0) = some r := hz_
    have a2 := B_ hy_; clear hy_; have H' := B_ H; clear H; obtain ⟨i014, hi014, _, hsz14, _⟩ := info_parts info3; obtain ⟨hcut14, hA14, hC14⟩ := print_take_of (P := Tryz.prog) (Value.int .i64) 0 26 3 .i64 Tryz.underlying26 hi014 hsz14 A0 c0 l0 (ji7) od_ od_ HC0.out; have b2 := B_ (Kd.C_of_reads (h1 := fun _ => rfl) (hA14 _ (Kd.reads_of_C l1.out))); have HC312 := B_ hC14; clear hA14 hC14 hi014 hsz14; go_enter Tryz.func70, Tryz.ntmps70
    repeat ((fail_if_success (first | clear z_ | done)); go_wp2_with (first | (go_at_call 70; refine calls_of_args (args' := #[.slice _ (l0.take ((ji7) : Int).toNat).length _]) (by have h1_ := of_eq_true z0; have h2_ := of_eq_true C0; rw [List.length_take, Nat.min_eq_left (by omega)]) ?_; (with_reducible refine (ih k (by omega) _ _ (l0.take ((ji7) : Int).toNat) g0 _ ?side1 ?side2 A10.out).mono ?_); (case side1 => exact uC b2.out); (case side2 => exact HC312.out); rintro e J2 ⟨v314, rfl, o0, hb⟩; have q0 := B_ (Kd.R_lower o0 (H_ (uB HB.out))); replace HB := hB_ HB hb; (try clear hb o0); obtain ⟨i016, hi016, _, hsz16, _⟩ := info_parts info3; obtain ⟨A16, hcut16, hA16, hC16⟩ := print_drop_of (P := Tryz.prog) (Value.int .i64) 0 26 3 .i64 Tryz.underlying26 hi016 hsz16 A0 c0 l0 (ji7) od_ od_ HC0.out; have R1 := B_ (Kd.C_of_reads (h1 := fun _ => rfl) (hA16 _ (Kd.reads_of_C l1.out))); have HC316 := B_ hC16; clear hA16 hC16 hi016 hsz16) | (go_at_call 70; refine calls_of_args (args' := #[.slice _ (l0.drop ((ji7) : Int).toNat).length _]) (by have h1_ := of_eq_true z0; have h2_ := of_eq_true C0; rw [List.length_drop]) ?_; (with_reducible refine (ih k (by omega) _ _ (l0.drop ((ji7) : Int).toNat) e0 _ ?side1 ?side2 A13.out).mono ?_); (case side1 => exact cu_ R1 HB); (case side2 => exact HC316.out); rintro e L2 ⟨v318, rfl, o0, hb⟩; have Y0 := B_ (Kd.R_lower (Kd.R_new' o0 (Kd.R_lt (uR q0.out))) (H_ (uB HB.out))); replace q0 := B_ (Kd.R_elder' (uR q0.out) (Kd.R_base o0) hb); replace HB := hB_ HB hb; (try clear hb o0)) | ((with_reducible refine Y_ (N := 27) rfl ?_); (try (refine gate_guard (by rfl) ?_; dsimp only)); refine Kd.R_lit (Kd.int .i64) _ 3 ?hg (N := 27) ?hd (xs := ([] : List Int)) (inner := []) (ok := fun _ => True) (okp := fun _ => True) ?hr ?hp (fun _ hk => hk) trivial (A__ _ _) (N_ _) (by simp) ?_; (case hd => rfl); (case hg => rfl); (case hr => first | (go_simp; done) | (go_simp; rfl)); (case hp => exact (Reps.none _ _)); intro v321 o4 D0 hb hg_ hnew_; clear hg_ hnew_; (first | rw [← a2.out] at D0 | (simp only [Int.reduceToNat] at D0; rw [← a2.out] at D0)); have M2 := B_ (Kd.R_lower (Kd.R_new' (Kd.R_new' D0 (Kd.R_lt (uR q0.out))) (Kd.R_lt (uR Y0.out))) (H_ (uB HB.out))); replace q0 := B_ (Kd.R_elder' (uR q0.out) (Kd.R_base D0) hb); replace Y0 := B_ (Kd.R_elder' (uR Y0.out) (Kd.R_base D0) hb); replace HB := hB_ HB hb; clear hb D0)); first | go_quiet (first | (go_at_call 70; refine calls_of_args (args' := #[.slice _ (l0.take ((ji7) : Int).toNat).length _]) (by have h1_ := of_eq_true z0; have h2_ := of_eq_true C0; rw [List.length_take, Nat.min_eq_left (by omega)]) ?_; (with_reducible refine (ih k (by omega) _ _ (l0.take ((ji7) : Int).toNat) g0 _ ?side1 ?side2 A10.out).mono ?_); (case side1 => exact uC b2.out); (case side2 => exact HC312.out); rintro e J2 ⟨v314, rfl, o0, hb⟩; have q0 := B_ (Kd.R_lower o0 (H_ (uB HB.out))); replace HB := hB_ HB hb; (try clear hb o0); obtain ⟨i016, hi016, _, hsz16, _⟩ := info_parts info3; obtain ⟨A16, hcut16, hA16, hC16⟩ := print_drop_of (P := Tryz.prog) (Value.int .i64) 0 26 3 .i64 Tryz.underlying26 hi016 hsz16 A0 c0 l0 (ji7) od_ od_ HC0.out; have R1 := B_ (Kd.C_of_reads (h1 := fun _ => rfl) (hA16 _ (Kd.reads_of_C l1.out))); have HC316 := B_ hC16; clear hA16 hC16 hi016 hsz16) | (go_at_call 70; refine calls_of_args (args' := #[.slice _ (l0.drop ((ji7) : Int).toNat).length _]) (by have h1_ := of_eq_true z0; have h2_ := of_eq_true C0; rw [List.length_drop]) ?_; (with_reducible refine (ih k (by omega) _ _ (l0.drop ((ji7) : Int).toNat) e0 _ ?side1 ?side2 A13.out).mono ?_); (case side1 => exact cu_ R1 HB); (case side2 => exact HC316.out); rintro e L2 ⟨v318, rfl, o0, hb⟩; have Y0 := B_ (Kd.R_lower (Kd.R_new' o0 (Kd.R_lt (uR q0.out))) (H_ (uB HB.out))); replace q0 := B_ (Kd.R_elder' (uR q0.out) (Kd.R_base o0) hb); replace HB := hB_ HB hb; (try clear hb o0))) | have z_ := True.intro | skip)
    (try clear z_); go_loopg [5, 6, 7] k (fun kq v5 v6 v7 w' => ∃ (a0 : List Int) (d0 : Int) (b0 : Int), v6 = .int .i64 d0 ∧ v7 = .int .i64 b0 ∧ Aside0 (spec_l11Sorted.l0 kq g0 e0 a0 d0 b0 = some r) ∧ Aside0 (kq ≤ k) ∧ Aside0 (Kd.R (Kd.int .i64) 3 w' w.heap.size (fun k_ => some k_ ≠ (v318 : Value).ownBlock ∧ some k_ ≠ (v5 : Value).ownBlock) v314 g0) ∧ Aside0 (Kd.R (Kd.int .i64) 3 w' w.heap.size (fun k_ => some k_ ≠ (v314 : Value).ownBlock ∧ some k_ ≠ (v5 : Value).ownBlock) v318 e0) ∧ Aside0 (Kd.R (Kd.int .i64) 3 w' w.heap.size (fun k_ => some k_ ≠ (v314 : Value).ownBlock ∧ some k_ ≠ (v318 : Value).ownBlock) v5 a0) ∧ Aside0 (Below w.heap.size w w'))
    case atStart => exact ⟨(Z1), (0), (0), ev_, ev_, H', ⟨N_ _⟩, ⟨uR (O_ q0.out (fun _ hk => ⟨hk.1.2, hk.2⟩))⟩, ⟨uR (O_ Y0.out (fun _ hk => ⟨hk.1.2, hk.2⟩))⟩, ⟨uR (O_ M2.out (fun _ hk => ⟨hk.1.2, hk.2⟩))⟩, ⟨uB HB.out⟩⟩
    case round =>
     clear H'; (try clear c1); (try clear c2); (try clear m1); (try clear n1); (try clear p2); (try clear c3); (try clear p6); (try clear c7); (try clear c8); (try clear N1); (try clear O1); (try clear c9); (try clear P1); (try clear Q1); (try clear d2); (try clear z0); (try clear e2); (try clear C0); obtain ⟨a0, d0, b0, rfl, rfl, HA, HK1, j0, m0, n0, HB⟩ := hrel
     cases gk with
     | zero => exact absurd HA.out (by simp [spec_l11Sorted.l0])
     | succ k1 =>
      have H := HA.out; clear HA; simp only [spec_l11Sorted.l0] at H; have HC20 := B_ H; clear H; go_upto_region 8 with (fail)
      repeat (go_quiet (fail); go_upto_region 8 with (fail))
      go_cut [37] (fun v37 wc => ∃ (kq : Nat) (o1 : Bool), v37 = .bool o1 ∧ Aside0 (spec_l11Sorted.j1 kq g0 e0 a0 d0 b0 o1 = some r) ∧ Aside0 (kq ≤ k1) ∧ Aside0 (Kd.R (Kd.int .i64) 3 wc w.heap.size (fun k_ => some k_ ≠ (v318 : Value).ownBlock ∧ some k_ ≠ (u5 : Value).ownBlock) v314 g0) ∧ Aside0 (Kd.R (Kd.int .i64) 3 wc w.heap.size (fun k_ => some k_ ≠ (v314 : Value).ownBlock ∧ some k_ ≠ (u5 : Value).ownBlock) v318 e0) ∧ Aside0 (Kd.R (Kd.int .i64) 3 wc w.heap.size (fun k_ => some k_ ≠ (v314 : Value).ownBlock ∧ some k_ ≠ (v318 : Value).ownBlock) u5 a0) ∧ Aside0 (Below w.heap.size w wc))
      case first =>
       have H := HC20.out; clear HC20; by_cases v0 : d0 < (g0.length : Int)
       ·rw [G_ v0] at H; have E0 := C_ v0; clear v0; (first | rw [E0] | (simp only [i64_w, i32_w]; rw [E0]) | skip); have H' := B_ H; clear H; obtain ⟨p4, q4, N2⟩ := Kd.R_slice j0.out; subst N2; go_wp2
        repeat (go_quiet (fail); try go_wp2)
        go_meet
        case rel => exact ⟨_, (true), ev_, H', ⟨by have := HK1.out; first | omega | exact N_ _⟩, ⟨uR j0.out⟩, ⟨uR m0.out⟩, ⟨uR n0.out⟩, ⟨uB HB.out⟩⟩
       ·rw [I_ v0] at H; have E0 := K_ v0; clear v0; (first | rw [E0] | (simp only [i64_w, i32_w]; rw [E0]) | skip); have H' := B_ H; clear H; obtain ⟨r4, s4, O2⟩ := Kd.R_slice j0.out; subst O2; obtain ⟨t4, u4, P2⟩ := Kd.R_slice m0.out; subst P2; go_wp2
        repeat (go_quiet (fail); try go_wp2)
        go_meet
        case rel => exact ⟨_, (decide (b0 < (e0.length : Int))), ev_, H', ⟨by have := HK1.out; first | omega | exact N_ _⟩, ⟨uR j0.out⟩, ⟨uR m0.out⟩, ⟨uR n0.out⟩, ⟨uB HB.out⟩⟩
      case rest =>
       clear HC20; (try clear c1); (try clear c2); (try clear m1); (try clear n1); (try clear p2); (try clear c3); (try clear p6); (try clear c7); (try clear c8); (try clear N1); (try clear O1); (try clear c9); (try clear P1); (try clear Q1); (try clear d2); (try clear z0); (try clear e2); (try clear C0); (try clear v0); (try clear E0); obtain ⟨kq, o1, rfl, HA, HJ19, j0, m0, n0, HB⟩ := hcut
       cases kq with
       | zero => exact absurd HA.out (by simp [spec_l11Sorted.j1])
       | succ kj19 =>
        have H := HA.out; clear HA; simp only [spec_l11Sorted.j1] at H; by_cases Z0 : o1 = true
        ·subst Z0; rw [G_ rfl] at H; have HC26 := B_ H; clear H; go_upto_region 10 with (fail)
         repeat (go_quiet (fail); go_upto_region 10 with (fail))
         go_cut [58] (fun v58 wc => ∃ (kq : Nat) (p1 : Bool), v58 = .bool p1 ∧ Aside0 (spec_l11Sorted.j2 kq g0 e0 a0 d0 b0 p1 = some r) ∧ Aside0 (kq ≤ kj19) ∧ Aside0 (Kd.R (Kd.int .i64) 3 wc w.heap.size (fun k_ => some k_ ≠ (v318 : Value).ownBlock ∧ some k_ ≠ (u5 : Value).ownBlock) v314 g0) ∧ Aside0 (Kd.R (Kd.int .i64) 3 wc w.heap.size (fun k_ => some k_ ≠ (v314 : Value).ownBlock ∧ some k_ ≠ (u5 : Value).ownBlock) v318 e0) ∧ Aside0 (Kd.R (Kd.int .i64) 3 wc w.heap.size (fun k_ => some k_ ≠ (v314 : Value).ownBlock ∧ some k_ ≠ (v318 : Value).ownBlock) u5 a0) ∧ Aside0 (Below w.heap.size w wc))
         case first =>
          have H := HC26.out; clear HC26; by_cases G0 : b0 ≥ (e0.length : Int)
          ·rw [G_ G0] at H; have R0 := C_ G0; clear G0; (first | rw [R0] | (simp only [i64_w, i32_w]; rw [R0]) | skip); have H' := B_ H; clear H; obtain ⟨v4, y4, Q2⟩ := Kd.R_slice m0.out; subst Q2; go_wp2
           repeat (go_quiet (fail); try go_wp2)
           go_meet
           case rel => exact ⟨_, (true), ev_, H', ⟨by have := HK1.out; have := HJ19.out; first | omega | exact N_ _⟩, ⟨uR j0.out⟩, ⟨uR m0.out⟩, ⟨uR n0.out⟩, ⟨uB HB.out⟩⟩
          ·rw [I_ G0] at H; have R0 := K_ G0; clear G0; (first | rw [R0] | (simp only [i64_w, i32_w]; rw [R0]) | skip); by_cases J0 : d0 < (g0.length : Int)
           ·rw [G_ J0] at H; have g2 := C_ J0; clear J0; by_cases a1 : 0 ≤ d0
            ·rw [G_ a1] at H; have R2 := C_ a1; clear a1; by_cases b1 : 0 ≤ b0
             ·rw [G_ b1] at H; have U2 := C_ b1; clear b1; by_cases d1 : b0 < (e0.length : Int)
              ·rw [G_ d1] at H; have V2 := C_ d1; clear d1; have H' := B_ H; clear H; obtain ⟨z4, A4, X2⟩ := Kd.R_slice m0.out; subst X2; obtain ⟨C4, D4, Y2⟩ := Kd.R_slice j0.out; subst Y2; have q1 : 0 ≤ (d0 : Int) := od_; have r1 : d0 < (g0.length : Int) := od_; obtain ⟨E4, Z2, a3⟩ := U_ (S_ j0.out).2.2 d0 q1 r1
               cases Z2; replace q1 := E_ q1; replace r1 := E_ r1; have s1 : 0 ≤ (b0 : Int) := od_; have t1 : b0 < (e0.length : Int) := od_; obtain ⟨G4, b3, d3⟩ := U_ (S_ m0.out).2.2 b0 s1 t1
               cases b3; replace s1 := E_ s1; replace t1 := E_ t1; go_wp2
               repeat (go_quiet (fail); try go_wp2)
               go_meet
               case rel => exact ⟨_, (decide ((rd g0 d0) ≤ (rd e0 b0))), ev_, H', ⟨by have := HK1.out; have := HJ19.out; first | omega | exact N_ _⟩, ⟨uR j0.out⟩, ⟨uR m0.out⟩, ⟨uR n0.out⟩, ⟨uB HB.out⟩⟩
              ·rw [I_ d1] at H; exact absurd H (by simp)
             ·rw [I_ b1] at H; exact absurd H (by simp)
            ·rw [I_ a1] at H; exact absurd H (by simp)
           ·rw [I_ J0] at H; have g2 := K_ J0; clear J0; have H' := B_ H; clear H; obtain ⟨J4, L4, e3⟩ := Kd.R_slice m0.out; subst e3; obtain ⟨M4, N4, g3⟩ := Kd.R_slice j0.out; subst g3; go_wp2
            repeat (go_quiet (fail); try go_wp2)
            go_meet
            case rel => exact ⟨_, (false), ev_, H', ⟨by have := HK1.out; have := HJ19.out; first | omega | exact N_ _⟩, ⟨uR j0.out⟩, ⟨uR m0.out⟩, ⟨uR n0.out⟩, ⟨uB HB.out⟩⟩
         case rest =>
          clear HC26; (try clear c1); (try clear c2); (try clear m1); (try clear n1); (try clear p2); (try clear c3); (try clear p3); (try clear q3); (try clear hx3); (try clear p6); (try clear c7); (try clear c8); (try clear N1); (try clear O1); (try clear c9); (try clear P1); (try clear Q1); (try clear d2); (try clear z0); (try clear e2); (try clear C0); (try clear v0); (try clear E0); (try clear Z0); (try clear G0); (try clear R0); (try clear J0); (try clear g2); (try clear a1); (try clear R2); (try clear b1); (try clear U2); (try clear d1); (try clear V2); (try clear O4); (try clear P4); (try clear hx32); (try clear a3); (try clear d3); (try clear q1); (try clear s1); (try clear r1); (try clear t1); obtain ⟨kq, p1, rfl, HA, HJ25, j0, m0, n0, HB⟩ := hcut
          cases kq with
          | zero => exact absurd HA.out (by simp [spec_l11Sorted.j2])
          | succ kj25 =>
           have H := HA.out; clear HA; simp only [spec_l11Sorted.j2] at H; by_cases u1 : p1 = true
           ·subst u1; rw [G_ rfl] at H; by_cases v1 : 0 ≤ d0
            ·rw [G_ v1] at H; have Q4 := C_ v1; clear v1; by_cases x1 : d0 < (g0.length : Int)
             ·rw [G_ x1] at H; have R4 := C_ x1; clear x1; by_cases x0 : (a0.length : Int) = 0
              ·rw [G_ x0] at H; have j3 := D__ x0; have l3 := T_ x0; clear x0; by_cases y1 : a0.length < 17592186044416
               ·rw [G_ y1] at H; have m3 := B_ y1; clear y1; obtain ⟨l2, hy_⟩ : ∃ y_ : List Int, y_ = (a0 ++ [rd g0 d0]) := ⟨_, rfl⟩; replace H : (spec_l11Sorted.l0 kj25 g0 e0 l2 (wrap64 (d0 + 1)) b0) = some r := hz_
                have n3 := B_ hy_; clear hy_; have H' := B_ H; clear H; obtain ⟨U4, m2, o3⟩ := Kd.R_slice j0.out; subst o3; have r0 : 0 ≤ (d0 : Int) := od_; have s0 : d0 < (g0.length : Int) := od_; obtain ⟨U0, e1, n2⟩ := U_ (S_ j0.out).2.2 d0 r0 s0
                cases e1; replace r0 := E_ r0; replace s0 := E_ s0; obtain ⟨r3, s3, t3⟩ := Kd.R_slice n0.out; subst t3
                repeat ((fail_if_success (first | clear z_ | done)); go_wp2_with (first | ((with_reducible refine gate_builtin (b := .append) (xs := #[.tmp 84, .tmp 86]) rfl ?_); (try (refine gate_guard (by rfl) ?_; dsimp only)); at_builtin; refine Kd.R_append (Kd.int .i64) (w0 := w) w.heap.size rfl (.tmp 84) (.tmp 86) 26 3 (.int .i64 0) 8 rfl Tryz.underlying26 info3 rfl (by decide) (by omega) (.slice r3 a0.length s3) a0 (rd g0 d0) [.int .i64 (rd g0 d0)] (fun k_ => some k_ ≠ (.slice (some U0) g0.length m2 : Value).ownBlock ∧ some k_ ≠ (v318 : Value).ownBlock) (fun _ => False) rfl rfl ?aP (fun _ hk => hk.elim) ?aF ?aO ?aB ?aS ?aL ?_; (case aP => exact rfl); (case aB => exact (uB HB.out)); (case aF => exact (fun k_ hk => ⟨Kd.fresh' (Kd.R_lt (uR j0.out)) k_ hk, Kd.fresh' (Kd.R_lt (uR m0.out)) k_ hk⟩)); (case aO => exact (uR n0.out)); (case aS => exact (H_ (uB HB.out))); (case aL => have := m3.out; omega); intro v327 V4 ho hb hg hat; rw [← n3.out] at ho; replace j0 := B_ (Kd.R_after (ok := (fun k_ => some k_ ≠ (v318 : Value).ownBlock)) (uR j0.out) hg hat); replace m0 := B_ (Kd.R_after (ok := (fun k_ => some k_ ≠ (.slice (some U0) g0.length m2 : Value).ownBlock)) (uR m0.out) hg hat); replace HB := B_ (hb); have u3 := B_ (ho); clear n0; clear ho hb hg hat)); first | go_quiet (fail) | have z_ := True.intro | skip)
                (try clear z_); go_roundg kj25
                case measure => have := HK1.out; have := HJ19.out; have := HJ25.out; omega
                case rel => exact ⟨(l2), (wrap64 (d0 + 1)), (b0), ev_, ev_, H', ⟨by have := HK1.out; have := HJ19.out; have := HJ25.out; omega⟩, ⟨uR j0.out⟩, ⟨uR m0.out⟩, ⟨uR u3.out⟩, ⟨uB HB.out⟩⟩
               ·rw [I_ y1] at H; exact absurd H (by simp)
              ·rw [I_ x0] at H; have j3 := P_ x0; have l3 := B__ x0; have X4 : ¬ (a0 = []) := fun h_ => x0 (by rw [h_]; rfl)
               obtain ⟨ji45, hji45⟩ : ∃ j_ : Int, (wrap64 ((a0.length : Int) - 1)) = j_ := ⟨_, rfl⟩; replace H : (if 0 ≤ (ji45) then (if (ji45) < (a0.length : Int) then (if (rd a0 (ji45)) = (rd g0 d0) then (spec_l11Sorted.l0 kj25 g0 e0 a0 (wrap64 (d0 + 1)) b0) else (if a0.length < 17592186044416 then (spec_l11Sorted.l0 kj25 g0 e0 (a0 ++ [rd g0 d0]) (wrap64 (d0 + 1)) b0) else (none))) else (none)) else (none)) = some r := by first | (rw [hji45] at H; exact H) | (simp only [hji45] at H ⊢; exact H)
               have hji45w : (IntKind.i64.wrap ((a0.length : Int) - 1)) = ji45 := (i64_w _).trans hji45; by_cases z1 : 0 ≤ (ji45)
               ·rw [G_ z1] at H; have Y4 := C_ z1; clear z1; by_cases A1 : (ji45) < (a0.length : Int)
                ·rw [G_ A1] at H; have Z4 := C_ A1; clear A1; by_cases L0 : (rd a0 (ji45)) = (rd g0 d0)
                 ·rw [G_ L0] at H; have v3 := D__ L0; have y3 := T_ L0; clear L0; have H' := B_ H; clear H; obtain ⟨a5, b5, z3⟩ := Kd.R_slice j0.out; subst z3; have r0 : 0 ≤ (d0 : Int) := od_; have s0 : d0 < (g0.length : Int) := od_; obtain ⟨U0, e1, n2⟩ := U_ (S_ j0.out).2.2 d0 r0 s0
                  cases e1; replace r0 := E_ r0; replace s0 := E_ s0; obtain ⟨c5, d5, A3⟩ := Kd.R_slice n0.out; subst A3; have M0 : 0 ≤ ((ji45) : Int) := od_; have N0 : (ji45) < (a0.length : Int) := od_; obtain ⟨o2, U1, C3⟩ := U_ (S_ n0.out).2.2 (ji45) M0 N0
                  cases U1; replace M0 := E_ M0; replace N0 := E_ N0; go_wp2
                  repeat (go_quiet (fail); try go_wp2)
                  go_roundg kj25
                  case measure => have := HK1.out; have := HJ19.out; have := HJ25.out; omega
                  case rel => exact ⟨(a0), (wrap64 (d0 + 1)), (b0), ev_, ev_, H', ⟨by have := HK1.out; have := HJ19.out; have := HJ25.out; omega⟩, ⟨uR j0.out⟩, ⟨uR m0.out⟩, ⟨uR n0.out⟩, ⟨uB HB.out⟩⟩
                 ·rw [I_ L0] at H; have v3 := P_ L0; have y3 := B__ L0; by_cases C1 : a0.length < 17592186044416
                  ·rw [G_ C1] at H; have D3 := B_ C1; clear C1; obtain ⟨q2, hy_⟩ : ∃ y_ : List Int, y_ = (a0 ++ [rd g0 d0]) := ⟨_, rfl⟩; replace H : (spec_l11Sorted.l0 kj25 g0 e0 q2 (wrap64 (d0 + 1)) b0) = some r := hz_
                   have E3 := B_ hy_; clear hy_; have H' := B_ H; clear H; obtain ⟨e5, r2, G3⟩ := Kd.R_slice j0.out; subst G3; have r0 : 0 ≤ (d0 : Int) := od_; have s0 : d0 < (g0.length : Int) := od_; obtain ⟨U0, e1, n2⟩ := U_ (S_ j0.out).2.2 d0 r0 s0
                   cases e1; replace r0 := E_ r0; replace s0 := E_ s0; obtain ⟨g5, J3, L3⟩ := Kd.R_slice n0.out; subst L3; have M0 : 0 ≤ ((ji45) : Int) := od_; have N0 : (ji45) < (a0.length : Int) := od_; obtain ⟨o2, U1, C3⟩ := U_ (S_ n0.out).2.2 (ji45) M0 N0
                   cases U1; replace M0 := E_ M0; replace N0 := E_ N0
                   repeat ((fail_if_success (first | clear z_ | done)); go_wp2_with (first | ((with_reducible refine gate_builtin (b := .append) (xs := #[.tmp 84, .tmp 86]) rfl ?_); (try (refine gate_guard (by rfl) ?_; dsimp only)); at_builtin; refine Kd.R_append (Kd.int .i64) (w0 := w) w.heap.size rfl (.tmp 84) (.tmp 86) 26 3 (.int .i64 0) 8 rfl Tryz.underlying26 info3 rfl (by decide) (by omega) (.slice (some o2) a0.length J3) a0 (rd g0 d0) [.int .i64 (rd g0 d0)] (fun k_ => some k_ ≠ (.slice (some U0) g0.length r2 : Value).ownBlock ∧ some k_ ≠ (v318 : Value).ownBlock) (fun _ => False) rfl rfl ?aP (fun _ hk => hk.elim) ?aF ?aO ?aB ?aS ?aL ?_; (case aP => exact rfl); (case aB => exact (uB HB.out)); (case aF => exact (fun k_ hk => ⟨Kd.fresh' (Kd.R_lt (uR j0.out)) k_ hk, Kd.fresh' (Kd.R_lt (uR m0.out)) k_ hk⟩)); (case aO => exact (uR n0.out)); (case aS => exact (H_ (uB HB.out))); (case aL => have := D3.out; omega); intro v331 j5 ho hb hg hat; rw [← E3.out] at ho; replace j0 := B_ (Kd.R_after (ok := (fun k_ => some k_ ≠ (v318 : Value).ownBlock)) (uR j0.out) hg hat); replace m0 := B_ (Kd.R_after (ok := (fun k_ => some k_ ≠ (.slice (some U0) g0.length r2 : Value).ownBlock)) (uR m0.out) hg hat); replace HB := B_ (hb); have M3 := B_ (ho); clear n0; clear ho hb hg hat)); first | go_quiet (fail) | have z_ := True.intro | skip)
                   (try clear z_); go_roundg kj25
                   case measure => have := HK1.out; have := HJ19.out; have := HJ25.out; omega
                   case rel => exact ⟨(q2), (wrap64 (d0 + 1)), (b0), ev_, ev_, H', ⟨by have := HK1.out; have := HJ19.out; have := HJ25.out; omega⟩, ⟨uR j0.out⟩, ⟨uR m0.out⟩, ⟨uR M3.out⟩, ⟨uB HB.out⟩⟩
                  ·rw [I_ C1] at H; exact absurd H (by simp)
                ·rw [I_ A1] at H; exact absurd H (by simp)
               ·rw [I_ z1] at H; exact absurd H (by simp)
             ·rw [I_ x1] at H; exact absurd H (by simp)
            ·rw [I_ v1] at H; exact absurd H (by simp)
           ·replace u1 := L_ u1; subst u1; rw [I_ (show ¬ (false = true) by decide)] at H; by_cases D1 : 0 ≤ b0
            ·rw [G_ D1] at H; have l5 := C_ D1; clear D1; by_cases E1 : b0 < (e0.length : Int)
             ·rw [G_ E1] at H; have m5 := C_ E1; clear E1; by_cases y0 : (a0.length : Int) = 0
              ·rw [G_ y0] at H; have N3 := D__ y0; have O3 := T_ y0; clear y0; by_cases G1 : a0.length < 17592186044416
               ·rw [G_ G1] at H; have P3 := B_ G1; clear G1; obtain ⟨s2, hy_⟩ : ∃ y_ : List Int, y_ = (a0 ++ [rd e0 b0]) := ⟨_, rfl⟩; replace H : (spec_l11Sorted.l0 kj25 g0 e0 s2 d0 (wrap64 (b0 + 1))) = some r := hz_
                have Q3 := B_ hy_; clear hy_; have H' := B_ H; clear H; obtain ⟨n5, t2, R3⟩ := Kd.R_slice m0.out; subst R3; have t0 : 0 ≤ (b0 : Int) := od_; have u0 : b0 < (e0.length : Int) := od_; obtain ⟨V0, g1, u2⟩ := U_ (S_ m0.out).2.2 b0 t0 u0
                cases g1; replace t0 := E_ t0; replace u0 := E_ u0; obtain ⟨U3, V3, X3⟩ := Kd.R_slice n0.out; subst X3
                repeat ((fail_if_success (first | clear z_ | done)); go_wp2_with (first | ((with_reducible refine gate_builtin (b := .append) (xs := #[.tmp 84, .tmp 86]) rfl ?_); (try (refine gate_guard (by rfl) ?_; dsimp only)); at_builtin; refine Kd.R_append (Kd.int .i64) (w0 := w) w.heap.size rfl (.tmp 84) (.tmp 86) 26 3 (.int .i64 0) 8 rfl Tryz.underlying26 info3 rfl (by decide) (by omega) (.slice U3 a0.length V3) a0 (rd e0 b0) [.int .i64 (rd e0 b0)] (fun k_ => some k_ ≠ (v314 : Value).ownBlock ∧ some k_ ≠ (.slice (some V0) e0.length t2 : Value).ownBlock) (fun _ => False) rfl rfl ?aP (fun _ hk => hk.elim) ?aF ?aO ?aB ?aS ?aL ?_; (case aP => exact rfl); (case aB => exact (uB HB.out)); (case aF => exact (fun k_ hk => ⟨Kd.fresh' (Kd.R_lt (uR j0.out)) k_ hk, Kd.fresh' (Kd.R_lt (uR m0.out)) k_ hk⟩)); (case aO => exact (uR n0.out)); (case aS => exact (H_ (uB HB.out))); (case aL => have := P3.out; omega); intro v335 o5 ho hb hg hat; rw [← Q3.out] at ho; replace j0 := B_ (Kd.R_after (ok := (fun k_ => some k_ ≠ (.slice (some V0) e0.length t2 : Value).ownBlock)) (uR j0.out) hg hat); replace m0 := B_ (Kd.R_after (ok := (fun k_ => some k_ ≠ (v314 : Value).ownBlock)) (uR m0.out) hg hat); replace HB := B_ (hb); have Y3 := B_ (ho); clear n0; clear ho hb hg hat)); first | go_quiet (fail) | have z_ := True.intro | skip)
                (try clear z_); go_roundg kj25
                case measure => have := HK1.out; have := HJ19.out; have := HJ25.out; omega
                case rel => exact ⟨(s2), (d0), (wrap64 (b0 + 1)), ev_, ev_, H', ⟨by have := HK1.out; have := HJ19.out; have := HJ25.out; omega⟩, ⟨uR j0.out⟩, ⟨uR m0.out⟩, ⟨uR Y3.out⟩, ⟨uB HB.out⟩⟩
               ·rw [I_ G1] at H; exact absurd H (by simp)
              ·rw [I_ y0] at H; have N3 := P_ y0; have O3 := B__ y0; have p5 : ¬ (a0 = []) := fun h_ => y0 (by rw [h_]; rfl)
               obtain ⟨ji62, hji62⟩ : ∃ j_ : Int, (wrap64 ((a0.length : Int) - 1)) = j_ := ⟨_, rfl⟩; replace H : (if 0 ≤ (ji62) then (if (ji62) < (a0.length : Int) then (if (rd a0 (ji62)) = (rd e0 b0) then (spec_l11Sorted.l0 kj25 g0 e0 a0 d0 (wrap64 (b0 + 1))) else (if a0.length < 17592186044416 then (spec_l11Sorted.l0 kj25 g0 e0 (a0 ++ [rd e0 b0]) d0 (wrap64 (b0 + 1))) else (none))) else (none)) else (none)) = some r := by first | (rw [hji62] at H; exact H) | (simp only [hji62] at H ⊢; exact H)
               have hji62w : (IntKind.i64.wrap ((a0.length : Int) - 1)) = ji62 := (i64_w _).trans hji62; by_cases J1 : 0 ≤ (ji62)
               ·rw [G_ J1] at H; have q5 := C_ J1; clear J1; by_cases L1 : (ji62) < (a0.length : Int)
                ·rw [G_ L1] at H; have r5 := C_ L1; clear L1; by_cases O0 : (rd a0 (ji62)) = (rd e0 b0)
                 ·rw [G_ O0] at H; have Z3 := D__ O0; have a4 := T_ O0; clear O0; have H' := B_ H; clear H; obtain ⟨s5, t5, b4⟩ := Kd.R_slice m0.out; subst b4; have t0 : 0 ≤ (b0 : Int) := od_; have u0 : b0 < (e0.length : Int) := od_; obtain ⟨V0, g1, u2⟩ := U_ (S_ m0.out).2.2 b0 t0 u0
                  cases g1; replace t0 := E_ t0; replace u0 := E_ u0; obtain ⟨y5, z5, c4⟩ := Kd.R_slice n0.out; subst c4; have P0 : 0 ≤ ((ji62) : Int) := od_; have Q0 : (ji62) < (a0.length : Int) := od_; obtain ⟨v2, V1, d4⟩ := U_ (S_ n0.out).2.2 (ji62) P0 Q0
                  cases V1; replace P0 := E_ P0; replace Q0 := E_ Q0; go_wp2
                  repeat (go_quiet (fail); try go_wp2)
                  go_roundg kj25
                  case measure => have := HK1.out; have := HJ19.out; have := HJ25.out; omega
                  case rel => exact ⟨(a0), (d0), (wrap64 (b0 + 1)), ev_, ev_, H', ⟨by have := HK1.out; have := HJ19.out; have := HJ25.out; omega⟩, ⟨uR j0.out⟩, ⟨uR m0.out⟩, ⟨uR n0.out⟩, ⟨uB HB.out⟩⟩
                 ·rw [I_ O0] at H; have Z3 := P_ O0; have a4 := B__ O0; by_cases M1 : a0.length < 17592186044416
                  ·rw [G_ M1] at H; have e4 := B_ M1; clear M1; obtain ⟨x2, hy_⟩ : ∃ y_ : List Int, y_ = (a0 ++ [rd e0 b0]) := ⟨_, rfl⟩; replace H : (spec_l11Sorted.l0 kj25 g0 e0 x2 d0 (wrap64 (b0 + 1))) = some r := hz_
                   have g4 := B_ hy_; clear hy_; have H' := B_ H; clear H; obtain ⟨A5, y2, j4⟩ := Kd.R_slice m0.out; subst j4; have t0 : 0 ≤ (b0 : Int) := od_; have u0 : b0 < (e0.length : Int) := od_; obtain ⟨V0, g1, u2⟩ := U_ (S_ m0.out).2.2 b0 t0 u0
                   cases g1; replace t0 := E_ t0; replace u0 := E_ u0; obtain ⟨C5, l4, m4⟩ := Kd.R_slice n0.out; subst m4; have P0 : 0 ≤ ((ji62) : Int) := od_; have Q0 : (ji62) < (a0.length : Int) := od_; obtain ⟨v2, V1, d4⟩ := U_ (S_ n0.out).2.2 (ji62) P0 Q0
                   cases V1; replace P0 := E_ P0; replace Q0 := E_ Q0
                   repeat ((fail_if_success (first | clear z_ | done)); go_wp2_with (first | ((with_reducible refine gate_builtin (b := .append) (xs := #[.tmp 84, .tmp 86]) rfl ?_); (try (refine gate_guard (by rfl) ?_; dsimp only)); at_builtin; refine Kd.R_append (Kd.int .i64) (w0 := w) w.heap.size rfl (.tmp 84) (.tmp 86) 26 3 (.int .i64 0) 8 rfl Tryz.underlying26 info3 rfl (by decide) (by omega) (.slice (some v2) a0.length l4) a0 (rd e0 b0) [.int .i64 (rd e0 b0)] (fun k_ => some k_ ≠ (v314 : Value).ownBlock ∧ some k_ ≠ (.slice (some V0) e0.length y2 : Value).ownBlock) (fun _ => False) rfl rfl ?aP (fun _ hk => hk.elim) ?aF ?aO ?aB ?aS ?aL ?_; (case aP => exact rfl); (case aB => exact (uB HB.out)); (case aF => exact (fun k_ hk => ⟨Kd.fresh' (Kd.R_lt (uR j0.out)) k_ hk, Kd.fresh' (Kd.R_lt (uR m0.out)) k_ hk⟩)); (case aO => exact (uR n0.out)); (case aS => exact (H_ (uB HB.out))); (case aL => have := e4.out; omega); intro v339 D5 ho hb hg hat; rw [← g4.out] at ho; replace j0 := B_ (Kd.R_after (ok := (fun k_ => some k_ ≠ (.slice (some V0) e0.length y2 : Value).ownBlock)) (uR j0.out) hg hat); replace m0 := B_ (Kd.R_after (ok := (fun k_ => some k_ ≠ (v314 : Value).ownBlock)) (uR m0.out) hg hat); replace HB := B_ (hb); have n4 := B_ (ho); clear n0; clear ho hb hg hat)); first | go_quiet (fail) | have z_ := True.intro | skip)
                   (try clear z_); go_roundg kj25
                   case measure => have := HK1.out; have := HJ19.out; have := HJ25.out; omega
                   case rel => exact ⟨(x2), (d0), (wrap64 (b0 + 1)), ev_, ev_, H', ⟨by have := HK1.out; have := HJ19.out; have := HJ25.out; omega⟩, ⟨uR j0.out⟩, ⟨uR m0.out⟩, ⟨uR n4.out⟩, ⟨uB HB.out⟩⟩
                  ·rw [I_ M1] at H; exact absurd H (by simp)
                ·rw [I_ L1] at H; exact absurd H (by simp)
               ·rw [I_ J1] at H; exact absurd H (by simp)
             ·rw [I_ E1] at H; exact absurd H (by simp)
            ·rw [I_ D1] at H; exact absurd H (by simp)
        ·replace Z0 := L_ Z0; subst Z0; rw [I_ (show ¬ (false = true) by decide)] at H; obtain rfl := F_ H; go_wp2
         repeat (go_quiet (fail); try go_wp2)
         go_ret; exact ⟨_, by first | rfl | (simp [errW_none, errW_some] <;> rfl) | (simp only [← hji7]; first | rfl | (simp [errW_none, errW_some] <;> rfl)) | (simp [*, errW_none, errW_some] <;> rfl), by (with_reducible repeat (first | apply Kd.R_alloc | apply Kd.R_drewN | apply Kd.R_drew)); exact O_ n0.out (fun _ hk => trivial), uB HB.out⟩
   ·rw [I_ c9] at H; exact absurd H (by simp)
  ·rw [I_ c8] at H; exact absurd H (by simp)

end Go.Proofs.YtdebpmdbeogglaaGreat.Q
