-- Written by a session's own program (wip/tools/myprint.py) over the kit's printer, out of the translation. Not trusted: Lean checks it.
import Derived.Test.YtdebpmdbeogglaaGreatQ0
import Derived.Test.YtdebpmdbeogglaaGreatQ7
import Derived.Test.YtdebpmdbeogglaaGreatQ13
-- squeezed
-- renamed
-- squeezed4
namespace Go.Proofs.YtdebpmdbeogglaaGreat.Q
open Go.RowKit Go.Proofs.YtdebpmdbeogglaaGreatW.PrintWords Go.Proofs.YtdebpmdbeogglaaGreatW.PrintLast Go.Proofs.YtdebpmdbeogglaaGreatW.PrintMore
attribute [local go_sem] max2_int min2_int max_two min_two max_three min_three max_four min_four   -- for this text's walks alone
set_option linter.unusedVariables false
set_option linter.unusedSimpArgs false

/-! ### impl_movesAfter: function 32 -/
def impl_movesAfter.l0 : Nat → Int → Int → List Int → Option (Int)
 | 0, _, _, _ => none
 | k + 1, x5, x6, q0 => if x6 < (q0.length : Int) then (if 0 ≤ x6 then (if 0 ≤ (wrap64 (x6 - 1)) then (if (wrap64 (x6 - 1)) < (q0.length : Int) then (if (rd q0 x6) = (rd q0 (wrap64 (x6 - 1))) then (impl_movesAfter.l0 k x5 (wrap64 (x6 + 1)) q0) else (impl_movesAfter.l0 k (wrap64 (x5 + 1)) (wrap64 (x6 + 1)) q0)) else (none)) else (none)) else (none)) else (some x5)
def impl_movesAfter.f (k : Nat) (a0 : List Int) (a1 : Int) : Option (Int) := impl_movesAfter.l0 k 0 (wrap64 ((mx a1 0) + 1)) a0
set_option maxHeartbeats 8000000 in
set_option maxRecDepth 100000 in
theorem impl_movesAfter.calls (k : Nat) (r0 : Option Addr) (s0 : Nat) (a0 : List Int) (a1 : Int) (r : Int) (w : World) (hr0_0 : Kd.C (Kd.int .i64) w r0 a0.length a0) (hc0_0 : a0.length ≤ s0) (h : impl_movesAfter.f k a0 a1 = some r) :
  Calls Tryz.prog 32 #[.agg #[.slice r0 a0.length s0], .int .i64 a1] w fun e w' => e = .returned (.int .i64 r) ∧ Below w.heap.size w w' := by
 have hu43 := Tryz.underlying43; have t0 := B_ hr0_0; have HC0_0 := B_ hc0_0; clear hr0_0 hc0_0; have HB := B_ (A__ w.heap.size w); have H : (impl_movesAfter.l0 k 0 (wrap64 ((mx a1 0) + 1)) a0) = some r := h; clear h; obtain ⟨ji3, hji3⟩ : ∃ j_ : Int, (mx a1 0) = j_ := ⟨_, rfl⟩; replace H : (impl_movesAfter.l0 k 0 (wrap64 ((ji3) + 1)) a0) = some r := by first | (rw [hji3] at H; exact H) | (simp only [hji3] at H ⊢; exact H)
 (try (have hji3l : 0 ≤ ji3 := by (rw [← hji3]; unfold mx; (repeat' split) <;> omega))); (try (have hji3m : 0 ≤ ji3 := by omega)); have hji3_ : (if a1 < 0 then 0 else a1) = ji3 := hji3; have H' := B_ H; clear H; go_enter Tryz.func32, Tryz.ntmps32
 repeat ((fail_if_success (first | clear z_ | done)); go_wp2_with (first | ((with_reducible refine Y_ (N := 2) rfl ?_); refine be_ (N := 2) (cs := #[.slice r0 a0.length s0]) (t := 43) ?_; intro z0 hg w4 hbox hb; have c0 := B_ (hbox); have E0 := B_ ((by rw [hg]; exact (H_ (uB HB.out)) : w.heap.size ≤ z0)); have G0 := ge_ hg HB; replace HB := hB_ HB hb; clear hb hbox hg)); first | go_quiet (fail) | have z_ := True.intro | skip)
 (try clear z_); go_loopg [5, 6] k (fun kq v5 v6 w' => ∃ (d0 : Int) (b0 : Int), v5 = .int .i64 d0 ∧ v6 = .int .i64 b0 ∧ Aside0 (impl_movesAfter.l0 kq d0 b0 a0 = some r) ∧ Aside0 (kq ≤ k) ∧ Aside0 (w'.heap[z0]? = some (.cells #[(.slice r0 a0.length s0)] 43 (0, 0))) ∧ Aside0 (Below w.heap.size w w'))
 case atStart => exact ⟨(0), (wrap64 ((ji3) + 1)), ev_, (by first | rfl | (simp; done) | (simp only [← hji3] <;> (first | rfl | simp)) | (simp [*]; done)), H', ⟨N_ _⟩, ⟨uK c0.out⟩, ⟨uB HB.out⟩⟩
 case round =>
  clear H'; (try clear p2); (try clear c3); obtain ⟨d0, b0, rfl, rfl, HA, HK1, c0, HB⟩ := hrel
  cases gk with
  | zero => exact absurd HA.out (by simp [impl_movesAfter.l0])
  | succ k1 =>
   have H := HA.out; clear HA; simp only [impl_movesAfter.l0] at H; by_cases c5 : b0 < (a0.length : Int)
   ·rw [G_ c5] at H; have A0 := C_ c5; clear c5; by_cases c6 : 0 ≤ b0
    ·rw [G_ c6] at H; have J0 := C_ c6; clear c6; obtain ⟨ji7, hji7⟩ : ∃ j_ : Int, (wrap64 (b0 - 1)) = j_ := ⟨_, rfl⟩; replace H : (if 0 ≤ (ji7) then (if (ji7) < (a0.length : Int) then (if (rd a0 b0) = (rd a0 (ji7)) then (impl_movesAfter.l0 k1 d0 (wrap64 (b0 + 1)) a0) else (impl_movesAfter.l0 k1 (wrap64 (d0 + 1)) (wrap64 (b0 + 1)) a0)) else (none)) else (none)) = some r := by first | (rw [hji7] at H; exact H) | (simp only [hji7] at H ⊢; exact H)
     have hji7w : (IntKind.i64.wrap (b0 - 1)) = ji7 := (i64_w _).trans hji7; by_cases c8 : 0 ≤ (ji7)
     ·rw [G_ c8] at H; have L0 := C_ c8; clear c8; by_cases c9 : (ji7) < (a0.length : Int)
      ·rw [G_ c9] at H; have M0 := C_ c9; clear c9; by_cases e0 : (rd a0 b0) = (rd a0 (ji7))
       ·rw [G_ e0] at H; have C0 := D__ e0; have D0 := T_ e0; clear e0; have H' := B_ H; clear H; have N0 := bx1 c0.out; have g0 : 0 ≤ (b0 : Int) := od_; have j0 : b0 < (a0.length : Int) := od_; obtain ⟨u0, v0, m0⟩ := U_ t0.out b0 g0 j0
        cases v0; replace m0 := (HB.out.cell (D_ w _ m0)).trans m0; replace g0 := E_ g0; replace j0 := E_ j0; have n0 : 0 ≤ ((ji7) : Int) := od_; have o0 : (ji7) < (a0.length : Int) := od_; obtain ⟨x0, y0, p0⟩ := U_ t0.out (ji7) n0 o0; obtain rfl : u0 = x0 := (by injection y0); replace p0 := (HB.out.cell (D_ w _ p0)).trans p0; replace n0 := E_ n0; replace o0 := E_ o0; go_wp2
        repeat (go_quiet (fail); try go_wp2)
        go_roundg k1
        case measure => have := HK1.out; omega
        case rel => exact ⟨(d0), (wrap64 (b0 + 1)), ev_, ev_, H', ⟨by have := HK1.out; omega⟩, ⟨uK c0.out⟩, ⟨uB HB.out⟩⟩
       ·rw [I_ e0] at H; have C0 := P_ e0; have D0 := B__ e0; have H' := B_ H; clear H; have O0 := bx1 c0.out; have g0 : 0 ≤ (b0 : Int) := od_; have j0 : b0 < (a0.length : Int) := od_; obtain ⟨u0, v0, m0⟩ := U_ t0.out b0 g0 j0
        cases v0; replace m0 := (HB.out.cell (D_ w _ m0)).trans m0; replace g0 := E_ g0; replace j0 := E_ j0; have n0 : 0 ≤ ((ji7) : Int) := od_; have o0 : (ji7) < (a0.length : Int) := od_; obtain ⟨x0, y0, p0⟩ := U_ t0.out (ji7) n0 o0; obtain rfl : u0 = x0 := (by injection y0); replace p0 := (HB.out.cell (D_ w _ p0)).trans p0; replace n0 := E_ n0; replace o0 := E_ o0; go_wp2
        repeat (go_quiet (fail); try go_wp2)
        go_roundg k1
        case measure => have := HK1.out; omega
        case rel => exact ⟨(wrap64 (d0 + 1)), (wrap64 (b0 + 1)), ev_, ev_, H', ⟨by have := HK1.out; omega⟩, ⟨uK c0.out⟩, ⟨uB HB.out⟩⟩
      ·rw [I_ c9] at H; exact absurd H (by simp)
     ·rw [I_ c8] at H; exact absurd H (by simp)
    ·rw [I_ c6] at H; exact absurd H (by simp)
   ·rw [I_ c5] at H; have A0 := K_ c5; clear c5; obtain rfl := F_ H; have P0 := bx1 c0.out; go_wp2
    repeat (go_quiet (fail); try go_wp2)
    go_ret; exact ⟨by first | rfl | (simp [errW_none, errW_some] <;> rfl) | (simp only [← hji3]; first | rfl | (simp [errW_none, errW_some] <;> rfl)) | (simp [*, errW_none, errW_some] <;> rfl), uB HB.out⟩

/-! ### impl_MovesOf: function 12 -/
def impl_MovesOf.l0 : Nat → Int → List (S43) → Int → Int → Option (Int)
 | 0, _, _, _, _ => none
 | k + 1, x3, x6, x7, x8 => if x8 < x7 then (if 0 ≤ x8 then (if x8 < (x6.length : Int) then ((impl_movesAfter.f k ((rd_T43 x6 x8).f0) 0).bind fun b0 => (impl_MovesOf.l0 k (wrap64 (x3 + b0)) x6 x7 (wrap64 (x8 + 1)))) else (none)) else (none)) else (some x3)
def impl_MovesOf.f (k : Nat) (l0 : List (S43)) : Option (Int) := impl_MovesOf.l0 k 0 l0 (l0.length : Int) 0
set_option maxHeartbeats 8000000 in
set_option maxRecDepth 100000 in
theorem impl_MovesOf.calls (k : Nat) (A0 : Option Addr) (c0 : Nat) (l0 : List (S43)) (r : Int) (w : World) (hr0 : Kd.C k43 w A0 l0.length l0) (hc0 : l0.length ≤ c0) (h : impl_MovesOf.f k l0 = some r) :
  Calls Tryz.prog 12 #[.slice A0 l0.length c0] w fun e w' => e = .returned (.int .i64 r) ∧ Below w.heap.size w w' := by
 have hu43 := Tryz.underlying43; have s0 := B_ hr0; have HC0 := B_ hc0; clear hr0 hc0; have HB := B_ (A__ w.heap.size w); have H : (impl_MovesOf.l0 k 0 l0 (l0.length : Int) 0) = some r := h; clear h; have H' := B_ H; clear H; go_enter Tryz.func12, Tryz.ntmps12; go_wp2; go_loopg [3, 8] k (fun kq v3 v8 w' => ∃ (d0 : Int) (a0 : Int), v3 = .int .i64 d0 ∧ v8 = .int .i64 a0 ∧ Aside0 (impl_MovesOf.l0 kq d0 l0 (l0.length : Int) a0 = some r) ∧ Aside0 (kq ≤ k) ∧ Aside0 (Below w.heap.size w w'))
 case atStart => exact ⟨(0), (0), ev_, ev_, H', ⟨N_ _⟩, ⟨uB HB.out⟩⟩
 case round =>
  clear H'; (try clear c1); obtain ⟨d0, a0, rfl, rfl, HA, HK1, HB⟩ := hrel
  cases gk with
  | zero => exact absurd HA.out (by simp [impl_MovesOf.l0])
  | succ k1 =>
   have H := HA.out; clear HA; simp only [impl_MovesOf.l0] at H; by_cases c2 : a0 < (l0.length : Int)
   ·rw [G_ c2] at H; have t0 := C_ c2; clear c2; by_cases c3 : 0 ≤ a0
    ·rw [G_ c3] at H; have x0 := C_ c3; clear c3; by_cases c4 : a0 < (l0.length : Int)
     ·rw [G_ c4] at H; have y0 := C_ c4; clear c4; obtain ⟨b0, A5, H⟩ := ob_ H; have H' := B_ H; clear H; have e0 : 0 ≤ (a0 : Int) := od_; have g0 : a0 < (l0.length : Int) := od_; obtain ⟨z0, m0, n0, u0, j0, o0, p0⟩ := at_T43 s0.out a0 e0 g0
      cases u0; replace j0 := (HB.out.cell (D_ w _ j0)).trans j0; have v0 := B_ p0; have HC578_0 := B_ o0; clear p0 o0; replace e0 := E_ e0; replace g0 := E_ g0; go_wp2_with (first | ((with_reducible refine Y_ (N := 5) rfl ?_); refine be_ (N := 5) (cs := #[.slice none 0 0]) (t := 43) ?_; intro q0 hg w6 hbox hb; have r0 := B_ (hbox); have C0 := B_ ((by rw [hg]; exact (H_ (uB HB.out)) : w.heap.size ≤ q0)); have D0 := ge_ hg HB; replace HB := hB_ HB hb; clear hb hbox hg; have E0 := bx1 r0.out) | ((with_reducible refine J_ (f := 32) rfl ?_); refine gL_ (some 14) Tryz.func32 #[.agg #[.slice m0 ((rd_T43 l0 a0).f0).length n0], .int .i64 0] ?_; (with_reducible refine (impl_movesAfter.calls k1 _ _ ((rd_T43 l0 a0).f0) 0 b0 _ ?side1 ?side2 A5.out).mono ?_); (case side1 => exact Kd.C_below v0.out bw_); (case side2 => exact HC578_0.out); rintro e w8 ⟨rfl, hb⟩; refine ⟨_, rfl, ?_⟩; replace r0 := B_ (blk_below (g := q0) (o := .cells #[.slice m0 ((rd_T43 l0 a0).f0).length n0] 43 (0, 0)) zk_ hb); replace HB := hw_ hb; (try clear hb)))
      go_roundg k1
      case measure => have := HK1.out; omega
      case rel => exact ⟨(wrap64 (d0 + b0)), (wrap64 (a0 + 1)), ev_, ev_, H', ⟨by have := HK1.out; omega⟩, ⟨bw_⟩⟩
     ·rw [I_ c4] at H; exact absurd H (by simp)
    ·rw [I_ c3] at H; exact absurd H (by simp)
   ·rw [I_ c2] at H; have t0 := K_ c2; clear c2; obtain rfl := F_ H; go_wp2; go_ret; exact ⟨ew_, uB HB.out⟩

/-! ### impl_EndsOf: function 33 -/
def impl_EndsOf.l0 : Nat → List Int → List (S43) → Int → Int → Option (List Int)
 | 0, _, _, _, _ => none
 | k + 1, x3, x6, x7, x8 => if x8 < x7 then (if 0 ≤ x8 then (if x8 < (x6.length : Int) then (if (((rd_T43 x6 x8).f0).length : Int) > 0 then (if 0 ≤ (wrap64 ((((rd_T43 x6 x8).f0).length : Int) - 1)) then (if (wrap64 ((((rd_T43 x6 x8).f0).length : Int) - 1)) < (((rd_T43 x6 x8).f0).length : Int) then (if x3.length < 17592186044416 then (impl_EndsOf.l0 k (x3 ++ [rd ((rd_T43 x6 x8).f0) (wrap64 ((((rd_T43 x6 x8).f0).length : Int) - 1))]) x6 x7 (wrap64 (x8 + 1))) else (none)) else (none)) else (none)) else (impl_EndsOf.l0 k x3 x6 x7 (wrap64 (x8 + 1)))) else (none)) else (none)) else ((impl_ordered.f x3).bind fun t0 => (some t0))
def impl_EndsOf.f (k : Nat) (l0 : List (S43)) : Option (List Int) := impl_EndsOf.l0 k ([] : List Int) l0 (l0.length : Int) 0
set_option maxHeartbeats 8000000 in
set_option maxRecDepth 100000 in
theorem impl_EndsOf.calls (k : Nat) (A0 : Option Addr) (c0 : Nat) (l0 : List (S43)) (r : List Int) (w : World) (hr0 : Kd.C k43 w A0 l0.length l0) (hc0 : l0.length ≤ c0) (h : impl_EndsOf.f k l0 = some r) :
  Calls Tryz.prog 33 #[.slice A0 l0.length c0] w fun e w' => ∃ v0_ : Value, e = .returned (v0_) ∧ Kd.R (Kd.int .i64) 3 w' w.heap.size (fun _ => True) v0_ r ∧ Below w.heap.size w w' := by
 have hu43 := Tryz.underlying43; have C0 := B_ hr0; have HC0 := B_ hc0; clear hr0 hc0; have HB := B_ (A__ w.heap.size w); have H : (impl_EndsOf.l0 k ([] : List Int) l0 (l0.length : Int) 0) = some r := h; clear h; have H' := B_ H; clear H; go_enter Tryz.func33, Tryz.ntmps33; go_wp2; go_loopg [3, 8] k (fun kq v3 v8 w' => ∃ (b0 : List Int) (a0 : Int), v8 = .int .i64 a0 ∧ Aside0 (impl_EndsOf.l0 kq b0 l0 (l0.length : Int) a0 = some r) ∧ Aside0 (kq ≤ k) ∧ Aside0 (Kd.R (Kd.int .i64) 3 w' w.heap.size (fun _ => True) v3 b0) ∧ Aside0 (Below w.heap.size w w'))
 case atStart => exact ⟨(([] : List Int)), (0), ev_, H', ⟨N_ _⟩, ⟨by first | exact Kd.R_nil _ _ _ _ _ | exact Kd.N_nil _ _ _ _ _ | exact Kd.V_nil _ _ _ _ _ | exact Kd.Q_nil _ _ _ _ _ | exact Kd.S_nil _ _ _ _ _⟩, ⟨uB HB.out⟩⟩
 case round =>
  clear H'; obtain ⟨b0, a0, rfl, HA, HK1, d0, HB⟩ := hrel
  cases gk with
  | zero => exact absurd HA.out (by simp [impl_EndsOf.l0])
  | succ k1 =>
   have H := HA.out; clear HA; simp only [impl_EndsOf.l0] at H; by_cases c2 : a0 < (l0.length : Int)
   ·rw [G_ c2] at H; have M0 := C_ c2; clear c2; by_cases c3 : 0 ≤ a0
    ·rw [G_ c3] at H; have a1 := C_ c3; clear c3; by_cases c4 : a0 < (l0.length : Int)
     ·rw [G_ c4] at H; have b1 := C_ c4; clear c4; by_cases c5 : (((rd_T43 l0 a0).f0).length : Int) > 0
      ·rw [G_ c5] at H; have N0 := C_ c5; have O0 : decide (0 < ((rd_T43 l0 a0).f0).length) = true := C_ (by omega); clear c5; obtain ⟨ji6, hji6⟩ : ∃ j_ : Int, (wrap64 ((((rd_T43 l0 a0).f0).length : Int) - 1)) = j_ := ⟨_, rfl⟩; replace H : (if 0 ≤ (ji6) then (if (ji6) < (((rd_T43 l0 a0).f0).length : Int) then (if b0.length < 17592186044416 then (impl_EndsOf.l0 k1 (b0 ++ [rd ((rd_T43 l0 a0).f0) (ji6)]) l0 (l0.length : Int) (wrap64 (a0 + 1))) else (none)) else (none)) else (none)) = some r := by first | (rw [hji6] at H; exact H) | (simp only [hji6] at H ⊢; exact H)
       have hji6w : (IntKind.i64.wrap ((((rd_T43 l0 a0).f0).length : Int) - 1)) = ji6 := (i64_w _).trans hji6; by_cases c7 : 0 ≤ (ji6)
       ·rw [G_ c7] at H; have c1 := C_ c7; clear c7; by_cases c8 : (ji6) < (((rd_T43 l0 a0).f0).length : Int)
        ·rw [G_ c8] at H; have d1 := C_ c8; clear c8; by_cases c9 : b0.length < 17592186044416
         ·rw [G_ c9] at H; have P0 := B_ c9; clear c9; obtain ⟨D0, hy_⟩ : ∃ y_ : List Int, y_ = (b0 ++ [rd ((rd_T43 l0 a0).f0) (ji6)]) := ⟨_, rfl⟩; replace H : (impl_EndsOf.l0 k1 D0 l0 (l0.length : Int) (wrap64 (a0 + 1))) = some r := hz_
          have Q0 := B_ hy_; clear hy_; have H' := B_ H; clear H; have g0 : 0 ≤ (a0 : Int) := od_; have j0 : a0 < (l0.length : Int) := od_; obtain ⟨R0, E0, p0, u0, m0, q0, r0⟩ := at_T43 C0.out a0 g0 j0
          cases u0; replace m0 := (HB.out.cell (D_ w _ m0)).trans m0; have G0 := B_ r0; have HC581_0 := B_ q0; clear r0 q0; replace g0 := E_ g0; replace j0 := E_ j0; go_wp2_with (first | ((with_reducible refine Y_ (N := 5) rfl ?_); refine be_ (N := 5) (cs := #[.slice none 0 0]) (t := 43) ?_; intro e0 hg e1 hbox hb; replace d0 := rb_ d0 hb; have n0 := B_ (hbox); have J0 := B_ ((by rw [hg]; exact (H_ (uB HB.out)) : w.heap.size ≤ e0)); have U0 := ge_ hg HB; replace HB := hB_ HB hb; clear hb hbox hg; have g1 := bx1 n0.out; have v0 : 0 ≤ ((ji6) : Int) := od_; have x0 : (ji6) < (((rd_T43 l0 a0).f0).length : Int) := od_; obtain ⟨s0, V0, o0⟩ := U_ G0.out (ji6) v0 x0; cases V0; have hn583_0 : s0.block ≠ e0 := Nat.ne_of_lt (Nat.lt_of_lt_of_le (by have := D_ _ _ o0; first | rwa [add_block] at this | exact this) J0.out); replace o0 := (HB.out.cell (D_ w _ o0)).trans o0; replace o0 := (cell_far (p := ⟨e0, 0, none⟩) (by first | (rw [add_block]; exact hn583_0) | (show (Addr.add _ _).block ≠ _; rw [add_block]; exact hn583_0) | exact hn583_0) (.slice (some s0) ((rd_T43 l0 a0).f0).length p0)).trans o0; clear hn583_0; replace v0 := E_ v0; replace x0 := E_ x0) | ((with_reducible refine gate_builtin (b := .append) (xs := #[.tmp 16, .tmp 25]) rfl ?_); at_builtin; refine Kd.R_append (Kd.int .i64) (w0 := w) w.heap.size rfl (.tmp 16) (.tmp 25) 26 3 (.int .i64 0) 8 rfl Tryz.underlying26 info3 rfl (by decide) (by omega) u3 b0 (rd ((rd_T43 l0 a0).f0) (ji6)) [.int .i64 (rd ((rd_T43 l0 a0).f0) (ji6))] (fun _ => True) (fun _ => False) rfl (by first | (go_simp; done) | (go_simp; rfl)) ?aP (fun _ hk => hk.elim) ?aF ?aO ?aB ?aS ?aL ?_; (case aP => exact rfl); (case aB => exact bw_); (case aF => exact (fun _ _ => trivial)); (case aO => exact (uR (O_ (Kd.R_far (p := ⟨e0, 0, none⟩) (Kd.R_types d0.out n0.out (by decide)) (fun _ hk => hk.2) (.slice (some s0) ((rd_T43 l0 a0).f0).length p0)) (fun _ hk => trivial)))); (case aS => exact (H_ bw_)); (case aL => have := P0.out; omega); intro v585 j1 ho hb hg hat; rw [← Q0.out] at ho; replace n0 := B_ (blk_grown (g := e0) (o := .cells #[.slice (some s0) ((rd_T43 l0 a0).f0).length p0] 43 (0, 0)) zk_ hg (Kd.R_ne d0.out n0.out (by decide))); replace HB := B_ (hb); have X0 := B_ (ho); clear d0; clear ho hb hg hat))
          go_roundg k1
          case measure => have := HK1.out; omega
          case rel => exact ⟨(D0), (wrap64 (a0 + 1)), ev_, H', ⟨by have := HK1.out; omega⟩, ⟨uR X0.out⟩, ⟨bw_⟩⟩
         ·rw [I_ c9] at H; exact absurd H (by simp)
        ·rw [I_ c8] at H; exact absurd H (by simp)
       ·rw [I_ c7] at H; exact absurd H (by simp)
      ·rw [I_ c5] at H; have N0 := K_ c5; have O0 : decide (0 < ((rd_T43 l0 a0).f0).length) = false := K_ (by omega); clear c5; have H' := B_ H; clear H; have g0 : 0 ≤ (a0 : Int) := od_; have j0 : a0 < (l0.length : Int) := od_; obtain ⟨R0, E0, p0, u0, m0, q0, r0⟩ := at_T43 C0.out a0 g0 j0
       cases u0; replace m0 := (HB.out.cell (D_ w _ m0)).trans m0; have G0 := B_ r0; have HC581_0 := B_ q0; clear r0 q0; replace g0 := E_ g0; replace j0 := E_ j0; go_wp2_with (first | ((with_reducible refine Y_ (N := 5) rfl ?_); refine be_ (N := 5) (cs := #[.slice none 0 0]) (t := 43) ?_; intro e0 hg l1 hbox hb; replace d0 := rb_ d0 hb; have n0 := B_ (hbox); have J0 := B_ ((by rw [hg]; exact (H_ (uB HB.out)) : w.heap.size ≤ e0)); have U0 := ge_ hg HB; replace HB := hB_ HB hb; clear hb hbox hg; have m1 := bx1 n0.out))
       go_roundg k1
       case measure => have := HK1.out; omega
       case rel => exact ⟨(b0), (wrap64 (a0 + 1)), ev_, H', ⟨by have := HK1.out; omega⟩, ⟨uR (O_ (Kd.R_far (p := ⟨e0, 0, none⟩) (Kd.R_types d0.out n0.out (by decide)) (fun _ hk => hk.2) (.slice E0 ((rd_T43 l0 a0).f0).length p0)) (fun _ hk => trivial))⟩, ⟨bw_⟩⟩
     ·rw [I_ c4] at H; exact absurd H (by simp)
    ·rw [I_ c3] at H; exact absurd H (by simp)
   ·rw [I_ c2] at H; have M0 := K_ c2; clear c2; obtain ⟨t0, A15, H⟩ := ob_ H; obtain rfl := F_ H; obtain ⟨y0, z0, Y0⟩ := Kd.R_slice d0.out; subst Y0; go_wp2_with (first | ((with_reducible refine J_ (f := 58) rfl ?_); refine gL_ (some 29) Tryz.func58 #[.slice y0 b0.length z0] ?_; (with_reducible refine (impl_ordered.calls (fun k_ => some k_ = (.slice y0 b0.length z0 : Value).ownBlock) (.slice y0 b0.length z0) b0 t0 w _ ?side1 ?side2 A15.out).mono ?_); (case side1 => repeat (first | (with_reducible first | exact HB.out | apply below_alloc | apply pw_below_drewN | apply below_drew1) | exact HB.out)); (case side2 => exact Kd.R_tight rfl d0.out); rintro e n1 ⟨v588, rfl, L0, hb, hkp⟩; refine ⟨_, rfl, ?_⟩; have Z0 := B_ (O_ (ok' := fun k_ => True) L0 (fun k_ hk_ => trivial)); replace HB := B_ (hb); clear d0; (try clear hb); (try clear hkp); (try clear L0)))
    go_ret; exact ⟨_, ew_, by (with_reducible repeat (first | apply Kd.R_alloc | apply Kd.R_drewN | apply Kd.R_drew)); exact Z0.out, uB HB.out⟩

/-! ### slices_IndexFunc_int_int: function 64 -/
set_option maxHeartbeats 8000000 in
set_option maxRecDepth 100000 in
theorem indexFunc_int (p : Int → Bool) (g : Nat) (lb : Array Value) (eg : ∀ args w, (callFunc g args).run Tryz.prog w = .ok (.enter g args) w)
    (A : Option Addr) (c : Nat) (l : List Int) (w : World) (hr : Kd.C (Kd.int .i64) w A l.length l) (hc : l.length ≤ c) (hp : Tells g lb (Value.int .i64) p l w) :
    Calls Tryz.prog 64 #[.slice A l.length c, .func (.func g) #[] lb] w fun e w' => e = .returned (.int .i64 (findI p l)) ∧ Below w.heap.size w w' := by
  have HP : Aside0 (∀ (W : World) (x : Int), x ∈ l → Below w.heap.size w W → Calls Tryz.prog g (#[Value.int .i64 x] ++ lb) W fun e w' => e = .returned (.bool (p x)) ∧ Below W.heap.size W w') := ⟨hp⟩
  have HR := B_ hr
  have hn : l.length ≤ 9223372036854775807 := hr.2.1
  clear hp hr
  go_enter Tryz.func64, Tryz.ntmps64
  go_wp2
  go_loopg [5, 8] l.length (fun gg _ s8 wr => ∃ kk : Nat, kk ≤ l.length ∧ l.length - kk ≤ gg ∧ s8 = .int .i64 kk ∧ Aside0 (Below w.heap.size w wr) ∧ Aside0 (∀ j, j < kk → p (l.getD j 0) = false))
  case atStart => exact ⟨0, Nat.zero_le _, by omega, rfl, ⟨A__ _ _⟩, ⟨fun j hj => absurd hj (Nat.not_lt_zero _)⟩⟩
  case round =>
    obtain ⟨kk, hkk, hg, rfl, HB, HA⟩ := hrel
    by_cases hlt : kk < l.length
    · have hltz : (kk : Int) < (l.length : Int) := by omega
      obtain ⟨ad, ead, hx⟩ := U_ HR.out (kk : Int) (by omega) hltz
      cases ead
      rw [Int.toNat_natCast] at hx
      replace hx := (HB.out.cell (D_ w _ hx)).trans hx
      have hcall := HP.out _ (rd l kk) (by rw [rd, Int.toNat_natCast, List.getD_eq_getElem?_getD, List.getElem?_eq_getElem hlt]; exact List.getElem_mem hlt) HB.out
      have HX : Aside0 (rd l kk = l.getD kk 0) := ⟨by simp [rd]⟩
      generalize hy : rd l kk = y at hcall hx HX
      clear hy
      cases hq : p y with
      | true =>
        rw [hq] at hcall
        have HCALL := B_ hcall
        clear hcall
        have HQ := B_ hq
        clear hq
        go_wp2_with fail
        refine HCALL.out.mono ?_
        rintro e w' ⟨rfl, hb⟩
        go_wp2
        go_ret
        refine ⟨?_, below_step HB.out hb⟩
        rw [findI_hit p l 0 kk hlt (by rw [← HX.out]; exact HQ.out) HA.out]
        rfl
      | false =>
        rw [hq] at hcall
        have HCALL := B_ hcall
        clear hcall
        have HQ := B_ hq
        clear hq
        go_wp2_with fail
        refine HCALL.out.mono ?_
        rintro e w' ⟨rfl, hb⟩
        go_wp2
        have HB2 := B_ (below_step HB.out hb)
        go_roundg (l.length - (kk + 1))
        case measure => omega
        case rel =>
          refine ⟨kk + 1, by omega, by omega, by go_num, HB2, ⟨fun j hj => ?_⟩⟩
          by_cases e : j = kk
          · subst e; rw [← HX.out]; exact HQ.out
          · exact HA.out j (by omega)
    · have hltz : ¬ (kk : Int) < (l.length : Int) := by omega
      have hkl : kk = l.length := by omega
      have HA2 : Aside0 (∀ j, j < l.length → p (l.getD j 0) = false) := ⟨by rw [← hkl]; exact HA.out⟩
      clear hkl HA
      go_wp2
      go_ret
      exact ⟨by rw [findI_miss p l 0 HA2.out]; rfl, HB.out⟩


/-! ### slices_ContainsFunc_int_int: function 41 -/
set_option maxHeartbeats 8000000 in
set_option maxRecDepth 100000 in
theorem containsFunc_int (p : Int → Bool) (g : Nat) (lb : Array Value) (eg : ∀ args w, (callFunc g args).run Tryz.prog w = .ok (.enter g args) w)
    (A : Option Addr) (c : Nat) (l : List Int) (w : World) (hr : Kd.C (Kd.int .i64) w A l.length l) (hc : l.length ≤ c) (hp : Tells g lb (Value.int .i64) p l w) :
    Calls Tryz.prog 41 #[.slice A l.length c, .func (.func g) #[] lb] w fun e w' => e = .returned (.bool (l.any p)) ∧ Below w.heap.size w w' := by
  have H := indexFunc_int p g lb eg A c l w hr hc hp
  rw [← findI_any]
  generalize findI p l = y at H
  clear hp hr
  go_enter Tryz.func41, Tryz.ntmps41
  go_wp2_with (go_at_call 64; refine H.mono ?_; rintro e w' ⟨rfl, hb⟩)
  go_ret
  exact ⟨rfl, hb⟩


/-! ### impl_isFree: function 61 -/
def impl_isFree.f (b0 : Int) (c0 : Int) (a0 : ByteArray) (a1 : Int) : Option (Bool) := if a1 ≥ 0 then (if a1 < (a0.size : Int) then (if 0 ≤ a1 then (some ((bt a0 a1) != 35)) else (none)) else (some false)) else (some false)
set_option maxHeartbeats 8000000 in
set_option maxRecDepth 100000 in
theorem impl_isFree.calls (b0 : Int) (c0 : Int) (a0 : ByteArray) (a1 : Int) (r : Bool) (w : World) (h : impl_isFree.f b0 c0 a0 a1 = some r) :
  Calls Tryz.prog 61 #[.agg #[.int .i64 b0, .int .i64 c0, .string a0], .int .i64 a1] w fun e w' => e = .returned (.bool r) ∧ Below w.heap.size w w' := by
 have hu25 := Tryz.underlying25; have HB := B_ (A__ w.heap.size w); have H : (if a1 ≥ 0 then (if a1 < (a0.size : Int) then (if 0 ≤ a1 then (some ((bt a0 a1) != 35)) else (none)) else (some false)) else (some false)) = some r := h; clear h; by_cases c3 : a1 ≥ 0
 ·rw [G_ c3] at H; have l0 := C_ c3; clear c3; by_cases c4 : a1 < (a0.size : Int)
  ·rw [G_ c4] at H; have m0 := C_ c4; clear c4; by_cases c5 : 0 ≤ a1
   ·rw [G_ c5] at H; have n0 := C_ c5; clear c5; obtain rfl := F_ H; go_enter Tryz.func61, Tryz.ntmps61; go_wp2_with (first | ((with_reducible refine Y_ (N := 2) rfl ?_); (try (refine gate_guard (by rfl) ?_; dsimp only)); refine be_ (N := 2) (cs := #[.int .i64 b0, .int .i64 c0, .string a0]) (t := 25) ?_; intro d0 hg w7 hbox hb; have e0 := B_ (hbox); have g0 := B_ ((by rw [hg]; exact (H_ (uB HB.out)) : w.heap.size ≤ d0)); have j0 := ge_ hg HB; replace HB := hB_ HB hb; clear hb hbox hg; have o0 := bx3 e0.out; have p6 : 0 ≤ (a1 : Int) := od_; have q6 : a1 < (a0.size : Int) := od_; have hx6 := bt_at a0 a1; replace p6 := E_ p6; replace q6 := E_ q6))
    go_ret; exact ⟨ew_, uB HB.out⟩
   ·rw [I_ c5] at H; exact absurd H (by simp)
  ·rw [I_ c4] at H; have m0 := K_ c4; clear c4; obtain rfl := F_ H; go_enter Tryz.func61, Tryz.ntmps61; go_wp2_with (first | ((with_reducible refine Y_ (N := 2) rfl ?_); (try (refine gate_guard (by rfl) ?_; dsimp only)); refine be_ (N := 2) (cs := #[.int .i64 b0, .int .i64 c0, .string a0]) (t := 25) ?_; intro d0 hg w9 hbox hb; have e0 := B_ (hbox); have g0 := B_ ((by rw [hg]; exact (H_ (uB HB.out)) : w.heap.size ≤ d0)); have j0 := ge_ hg HB; replace HB := hB_ HB hb; clear hb hbox hg; have p0 := bx3 e0.out))
   go_ret; exact ⟨ew_, uB HB.out⟩
 ·rw [I_ c3] at H; have l0 := K_ c3; clear c3; obtain rfl := F_ H; go_enter Tryz.func61, Tryz.ntmps61; go_wp2_with (first | ((with_reducible refine Y_ (N := 2) rfl ?_); (try (refine gate_guard (by rfl) ?_; dsimp only)); refine be_ (N := 2) (cs := #[.int .i64 b0, .int .i64 c0, .string a0]) (t := 25) ?_; intro d0 hg q0 hbox hb; have e0 := B_ (hbox); have g0 := B_ ((by rw [hg]; exact (H_ (uB HB.out)) : w.heap.size ≤ d0)); have j0 := ge_ hg HB; replace HB := hB_ HB hb; clear hb hbox hg))
  go_ret; exact ⟨ew_, uB HB.out⟩

end Go.Proofs.YtdebpmdbeogglaaGreat.Q
