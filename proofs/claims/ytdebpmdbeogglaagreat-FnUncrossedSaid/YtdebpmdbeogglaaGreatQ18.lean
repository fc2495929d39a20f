-- Written by a session's own program (wip/tools/myprint.py) over the kit's printer, out of the translation. Not trusted: Lean checks it.
import Derived.Test.YtdebpmdbeogglaaGreatQ0
import Derived.Test.YtdebpmdbeogglaaGreatQ14
import Derived.Test.YtdebpmdbeogglaaGreatQ16
import Derived.Test.YtdebpmdbeogglaaGreatQ17
-- squeezed
-- renamed
-- squeezed4
namespace Go.Proofs.YtdebpmdbeogglaaGreat.Q
open Go.RowKit Go.Proofs.YtdebpmdbeogglaaGreatW.PrintWords Go.Proofs.YtdebpmdbeogglaaGreatW.PrintLast Go.Proofs.YtdebpmdbeogglaaGreatW.PrintMore
attribute [local go_sem] max2_int min2_int max_two min_two max_three min_three max_four min_four   -- for this text's walks alone
set_option linter.unusedVariables false
set_option linter.unusedSimpArgs false

/-! ### impl_stepFault: function 36 -/
mutual
def impl_stepFault.l0 : Nat → List (S43) → Int → Int → Int → Int → ByteArray → Option (Bool)
 | 0, _, _, _, _, _, _ => none
 | k + 1, x9, M0, v0, G0, J0, L0 => if v0 < M0 then (if 0 ≤ v0 then (if v0 < (x9.length : Int) then (impl_stepFault.l1 k x9 M0 v0 ((rd_T43 x9 v0).f0) (((rd_T43 x9 v0).f0).length : Int) 0 G0 J0 L0 ((rd_T43 x9 v0).f0)) else (none)) else (none)) else (some false)
def impl_stepFault.l1 : Nat → List (S43) → Int → Int → List Int → Int → Int → Int → Int → ByteArray → List Int → Option (Bool)
 | 0, _, _, _, _, _, _, _, _, _, _ => none
 | k + 1, x9, M0, v0, N0, d1, u0, G0, J0, L0, R0 => if u0 < d1 then (if 0 ≤ u0 then (if u0 < (N0.length : Int) then ((impl_isFree.f G0 J0 L0 (rd N0 u0)).bind fun t1 => (if t1 = true then (if u0 > 0 then (if 0 ≤ (wrap64 (u0 - 1)) then (if (wrap64 (u0 - 1)) < (R0.length : Int) then (if (rd N0 u0) = (rd R0 (wrap64 (u0 - 1))) then (impl_stepFault.l1 k x9 M0 v0 N0 d1 (wrap64 (u0 + 1)) G0 J0 L0 R0) else ((impl_around.f k G0 J0 L0 (rd R0 (wrap64 (u0 - 1)))).bind fun C0 => ((slices_Contains_int_int.f k C0 (rd N0 u0)).bind fun Y0 => (if Y0 = true then (impl_stepFault.l1 k x9 M0 v0 N0 d1 (wrap64 (u0 + 1)) G0 J0 L0 R0) else (some true))))) else (none)) else (none)) else (impl_stepFault.l1 k x9 M0 v0 N0 d1 (wrap64 (u0 + 1)) G0 J0 L0 R0)) else (some true))) else (none)) else (none)) else (impl_stepFault.l0 k x9 M0 (wrap64 (v0 + 1)) G0 J0 L0)
end
def impl_stepFault.f (k : Nat) (e0 : Int) (g0 : Int) (j0 : ByteArray) (l1 : List (S43)) : Option (Bool) := impl_stepFault.l0 k l1 (l1.length : Int) 0 e0 g0 j0
def impl_stepFault.T7 : Bool × List (List Nat × List Nat) := (true, [([], []), ([], []), ([0, 1], [0, 1]), ([2], [2]), ([3, 2], [3]), ([4], [4]), ([5, 4], [4, 5]), ([6, 4, 4], [4, 6]), ([7], [7]), ([7], [7]), ([9, 7], [7, 9]), ([7], [7]), ([11, 7], [7, 11]), ([10, 12, 7], [7, 10, 12]), ([13, 7], [7, 13]), ([8, 14, 7], [7, 8, 14]), ([7, 15, 4], [4, 7, 15]), ([16, 7, 4], [4, 16]), ([17], [17]), ([17], [17]), ([19, 17], [17, 19]), ([17], [17]), ([21, 17], [17, 21]), ([20, 22, 17], [17, 20, 22]), ([23, 17], [17, 23]), ([18, 24, 17, 17], [17, 18, 24]), ([17], [17]), ([25, 26, 25, 17], [17, 25, 26]), ([27, 17], [17, 27]), ([17, 28, 4], [4, 17, 28]), ([4, 29], [4, 29])])
def impl_stepFault.B7 : List Nat := [0, 0, 3, 7, 15, 31, 63, 127, 255, 255, 767, 255, 2303, 7935, 16127, 32767, 65535, 131071, 262143, 262143, 786431, 262143, 2359295, 8126463, 16515071, 33554431, 262143, 134217727, 268435455, 536870911, 1073741823]
theorem impl_stepFault.tab7 : rtab .any (opsOf Tryz.f36 7) = impl_stepFault.T7 := by kernel_rfl
theorem impl_stepFault.bits7 : waitsOk impl_stepFault.T7.2 impl_stepFault.B7 = true := by kernel_rfl
set_option maxHeartbeats 8000000 in
set_option maxRecDepth 100000 in
theorem impl_stepFault.calls (k : Nat) (e0 : Int) (g0 : Int) (j0 : ByteArray) (A1 : Option Addr) (c1 : Nat) (l1 : List (S43)) (r : Bool) (w : World) (hr1 : Kd.C k43 w A1 l1.length l1) (hc1 : l1.length ≤ c1) (h : impl_stepFault.f k e0 g0 j0 l1 = some r) :
  Calls Tryz.prog 36 #[.agg #[.int .i64 e0, .int .i64 g0, .string j0], .slice A1 l1.length c1] w fun e w' => e = .returned (.bool r) ∧ Below w.heap.size w w' := by
 have hu25 := Tryz.underlying25; have hu43 := Tryz.underlying43; have E1 := B_ hr1; have HC1 := B_ hc1; clear hr1 hc1; have HB := B_ (A__ w.heap.size w); have H : (impl_stepFault.l0 k l1 (l1.length : Int) 0 e0 g0 j0) = some r := h; clear h; have H' := B_ H; clear H; go_enter Tryz.func36, Tryz.ntmps36; go_wp2_with (first | ((with_reducible refine Y_ (N := 2) rfl ?_); refine be_ (N := 2) (cs := #[.int .i64 e0, .int .i64 g0, .string j0]) (t := 25) ?_; intro q0 hg w3 hbox hb; have a0 := B_ (hbox); have b2 := B_ ((by rw [hg]; exact (H_ (uB HB.out)) : w.heap.size ≤ q0)); have c2 := ge_ hg HB; replace HB := hB_ HB hb; clear hb hbox hg))
 go_loopg [11] k (fun kq v11 w' => ∃ (b0 : Int), v11 = .int .i64 b0 ∧ Aside0 (impl_stepFault.l0 kq l1 (l1.length : Int) b0 e0 g0 j0 = some r) ∧ Aside0 (kq ≤ k) ∧ Aside0 (w'.heap[q0]? = some (.cells #[.int .i64 e0, .int .i64 g0, .string j0] 25 (0, 0))) ∧ Aside0 (Below w.heap.size w w'))
 case atStart => exact ⟨(0), ev_, H', ⟨N_ _⟩, ⟨uK a0.out⟩, ⟨bw_⟩⟩
 case round =>
  clear H'; (try clear c1); (try clear p2); (try clear c3); obtain ⟨b0, rfl, HA, HK1, a0, HB⟩ := hrel
  cases gk with
  | zero => exact absurd HA.out (by simp [impl_stepFault.l0])
  | succ k1 =>
   have H := HA.out; clear HA; simp only [impl_stepFault.l0] at H; by_cases c4 : b0 < (l1.length : Int)
   ·rw [G_ c4] at H; have x1 := C_ c4; clear c4; by_cases c5 : 0 ≤ b0
    ·rw [G_ c5] at H; have G1 := C_ c5; clear c5; by_cases c6 : b0 < (l1.length : Int)
     ·rw [G_ c6] at H; have J1 := C_ c6; clear c6; have H' := B_ H; clear H; have e1 : 0 ≤ (b0 : Int) := od_; have g1 : b0 < (l1.length : Int) := od_; obtain ⟨d2, L1, j1, M1, m1, y1, z1⟩ := at_T43 E1.out b0 e1 g1
      cases M1; replace m1 := (HB.out.cell (D_ w _ m1)).trans m1; have D0 := B_ z1; have HC636_0 := B_ y1; clear z1 y1; replace e1 := E_ e1; replace g1 := E_ g1; go_wp2_with (first | ((with_reducible refine Y_ (N := 6) rfl ?_); refine be_ (N := 6) (cs := #[.slice none 0 0]) (t := 43) ?_; intro U0 hg w7 hbox hb; have c0 := B_ (hbox); have e2 := B_ ((by rw [hg]; exact (H_ bw_) : w.heap.size ≤ U0)); have g2 := B_ ((by rw [hg]; exact (H_ bw_) : w.heap.size ≤ U0)); replace HB := hw_ hb; have N1 := nl_ hg a0; have O1 := nr_ hg a0; replace a0 := kb_ a0 hb; clear hb hbox hg; have j2 := O1.out; have l2 := N1.out; have P1 := bx1 c0.out))
      go_loopg [18] k1 (fun kq v18 w' => ∃ (d0 : Int), v18 = .int .i64 d0 ∧ Aside0 (impl_stepFault.l1 kq l1 (l1.length : Int) b0 ((rd_T43 l1 b0).f0) (((rd_T43 l1 b0).f0).length : Int) d0 e0 g0 j0 ((rd_T43 l1 b0).f0) = some r) ∧ Aside0 (kq ≤ k1) ∧ Aside0 (w'.heap[q0]? = some (.cells #[.int .i64 e0, .int .i64 g0, .string j0] 25 (0, 0))) ∧ Aside0 (w'.heap[U0]? = some (.cells #[(.slice L1 ((rd_T43 l1 b0).f0).length j1)] 43 (0, 0))) ∧ Aside0 (Below w.heap.size w w'))
      case atStart => exact ⟨(0), ev_, H', ⟨N_ _⟩, ⟨zk_⟩, ⟨zk_⟩, ⟨bw_⟩⟩
      case round =>
       clear H'; (try clear c1); (try clear p2); (try clear c3); (try clear c4); (try clear x1); (try clear c5); (try clear G1); (try clear c6); (try clear J1); (try clear p6); (try clear q6); (try clear hx6); (try clear c8); (try clear P1); (try clear m1); (try clear e1); (try clear g1); obtain ⟨d0, rfl, HA, HK2, a0, c0, HB⟩ := hrel
       cases gk with
       | zero => exact absurd HA.out (by simp [impl_stepFault.l1])
       | succ k2 =>
        have H := HA.out; clear HA; simp only [impl_stepFault.l1] at H; by_cases V0 : d0 < (((rd_T43 l1 b0).f0).length : Int)
        ·rw [G_ V0] at H; have Q1 := C_ V0; clear V0; by_cases n1 : 0 ≤ d0
         ·rw [G_ n1] at H; have m2 := C_ n1; clear n1; by_cases o1 : d0 < (((rd_T43 l1 b0).f0).length : Int)
          ·rw [G_ o1] at H; have n2 := C_ o1; clear o1; obtain ⟨t1, A13, H⟩ := ob_ H; by_cases p1 : t1 = true
           ·subst p1; rw [G_ rfl] at H; by_cases X0 : d0 > 0
            ·rw [G_ X0] at H; have R1 := C_ X0; clear X0; obtain ⟨ji16, hji16⟩ : ∃ j_ : Int, (wrap64 (d0 - 1)) = j_ := ⟨_, rfl⟩; replace H : (if 0 ≤ (ji16) then (if (ji16) < (((rd_T43 l1 b0).f0).length : Int) then (if (rd ((rd_T43 l1 b0).f0) d0) = (rd ((rd_T43 l1 b0).f0) (ji16)) then (impl_stepFault.l1 k2 l1 (l1.length : Int) b0 ((rd_T43 l1 b0).f0) (((rd_T43 l1 b0).f0).length : Int) (wrap64 (d0 + 1)) e0 g0 j0 ((rd_T43 l1 b0).f0)) else ((impl_around.f k2 e0 g0 j0 (rd ((rd_T43 l1 b0).f0) (ji16))).bind fun C0 => ((slices_Contains_int_int.f k2 C0 (rd ((rd_T43 l1 b0).f0) d0)).bind fun Y0 => (if Y0 = true then (impl_stepFault.l1 k2 l1 (l1.length : Int) b0 ((rd_T43 l1 b0).f0) (((rd_T43 l1 b0).f0).length : Int) (wrap64 (d0 + 1)) e0 g0 j0 ((rd_T43 l1 b0).f0)) else (some true))))) else (none)) else (none)) = some r := by first | (rw [hji16] at H; exact H) | (simp only [hji16] at H ⊢; exact H)
             (try rw [hji16] at A13); have hji16w : (IntKind.i64.wrap (d0 - 1)) = ji16 := (i64_w _).trans hji16; by_cases q1 : 0 ≤ (ji16)
             ·rw [G_ q1] at H; have o2 := C_ q1; clear q1; by_cases r1 : (ji16) < (((rd_T43 l1 b0).f0).length : Int)
              ·rw [G_ r1] at H; have q2 := C_ r1; clear r1; by_cases O0 : (rd ((rd_T43 l1 b0).f0) d0) = (rd ((rd_T43 l1 b0).f0) (ji16))
               ·rw [G_ O0] at H; have U1 := D__ O0; have V1 := T_ O0; clear O0; have H' := B_ H; clear H; have n0 : 0 ≤ (d0 : Int) := od_; have o0 : d0 < (((rd_T43 l1 b0).f0).length : Int) := od_; obtain ⟨r0, E0, p0⟩ := U_ D0.out d0 n0 o0
                cases E0; replace p0 := (HB.out.cell (D_ w _ p0)).trans p0; replace n0 := E_ n0; replace o0 := E_ o0
                try go_wp2
                replace a0 := B_ (X_ a0.out); replace c0 := B_ (X_ c0.out); replace HB := B_ (below_drew1 HB.out); have x0 : 0 ≤ ((ji16) : Int) := od_; have y0 : (ji16) < (((rd_T43 l1 b0).f0).length : Int) := od_; obtain ⟨Z0, a1, s0⟩ := U_ D0.out (ji16) x0 y0; have m0 := s0; obtain rfl : r0 = Z0 := (by injection a1); replace s0 := (HB.out.cell (D_ w _ s0)).trans s0; replace x0 := E_ x0; replace y0 := E_ y0; refine start_ (n := 31) (S := fun w' => w'.cell? ⟨q0, 0, none⟩ = some (.int .i64 e0) ∧ w'.cell? ⟨q0, 1, none⟩ = some (.int .i64 g0) ∧ w'.cell? ⟨q0, 2, none⟩ = some (.string j0) ∧ w'.cell? ⟨U0, 0, none⟩ = some (.slice (some r0) ((rd_T43 l1 b0).f0).length j1) ∧ w'.cell? (r0.add ((ji16)).toNat) = some (.int .i64 (rd ((rd_T43 l1 b0).f0) (ji16)))) (ds := []) (bs_ 31 0) (by kernel_rfl) rfl rfl ⟨bc_ a0 0, bc_ a0 1, bc_ a0 2, bc_ c0 0, ((HB.out.cell (D_ w _ m0)).trans m0)⟩ (fun hHeld => ?_); refine with_tabW impl_stepFault.tab7 impl_stepFault.bits7 (fun HT_ HW_ => ?_); generalize wr.drew = r2 at a0 c0 HB s0 hHeld ⊢; refine pq_ 1 24 31 2 HT_ ?_; refine tq_ 0 23 31 3 HT_ HW_ hHeld ?_; refine on_ 2 25 31 7 HT_ (fun K hK => ?_); refine gO_ Tryz.func61 #[.agg #[.int .i64 e0, .int .i64 g0, .string j0], .int .i64 (rd ((rd_T43 l1 b0).f0) d0)] ?_
                with_reducible refine (impl_isFree.calls e0 g0 j0 (rd ((rd_T43 l1 b0).f0) d0) true _ A13.out).mono ?_
                rintro e s2 ⟨rfl, hb⟩; refine ⟨_, rfl, ?_⟩; replace a0 := kb_ a0 hb; replace c0 := kb_ c0 hb; replace HB := hw_ hb; (try clear hb); refine hK.out _ _ ⟨bc_ a0 0, bc_ a0 1, bc_ a0 2, bc_ c0 0, ((HB.out.cell (D_ w _ m0)).trans m0)⟩ (fun hHeld => ?_); clear hK K; refine norm_ (a' := ?_) ?_ ?_; rotate_left
                ·show Act.put _ (some 25) _ = _
                 simp only [Act.put, pt_]
                 rfl
                refine pq_ 3 26 31 15 HT_ ?_; refine pq_ 4 27 31 31 HT_ ?_; refine pq_ 5 28 31 63 HT_ ?_; refine pq_ 6 29 31 127 HT_ ?_; refine pq_ 7 30 31 255 HT_ ?_; refine pq_ 8 31 31 511 HT_ ?_; refine pq_ 9 32 31 1023 HT_ ?_; refine pq_ 11 34 31 3071 HT_ ?_; refine pq_ 12 35 31 7167 HT_ ?_; refine tq_ 10 33 31 8191 HT_ HW_ hHeld ?_; refine pq_ 13 36 31 16383 HT_ ?_; refine tq_ 14 37 31 32767 HT_ HW_ hHeld ?_; refine pq_ 15 38 31 65535 HT_ ?_; refine pq_ 16 39 31 131071 HT_ ?_; refine pq_ 17 40 31 262143 HT_ ?_; refine pr_ 18 41 31 524287 HT_ ?_; refine pr_ 19 42 31 1048575 HT_ ?_; refine pr_ 20 43 31 2097151 HT_ ?_; refine pr_ 21 44 31 4194303 HT_ ?_; refine pr_ 22 45 31 8388607 HT_ ?_; refine pr_ 23 46 31 16777215 HT_ ?_; refine pr_ 24 47 31 33554431 HT_ ?_; refine pr_ 25 48 31 67108863 HT_ ?_; refine pr_ 26 49 31 134217727 HT_ ?_; refine pr_ 27 50 31 268435455 HT_ ?_; refine pr_ 28 51 31 536870911 HT_ ?_; refine pq_ 29 52 31 1073741823 HT_ ?_; refine pq_ 30 53 31 2147483647 HT_ ?_; refine done_ (done_of HT_.out (by kernel_rfl)) ?_
                try go_wp2
                go_roundg k2
                case measure => have := HK1.out; have := HK2.out; omega
                case rel => exact ⟨(wrap64 (d0 + 1)), ev_, H', ⟨by have := HK1.out; have := HK2.out; omega⟩, ⟨uK a0.out⟩, ⟨uK c0.out⟩, ⟨bw_⟩⟩
               ·rw [I_ O0] at H; have U1 := P_ O0; have V1 := B__ O0; obtain ⟨C0, A22, H⟩ := ob_ H; obtain ⟨Y0, A23, H⟩ := ob_ H; by_cases s1 : Y0 = true
                ·subst s1; rw [G_ rfl] at H; have H' := B_ H; clear H; have n0 : 0 ≤ (d0 : Int) := od_; have o0 : d0 < (((rd_T43 l1 b0).f0).length : Int) := od_; obtain ⟨r0, E0, p0⟩ := U_ D0.out d0 n0 o0
                 cases E0; replace p0 := (HB.out.cell (D_ w _ p0)).trans p0; replace n0 := E_ n0; replace o0 := E_ o0
                 try go_wp2
                 replace a0 := B_ (X_ a0.out); replace c0 := B_ (X_ c0.out); replace HB := B_ (below_drew1 HB.out); have x0 : 0 ≤ ((ji16) : Int) := od_; have y0 : (ji16) < (((rd_T43 l1 b0).f0).length : Int) := od_; obtain ⟨Z0, a1, s0⟩ := U_ D0.out (ji16) x0 y0; have m0 := s0; obtain rfl : r0 = Z0 := (by injection a1); replace s0 := (HB.out.cell (D_ w _ s0)).trans s0; replace x0 := E_ x0; replace y0 := E_ y0; have P0 : 0 ≤ ((ji16) : Int) := od_; have Q0 : (ji16) < (((rd_T43 l1 b0).f0).length : Int) := od_; obtain ⟨u1, v1, z0⟩ := U_ D0.out (ji16) P0 Q0; have t0 := z0; obtain rfl : r0 = u1 := (by injection v1); replace z0 := (HB.out.cell (D_ w _ z0)).trans z0; replace P0 := E_ P0; replace Q0 := E_ Q0; refine start_ (n := 31) (S := fun w' => w'.cell? ⟨q0, 0, none⟩ = some (.int .i64 e0) ∧ w'.cell? ⟨q0, 1, none⟩ = some (.int .i64 g0) ∧ w'.cell? ⟨q0, 2, none⟩ = some (.string j0) ∧ w'.cell? ⟨U0, 0, none⟩ = some (.slice (some r0) ((rd_T43 l1 b0).f0).length j1) ∧ w'.cell? (r0.add ((ji16)).toNat) = some (.int .i64 (rd ((rd_T43 l1 b0).f0) (ji16))) ∧ w'.cell? (r0.add ((ji16)).toNat) = some (.int .i64 (rd ((rd_T43 l1 b0).f0) (ji16)))) (ds := []) (bs_ 31 0) (by kernel_rfl) rfl rfl ⟨bc_ a0 0, bc_ a0 1, bc_ a0 2, bc_ c0 0, ((HB.out.cell (D_ w _ m0)).trans m0), ((HB.out.cell (D_ w _ t0)).trans t0)⟩ (fun hHeld => ?_); refine with_tabW impl_stepFault.tab7 impl_stepFault.bits7 (fun HT_ HW_ => ?_); generalize wr.drew = t2 at a0 c0 HB s0 z0 hHeld ⊢; refine pq_ 1 24 31 2 HT_ ?_; refine tq_ 0 23 31 3 HT_ HW_ hHeld ?_; refine on_ 2 25 31 7 HT_ (fun K hK => ?_); refine gO_ Tryz.func61 #[.agg #[.int .i64 e0, .int .i64 g0, .string j0], .int .i64 (rd ((rd_T43 l1 b0).f0) d0)] ?_
                 with_reducible refine (impl_isFree.calls e0 g0 j0 (rd ((rd_T43 l1 b0).f0) d0) true _ A13.out).mono ?_
                 rintro e u2 ⟨rfl, hb⟩; refine ⟨_, rfl, ?_⟩; replace a0 := kb_ a0 hb; replace c0 := kb_ c0 hb; replace HB := hw_ hb; (try clear hb); refine hK.out _ _ ⟨bc_ a0 0, bc_ a0 1, bc_ a0 2, bc_ c0 0, ((HB.out.cell (D_ w _ m0)).trans m0), ((HB.out.cell (D_ w _ t0)).trans t0)⟩ (fun hHeld => ?_); clear hK K; refine norm_ (a' := ?_) ?_ ?_; rotate_left
                 ·show Act.put _ (some 25) _ = _
                  simp only [Act.put, pt_]
                  rfl
                 refine pq_ 3 26 31 15 HT_ ?_; refine pq_ 4 27 31 31 HT_ ?_; refine pq_ 5 28 31 63 HT_ ?_; refine pq_ 6 29 31 127 HT_ ?_; refine pq_ 7 30 31 255 HT_ ?_; refine pq_ 8 31 31 511 HT_ ?_; refine pq_ 9 32 31 1023 HT_ ?_; refine pq_ 11 34 31 3071 HT_ ?_; refine pq_ 12 35 31 7167 HT_ ?_; refine tq_ 10 33 31 8191 HT_ HW_ hHeld ?_; refine pq_ 13 36 31 16383 HT_ ?_; refine tq_ 14 37 31 32767 HT_ HW_ hHeld ?_; refine pq_ 15 38 31 65535 HT_ ?_; refine pq_ 16 39 31 131071 HT_ ?_; refine pq_ 17 40 31 262143 HT_ ?_; refine pq_ 19 42 31 786431 HT_ ?_; refine pq_ 21 44 31 2883583 HT_ ?_; refine pq_ 22 45 31 7077887 HT_ ?_; refine pq_ 26 49 31 74186751 HT_ ?_; refine tq_ 18 41 31 74448895 HT_ HW_ hHeld ?_; refine tq_ 20 43 31 75497471 HT_ HW_ hHeld ?_; refine pq_ 23 46 31 83886079 HT_ ?_; refine tq_ 24 47 31 100663295 HT_ HW_ hHeld ?_; refine on_ 25 48 31 134217727 HT_ (fun K hK => ?_); refine goes_ Tryz.func62 (by kernel_rfl) rfl #[.agg #[.int .i64 e0, .int .i64 g0, .string j0], .int .i64 (rd ((rd_T43 l1 b0).f0) (ji16))] (by rfl) rfl rfl (by (try simp only [List.map_toArray, List.map_cons, List.map_nil]); first | done | (simp only [hji16]; rfl) | rfl | (simp only [List.length_drop, List.length_take]; rfl)) ?_
                 with_reducible refine (impl_around.calls k2 e0 g0 j0 (rd ((rd_T43 l1 b0).f0) (ji16)) C0 _ A22.out).mono ?_
                 rintro e v2 ⟨v643, rfl, b1, hb⟩; refine ⟨_, rfl, ?_⟩; have A0 := B_ (Kd.R_lower b1 (H_ bw_)); replace a0 := kb_ a0 hb; replace c0 := kb_ c0 hb; replace HB := hw_ hb; (try clear hb); (try clear b1); obtain ⟨X1, Y1, C1⟩ := Kd.R_slice A0.out; (first | subst C1 | (injection C1 with f1_ f2_ f3_; have f4_ := f1_.symm; have f5_ := f3_.symm; clear f1_ f2_ f3_; subst f4_; subst f5_)); refine hK.out _ _ ⟨bc_ a0 0, bc_ a0 1, bc_ a0 2, bc_ c0 0, ((HB.out.cell (D_ w _ m0)).trans m0), ((HB.out.cell (D_ w _ t0)).trans t0)⟩ (fun hHeld => ?_); clear hK K; refine norm_ (a' := ?_) ?_ ?_; rotate_left
                 ·show Act.put _ (some 48) _ = _
                  simp only [Act.put, pt_]
                  rfl
                 refine on_ 27 50 31 268435455 HT_ (fun K hK => ?_); refine gO_ Tryz.func43 #[.slice X1 C0.length Y1, .int .i64 (rd ((rd_T43 l1 b0).f0) d0)] ?_
                 with_reducible refine (slices_Contains_int_int.calls k2 _ _ C0 (rd ((rd_T43 l1 b0).f0) d0) true _ ?side1 ?side2 A23.out).mono ?_
                 (case side1 => exact uC (S_ A0.out).2.2)
                 (case side2 => exact (S_ A0.out).2.1)
                 rintro e x2 ⟨rfl, hb⟩; refine ⟨_, rfl, ?_⟩; replace A0 := rb_ A0 hb; replace a0 := kb_ a0 hb; replace c0 := kb_ c0 hb; replace HB := hw_ hb; (try clear hb); refine hK.out _ _ ⟨bc_ a0 0, bc_ a0 1, bc_ a0 2, bc_ c0 0, ((HB.out.cell (D_ w _ m0)).trans m0), ((HB.out.cell (D_ w _ t0)).trans t0)⟩ (fun hHeld => ?_); clear hK K; refine norm_ (a' := ?_) ?_ ?_; rotate_left
                 ·show Act.put _ (some 50) _ = _
                  simp only [Act.put, pt_]
                  rfl
                 refine pq_ 28 51 31 536870911 HT_ ?_; refine pq_ 29 52 31 1073741823 HT_ ?_; refine pq_ 30 53 31 2147483647 HT_ ?_; refine done_ (done_of HT_.out (by kernel_rfl)) ?_
                 try go_wp2
                 go_roundg k2
                 case measure => have := HK1.out; have := HK2.out; omega
                 case rel => exact ⟨(wrap64 (d0 + 1)), ev_, H', ⟨by have := HK1.out; have := HK2.out; omega⟩, ⟨uK a0.out⟩, ⟨uK c0.out⟩, ⟨bw_⟩⟩
                ·replace s1 := L_ s1; subst s1; rw [I_ (show ¬ (false = true) by decide)] at H; obtain rfl := F_ H; have n0 : 0 ≤ (d0 : Int) := od_; have o0 : d0 < (((rd_T43 l1 b0).f0).length : Int) := od_; obtain ⟨r0, E0, p0⟩ := U_ D0.out d0 n0 o0
                 cases E0; replace p0 := (HB.out.cell (D_ w _ p0)).trans p0; replace n0 := E_ n0; replace o0 := E_ o0
                 try go_wp2
                 replace a0 := B_ (X_ a0.out); replace c0 := B_ (X_ c0.out); replace HB := B_ (below_drew1 HB.out); have x0 : 0 ≤ ((ji16) : Int) := od_; have y0 : (ji16) < (((rd_T43 l1 b0).f0).length : Int) := od_; obtain ⟨Z0, a1, s0⟩ := U_ D0.out (ji16) x0 y0; have m0 := s0; obtain rfl : r0 = Z0 := (by injection a1); replace s0 := (HB.out.cell (D_ w _ s0)).trans s0; replace x0 := E_ x0; replace y0 := E_ y0; have P0 : 0 ≤ ((ji16) : Int) := od_; have Q0 : (ji16) < (((rd_T43 l1 b0).f0).length : Int) := od_; obtain ⟨u1, v1, z0⟩ := U_ D0.out (ji16) P0 Q0; have t0 := z0; obtain rfl : r0 = u1 := (by injection v1); replace z0 := (HB.out.cell (D_ w _ z0)).trans z0; replace P0 := E_ P0; replace Q0 := E_ Q0; refine start_ (n := 31) (S := fun w' => w'.cell? ⟨q0, 0, none⟩ = some (.int .i64 e0) ∧ w'.cell? ⟨q0, 1, none⟩ = some (.int .i64 g0) ∧ w'.cell? ⟨q0, 2, none⟩ = some (.string j0) ∧ w'.cell? ⟨U0, 0, none⟩ = some (.slice (some r0) ((rd_T43 l1 b0).f0).length j1) ∧ w'.cell? (r0.add ((ji16)).toNat) = some (.int .i64 (rd ((rd_T43 l1 b0).f0) (ji16))) ∧ w'.cell? (r0.add ((ji16)).toNat) = some (.int .i64 (rd ((rd_T43 l1 b0).f0) (ji16)))) (ds := []) (bs_ 31 0) (by kernel_rfl) rfl rfl ⟨bc_ a0 0, bc_ a0 1, bc_ a0 2, bc_ c0 0, ((HB.out.cell (D_ w _ m0)).trans m0), ((HB.out.cell (D_ w _ t0)).trans t0)⟩ (fun hHeld => ?_); refine with_tabW impl_stepFault.tab7 impl_stepFault.bits7 (fun HT_ HW_ => ?_); generalize wr.drew = y2 at a0 c0 HB s0 z0 hHeld ⊢; refine pq_ 1 24 31 2 HT_ ?_; refine tq_ 0 23 31 3 HT_ HW_ hHeld ?_; refine on_ 2 25 31 7 HT_ (fun K hK => ?_); refine gO_ Tryz.func61 #[.agg #[.int .i64 e0, .int .i64 g0, .string j0], .int .i64 (rd ((rd_T43 l1 b0).f0) d0)] ?_
                 with_reducible refine (impl_isFree.calls e0 g0 j0 (rd ((rd_T43 l1 b0).f0) d0) true _ A13.out).mono ?_
                 rintro e z2 ⟨rfl, hb⟩; refine ⟨_, rfl, ?_⟩; replace a0 := kb_ a0 hb; replace c0 := kb_ c0 hb; replace HB := hw_ hb; (try clear hb); refine hK.out _ _ ⟨bc_ a0 0, bc_ a0 1, bc_ a0 2, bc_ c0 0, ((HB.out.cell (D_ w _ m0)).trans m0), ((HB.out.cell (D_ w _ t0)).trans t0)⟩ (fun hHeld => ?_); clear hK K; refine norm_ (a' := ?_) ?_ ?_; rotate_left
                 ·show Act.put _ (some 25) _ = _
                  simp only [Act.put, pt_]
                  rfl
                 refine pq_ 3 26 31 15 HT_ ?_; refine pq_ 4 27 31 31 HT_ ?_; refine pq_ 5 28 31 63 HT_ ?_; refine pq_ 6 29 31 127 HT_ ?_; refine pq_ 7 30 31 255 HT_ ?_; refine pq_ 8 31 31 511 HT_ ?_; refine pq_ 9 32 31 1023 HT_ ?_; refine pq_ 11 34 31 3071 HT_ ?_; refine pq_ 12 35 31 7167 HT_ ?_; refine tq_ 10 33 31 8191 HT_ HW_ hHeld ?_; refine pq_ 13 36 31 16383 HT_ ?_; refine tq_ 14 37 31 32767 HT_ HW_ hHeld ?_; refine pq_ 15 38 31 65535 HT_ ?_; refine pq_ 16 39 31 131071 HT_ ?_; refine pq_ 17 40 31 262143 HT_ ?_; refine pq_ 19 42 31 786431 HT_ ?_; refine pq_ 21 44 31 2883583 HT_ ?_; refine pq_ 22 45 31 7077887 HT_ ?_; refine pq_ 26 49 31 74186751 HT_ ?_; refine tq_ 18 41 31 74448895 HT_ HW_ hHeld ?_; refine tq_ 20 43 31 75497471 HT_ HW_ hHeld ?_; refine pq_ 23 46 31 83886079 HT_ ?_; refine tq_ 24 47 31 100663295 HT_ HW_ hHeld ?_; refine on_ 25 48 31 134217727 HT_ (fun K hK => ?_); refine goes_ Tryz.func62 (by kernel_rfl) rfl #[.agg #[.int .i64 e0, .int .i64 g0, .string j0], .int .i64 (rd ((rd_T43 l1 b0).f0) (ji16))] (by rfl) rfl rfl (by (try simp only [List.map_toArray, List.map_cons, List.map_nil]); first | done | (simp only [hji16]; rfl) | rfl | (simp only [List.length_drop, List.length_take]; rfl)) ?_
                 with_reducible refine (impl_around.calls k2 e0 g0 j0 (rd ((rd_T43 l1 b0).f0) (ji16)) C0 _ A22.out).mono ?_
                 rintro e A2 ⟨v643, rfl, b1, hb⟩; refine ⟨_, rfl, ?_⟩; have A0 := B_ (Kd.R_lower b1 (H_ bw_)); replace a0 := kb_ a0 hb; replace c0 := kb_ c0 hb; replace HB := hw_ hb; (try clear hb); (try clear b1); obtain ⟨Z1, a2, D1⟩ := Kd.R_slice A0.out; (first | subst D1 | (injection D1 with f1_ f2_ f3_; have f4_ := f1_.symm; have f5_ := f3_.symm; clear f1_ f2_ f3_; subst f4_; subst f5_)); refine hK.out _ _ ⟨bc_ a0 0, bc_ a0 1, bc_ a0 2, bc_ c0 0, ((HB.out.cell (D_ w _ m0)).trans m0), ((HB.out.cell (D_ w _ t0)).trans t0)⟩ (fun hHeld => ?_); clear hK K; refine norm_ (a' := ?_) ?_ ?_; rotate_left
                 ·show Act.put _ (some 48) _ = _
                  simp only [Act.put, pt_]
                  rfl
                 refine on_ 27 50 31 268435455 HT_ (fun K hK => ?_); refine gO_ Tryz.func43 #[.slice Z1 C0.length a2, .int .i64 (rd ((rd_T43 l1 b0).f0) d0)] ?_
                 with_reducible refine (slices_Contains_int_int.calls k2 _ _ C0 (rd ((rd_T43 l1 b0).f0) d0) false _ ?side1 ?side2 A23.out).mono ?_
                 (case side1 => exact uC (S_ A0.out).2.2)
                 (case side2 => exact (S_ A0.out).2.1)
                 rintro e C2 ⟨rfl, hb⟩; refine ⟨_, rfl, ?_⟩; replace A0 := rb_ A0 hb; replace a0 := kb_ a0 hb; replace c0 := kb_ c0 hb; replace HB := hw_ hb; (try clear hb); refine hK.out _ _ ⟨bc_ a0 0, bc_ a0 1, bc_ a0 2, bc_ c0 0, ((HB.out.cell (D_ w _ m0)).trans m0), ((HB.out.cell (D_ w _ t0)).trans t0)⟩ (fun hHeld => ?_); clear hK K; refine norm_ (a' := ?_) ?_ ?_; rotate_left
                 ·show Act.put _ (some 50) _ = _
                  simp only [Act.put, pt_]
                  rfl
                 refine pq_ 28 51 31 536870911 HT_ ?_; refine pq_ 29 52 31 1073741823 HT_ ?_; refine pq_ 30 53 31 2147483647 HT_ ?_; refine done_ (done_of HT_.out (by kernel_rfl)) ?_
                 try go_wp2
                 go_ret; exact ⟨by first | rfl | (simp [errW_none, errW_some] <;> rfl) | (simp only [← hji16]; first | rfl | (simp [errW_none, errW_some] <;> rfl)) | (simp [*, errW_none, errW_some] <;> rfl), bw_⟩
              ·rw [I_ r1] at H; exact absurd H (by simp)
             ·rw [I_ q1] at H; exact absurd H (by simp)
            ·rw [I_ X0] at H; have R1 := K_ X0; clear X0; have H' := B_ H; clear H; have n0 : 0 ≤ (d0 : Int) := od_; have o0 : d0 < (((rd_T43 l1 b0).f0).length : Int) := od_; obtain ⟨r0, E0, p0⟩ := U_ D0.out d0 n0 o0
             cases E0; replace p0 := (HB.out.cell (D_ w _ p0)).trans p0; replace n0 := E_ n0; replace o0 := E_ o0
             try go_wp2
             replace a0 := B_ (X_ a0.out); replace c0 := B_ (X_ c0.out); replace HB := B_ (below_drew1 HB.out); refine start_ (n := 31) (S := fun w' => w'.cell? ⟨q0, 0, none⟩ = some (.int .i64 e0) ∧ w'.cell? ⟨q0, 1, none⟩ = some (.int .i64 g0) ∧ w'.cell? ⟨q0, 2, none⟩ = some (.string j0)) (ds := []) (bs_ 31 0) (by kernel_rfl) rfl rfl ⟨bc_ a0 0, bc_ a0 1, bc_ a0 2⟩ (fun hHeld => ?_); refine with_tabW impl_stepFault.tab7 impl_stepFault.bits7 (fun HT_ HW_ => ?_); generalize wr.drew = D2 at a0 c0 HB hHeld ⊢; refine pq_ 1 24 31 2 HT_ ?_; refine tq_ 0 23 31 3 HT_ HW_ hHeld ?_; refine on_ 2 25 31 7 HT_ (fun K hK => ?_); refine gO_ Tryz.func61 #[.agg #[.int .i64 e0, .int .i64 g0, .string j0], .int .i64 (rd ((rd_T43 l1 b0).f0) d0)] ?_
             with_reducible refine (impl_isFree.calls e0 g0 j0 (rd ((rd_T43 l1 b0).f0) d0) true _ A13.out).mono ?_
             rintro e E2 ⟨rfl, hb⟩; refine ⟨_, rfl, ?_⟩; replace a0 := kb_ a0 hb; replace c0 := kb_ c0 hb; replace HB := hw_ hb; (try clear hb); refine hK.out _ _ ⟨bc_ a0 0, bc_ a0 1, bc_ a0 2⟩ (fun hHeld => ?_); clear hK K; refine norm_ (a' := ?_) ?_ ?_; rotate_left
             ·show Act.put _ (some 25) _ = _
              simp only [Act.put, pt_]
              rfl
             refine pq_ 3 26 31 15 HT_ ?_; refine pq_ 4 27 31 31 HT_ ?_; refine pq_ 5 28 31 63 HT_ ?_; refine pq_ 6 29 31 127 HT_ ?_; refine pq_ 7 30 31 255 HT_ ?_; refine pr_ 8 31 31 511 HT_ ?_; refine pr_ 9 32 31 1023 HT_ ?_; refine pr_ 10 33 31 2047 HT_ ?_; refine pr_ 11 34 31 4095 HT_ ?_; refine pr_ 12 35 31 8191 HT_ ?_; refine pr_ 13 36 31 16383 HT_ ?_; refine pr_ 14 37 31 32767 HT_ ?_; refine pr_ 15 38 31 65535 HT_ ?_; refine pq_ 16 39 31 131071 HT_ ?_; refine pq_ 17 40 31 262143 HT_ ?_; refine pr_ 18 41 31 524287 HT_ ?_; refine pr_ 19 42 31 1048575 HT_ ?_; refine pr_ 20 43 31 2097151 HT_ ?_; refine pr_ 21 44 31 4194303 HT_ ?_; refine pr_ 22 45 31 8388607 HT_ ?_; refine pr_ 23 46 31 16777215 HT_ ?_; refine pr_ 24 47 31 33554431 HT_ ?_; refine pr_ 25 48 31 67108863 HT_ ?_; refine pr_ 26 49 31 134217727 HT_ ?_; refine pr_ 27 50 31 268435455 HT_ ?_; refine pr_ 28 51 31 536870911 HT_ ?_; refine pq_ 29 52 31 1073741823 HT_ ?_; refine pq_ 30 53 31 2147483647 HT_ ?_; refine done_ (done_of HT_.out (by kernel_rfl)) ?_
             try go_wp2
             go_roundg k2
             case measure => have := HK1.out; have := HK2.out; omega
             case rel => exact ⟨(wrap64 (d0 + 1)), ev_, H', ⟨by have := HK1.out; have := HK2.out; omega⟩, ⟨uK a0.out⟩, ⟨uK c0.out⟩, ⟨bw_⟩⟩
           ·replace p1 := L_ p1; subst p1; rw [I_ (show ¬ (false = true) by decide)] at H; obtain rfl := F_ H; have n0 : 0 ≤ (d0 : Int) := od_; have o0 : d0 < (((rd_T43 l1 b0).f0).length : Int) := od_; obtain ⟨r0, E0, p0⟩ := U_ D0.out d0 n0 o0
            cases E0; replace p0 := (HB.out.cell (D_ w _ p0)).trans p0; replace n0 := E_ n0; replace o0 := E_ o0
            try go_wp2
            replace a0 := B_ (X_ a0.out); replace c0 := B_ (X_ c0.out); replace HB := B_ (below_drew1 HB.out); refine start_ (n := 31) (S := fun w' => w'.cell? ⟨q0, 0, none⟩ = some (.int .i64 e0) ∧ w'.cell? ⟨q0, 1, none⟩ = some (.int .i64 g0) ∧ w'.cell? ⟨q0, 2, none⟩ = some (.string j0)) (ds := []) (bs_ 31 0) (by kernel_rfl) rfl rfl ⟨bc_ a0 0, bc_ a0 1, bc_ a0 2⟩ (fun hHeld => ?_); refine with_tabW impl_stepFault.tab7 impl_stepFault.bits7 (fun HT_ HW_ => ?_); generalize wr.drew = G2 at a0 c0 HB hHeld ⊢; refine pq_ 1 24 31 2 HT_ ?_; refine tq_ 0 23 31 3 HT_ HW_ hHeld ?_; refine on_ 2 25 31 7 HT_ (fun K hK => ?_); refine gO_ Tryz.func61 #[.agg #[.int .i64 e0, .int .i64 g0, .string j0], .int .i64 (rd ((rd_T43 l1 b0).f0) d0)] ?_
            with_reducible refine (impl_isFree.calls e0 g0 j0 (rd ((rd_T43 l1 b0).f0) d0) false _ A13.out).mono ?_
            rintro e J2 ⟨rfl, hb⟩; refine ⟨_, rfl, ?_⟩; replace a0 := kb_ a0 hb; replace c0 := kb_ c0 hb; replace HB := hw_ hb; (try clear hb); refine hK.out _ _ ⟨bc_ a0 0, bc_ a0 1, bc_ a0 2⟩ (fun hHeld => ?_); clear hK K; refine norm_ (a' := ?_) ?_ ?_; rotate_left
            ·show Act.put _ (some 25) _ = _
             simp only [Act.put, pt_]
             rfl
            refine pq_ 3 26 31 15 HT_ ?_; refine pq_ 4 27 31 31 HT_ ?_; refine pr_ 5 28 31 63 HT_ ?_; refine pr_ 6 29 31 127 HT_ ?_; refine pr_ 7 30 31 255 HT_ ?_; refine pr_ 8 31 31 511 HT_ ?_; refine pr_ 9 32 31 1023 HT_ ?_; refine pr_ 10 33 31 2047 HT_ ?_; refine pr_ 11 34 31 4095 HT_ ?_; refine pr_ 12 35 31 8191 HT_ ?_; refine pr_ 13 36 31 16383 HT_ ?_; refine pr_ 14 37 31 32767 HT_ ?_; refine pr_ 15 38 31 65535 HT_ ?_; refine pr_ 16 39 31 131071 HT_ ?_; refine pr_ 17 40 31 262143 HT_ ?_; refine pr_ 18 41 31 524287 HT_ ?_; refine pr_ 19 42 31 1048575 HT_ ?_; refine pr_ 20 43 31 2097151 HT_ ?_; refine pr_ 21 44 31 4194303 HT_ ?_; refine pr_ 22 45 31 8388607 HT_ ?_; refine pr_ 23 46 31 16777215 HT_ ?_; refine pr_ 24 47 31 33554431 HT_ ?_; refine pr_ 25 48 31 67108863 HT_ ?_; refine pr_ 26 49 31 134217727 HT_ ?_; refine pr_ 27 50 31 268435455 HT_ ?_; refine pr_ 28 51 31 536870911 HT_ ?_; refine pr_ 29 52 31 1073741823 HT_ ?_; refine pq_ 30 53 31 2147483647 HT_ ?_; refine done_ (done_of HT_.out (by kernel_rfl)) ?_
            try go_wp2
            go_ret; exact ⟨ew_, bw_⟩
          ·rw [I_ o1] at H; exact absurd H (by simp)
         ·rw [I_ n1] at H; exact absurd H (by simp)
        ·rw [I_ V0] at H; have Q1 := K_ V0; clear V0; have H' := B_ H; clear H; go_wp2; go_roundg k2
         case measure => have := HK1.out; have := HK2.out; omega
         case rel => exact ⟨(wrap64 (b0 + 1)), ev_, H', ⟨by have := HK1.out; have := HK2.out; omega⟩, ⟨uK a0.out⟩, ⟨bw_⟩⟩
     ·rw [I_ c6] at H; exact absurd H (by simp)
    ·rw [I_ c5] at H; exact absurd H (by simp)
   ·rw [I_ c4] at H; have x1 := K_ c4; clear c4; obtain rfl := F_ H; go_wp2; go_ret; exact ⟨ew_, bw_⟩

end Go.Proofs.YtdebpmdbeogglaaGreat.Q
