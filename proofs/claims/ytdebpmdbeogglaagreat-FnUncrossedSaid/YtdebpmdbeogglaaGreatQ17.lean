-- Written by a session's own program (wip/tools/myprint.py) over the kit's printer, out of the translation. Not trusted: Lean checks it.
import Derived.Test.YtdebpmdbeogglaaGreatQ0
import Derived.Test.YtdebpmdbeogglaaGreatQ14
-- squeezed
-- renamed
-- squeezed4
namespace Go.Proofs.YtdebpmdbeogglaaGreat.Q
open Go.RowKit Go.Proofs.YtdebpmdbeogglaaGreatW.PrintWords Go.Proofs.YtdebpmdbeogglaaGreatW.PrintLast Go.Proofs.YtdebpmdbeogglaaGreatW.PrintMore
attribute [local go_sem] max2_int min2_int max_two min_two max_three min_three max_four min_four   -- for this text's walks alone
set_option linter.unusedVariables false
set_option linter.unusedSimpArgs false

/-! ### impl_around: function 62 -/
mutual
def impl_around.j0 : Nat → Int → List Int → Int → Int → ByteArray → Option (List Int)
 | 0, _, _, _, _, _ => none
 | k + 1, x1, x5, g0, l0, m0 => if g0 = 0 then (none) else (if (Int.tmod x1 g0) > 0 then ((impl_isFree.f g0 l0 m0 (wrap64 (x1 - 1))).bind fun J0 => (impl_around.j1 k x1 x5 J0 g0 l0 m0)) else (impl_around.j1 k x1 x5 false g0 l0 m0))
def impl_around.j1 : Nat → Int → List Int → Bool → Int → Int → ByteArray → Option (List Int)
 | 0, _, _, _, _, _, _ => none
 | k + 1, x1, x5, r1, g0, l0, m0 => if r1 = true then (if x5.length < 17592186044416 then (impl_around.j2 k x1 (x5 ++ [wrap64 (x1 - 1)]) g0 l0 m0) else (none)) else (impl_around.j2 k x1 x5 g0 l0 m0)
def impl_around.j2 : Nat → Int → List Int → Int → Int → ByteArray → Option (List Int)
 | 0, _, _, _, _, _ => none
 | k + 1, x1, x5, g0, l0, m0 => if g0 = 0 then (none) else (if (Int.tmod x1 g0) < (wrap64 (g0 - 1)) then ((impl_isFree.f g0 l0 m0 (wrap64 (x1 + 1))).bind fun L0 => (impl_around.j3 k x1 x5 L0 g0 l0 m0)) else (impl_around.j3 k x1 x5 false g0 l0 m0))
def impl_around.j3 : Nat → Int → List Int → Bool → Int → Int → ByteArray → Option (List Int)
 | 0, _, _, _, _, _, _ => none
 | k + 1, x1, x5, s1, g0, l0, m0 => if s1 = true then (if x5.length < 17592186044416 then ((some (x5 ++ [wrap64 (x1 + 1)] : List Int)).bind fun p0 => ((impl_isFree.f g0 l0 m0 (wrap64 (x1 + g0))).bind fun C0 => (if C0 = true then (if p0.length < 17592186044416 then (some (p0 ++ [wrap64 (x1 + g0)])) else (none)) else (some p0)))) else (none)) else ((impl_isFree.f g0 l0 m0 (wrap64 (x1 + g0))).bind fun b1 => (if b1 = true then (if x5.length < 17592186044416 then (some (x5 ++ [wrap64 (x1 + g0)])) else (none)) else (some x5)))
end
def impl_around.f (k : Nat) (a0 : Int) (c0 : Int) (d0 : ByteArray) (a1 : Int) : Option (List Int) := (impl_isFree.f a0 c0 d0 a1).bind fun D0 => (if D0 = true then ((impl_isFree.f a0 c0 d0 (wrap64 (a1 - a0))).bind fun y0 => (if y0 = true then (if ([] : List Int).length < 17592186044416 then (impl_around.j0 k a1 (([] : List Int) ++ [wrap64 (a1 - a0)]) a0 c0 d0) else (none)) else (impl_around.j0 k a1 ([] : List Int) a0 c0 d0))) else (some ([] : List Int)))
def impl_around.T9 : Bool × List (List Nat × List Nat) := (true, [([], []), ([], []), ([1], [1]), ([0, 2], [0, 2]), ([], []), ([4], [4]), ([5], [5]), ([3, 6], [3, 6]), ([7], [7]), ([8], [8]), ([8], [8]), ([10, 8], [8, 10]), ([9, 11, 8, 8], [8, 9, 11]), ([8, 12], [8, 12])])
def impl_around.B9 : List Nat := [0, 0, 2, 7, 0, 16, 48, 127, 255, 511, 511, 1535, 4095, 8191]
theorem impl_around.tab9 : rtab .any (opsOf Tryz.f62 9) = impl_around.T9 := by kernel_rfl
theorem impl_around.bits9 : waitsOk impl_around.T9.2 impl_around.B9 = true := by kernel_rfl
set_option maxHeartbeats 8000000 in
set_option maxRecDepth 100000 in
theorem impl_around.calls (k : Nat) (a0 : Int) (c0 : Int) (d0 : ByteArray) (a1 : Int) (r : List Int) (w : World) (h : impl_around.f k a0 c0 d0 a1 = some r) :
  Calls Tryz.prog 62 #[.agg #[.int .i64 a0, .int .i64 c0, .string d0], .int .i64 a1] w fun e w' => ∃ v0_ : Value, e = .returned (v0_) ∧ Kd.R (Kd.int .i64) 3 w' w.heap.size (fun _ => True) v0_ r ∧ Below w.heap.size w w' := by
 have hu25 := Tryz.underlying25; have HB := B_ (A__ w.heap.size w); have H : ((impl_isFree.f a0 c0 d0 a1).bind fun D0 => (if D0 = true then ((impl_isFree.f a0 c0 d0 (wrap64 (a1 - a0))).bind fun y0 => (if y0 = true then (if ([] : List Int).length < 17592186044416 then (impl_around.j0 k a1 (([] : List Int) ++ [wrap64 (a1 - a0)]) a0 c0 d0) else (none)) else (impl_around.j0 k a1 ([] : List Int) a0 c0 d0))) else (some ([] : List Int)))) = some r := h; clear h; obtain ⟨D0, A3, H⟩ := ob_ H; by_cases c4 : D0 = true
 ·subst c4; rw [G_ rfl] at H; obtain ⟨y0, A5, H⟩ := ob_ H; have HC6 := B_ H; clear H; go_enter Tryz.func62, Tryz.ntmps62; go_upto_if 18 with (first | ((with_reducible refine Y_ (N := 2) rfl ?_); refine be_ (N := 2) (cs := #[.int .i64 a0, .int .i64 c0, .string d0]) (t := 25) ?_; intro n0 hg w7 hbox hb; have b0 := B_ (hbox); have t1 := B_ ((by rw [hg]; exact (H_ (uB HB.out)) : w.heap.size ≤ n0)); have u1 := ge_ hg HB; replace HB := hB_ HB hb; clear hb hbox hg; have M0 := bx3 b0.out) | ((with_reducible refine J_ (f := 61) rfl ?_); refine gL_ (some 10) Tryz.func61 #[.agg #[.int .i64 a0, .int .i64 c0, .string d0], .int .i64 a1] ?_; (with_reducible refine (impl_isFree.calls a0 c0 d0 a1 true _ A3.out).mono ?_); rintro e w9 ⟨rfl, hb⟩; refine ⟨_, rfl, ?_⟩; replace b0 := kb_ b0 hb; replace HB := hB_ HB hb; (try clear hb); have N0 := bx3 b0.out) | ((with_reducible refine J_ (f := 61) rfl ?_); refine gL_ (some 18) Tryz.func61 #[.agg #[.int .i64 a0, .int .i64 c0, .string d0], .int .i64 (wrap64 (a1 - a0))] ?_; (with_reducible refine (impl_isFree.calls a0 c0 d0 (wrap64 (a1 - a0)) y0 _ A5.out).mono ?_); rintro e R1 ⟨rfl, hb⟩; refine ⟨_, rfl, ?_⟩; replace b0 := kb_ b0 hb; replace HB := hB_ HB hb; (try clear hb)))
  (try simp only [Act.put, List.setIfInBounds_toArray, List.set_cons_zero, List.set_cons_succ]); go_cut [5] (fun v5 wc => ∃ (kq : Nat) (q0 : List Int), Aside0 (impl_around.j0 kq a1 q0 a0 c0 d0 = some r) ∧ Aside0 (kq ≤ k) ∧ Aside0 (Kd.R (Kd.int .i64) 3 wc w.heap.size (fun _ => True) v5 q0) ∧ Aside0 (wc.heap[n0]? = some (.cells #[.int .i64 a0, .int .i64 c0, .string d0] 25 (0, 0))) ∧ Aside0 (Below w.heap.size w wc))
  case first =>
   have H := HC6.out; clear HC6; by_cases t0 : y0 = true
   ·subst t0; rw [G_ rfl] at H; by_cases u0 : ([] : List Int).length < 17592186044416
    ·rw [G_ u0] at H; have v1 := B_ u0; clear u0; obtain ⟨m1, hy_⟩ : ∃ y_ : List Int, y_ = (([] : List Int) ++ [wrap64 (a1 - a0)]) := ⟨_, rfl⟩; replace H : (impl_around.j0 k a1 m1 a0 c0 d0) = some r := hz_
     have y1 := B_ hy_; clear hy_; have H' := B_ H; clear H; go_wp2_with (first | ((with_reducible refine gate_builtin (b := .append) (xs := #[.tmp 19, .tmp 21]) rfl ?_); at_builtin; refine Kd.R_append (Kd.int .i64) (w0 := w) w.heap.size rfl (.tmp 19) (.tmp 21) 26 3 (.int .i64 0) 8 rfl Tryz.underlying26 info3 rfl (by decide) (by omega) (.slice none 0 0) ([] : List Int) (wrap64 (a1 - a0)) [.int .i64 (wrap64 (a1 - a0))] (fun _ => True) (fun _ => False) rfl rfl ?aP (fun _ hk => hk.elim) ?aF ?aO ?aB ?aS ?aL ?_; (case aP => exact rfl); (case aB => exact (uB HB.out)); (case aF => exact (fun _ _ => trivial)); (case aO => exact ((Kd.R_nil _ _ _ _ (fun _ => True)))); (case aS => exact (H_ (uB HB.out))); (case aL => have := v1.out; omega); intro v617 U1 ho hb hg hat; rw [← y1.out] at ho; replace b0 := B_ (blk_grown (uK b0.out) hg (by simp [Value.ownBlock])); replace HB := B_ (hb); have z1 := B_ (ho); clear ho hb hg hat))
     go_meet
     case rel => exact ⟨_, (m1), H', ⟨by first | omega | exact N_ _⟩, ⟨uR z1.out⟩, ⟨uK b0.out⟩, ⟨uB HB.out⟩⟩
    ·rw [I_ u0] at H; exact absurd H (by simp)
   ·replace t0 := L_ t0; subst t0; rw [I_ (show ¬ (false = true) by decide)] at H; have H' := B_ H; clear H; go_wp2; go_meet
    case rel => exact ⟨_, (([] : List Int)), H', ⟨by first | omega | exact N_ _⟩, ⟨by first | exact Kd.R_nil _ _ _ _ _ | exact Kd.N_nil _ _ _ _ _ | exact Kd.V_nil _ _ _ _ _ | exact Kd.Q_nil _ _ _ _ _ | exact Kd.S_nil _ _ _ _ _⟩, ⟨uK b0.out⟩, ⟨uB HB.out⟩⟩
  case rest =>
   clear HC6; (try clear c1); (try clear p2); (try clear c4); (try clear c6); (try clear p6); (try clear t0); (try clear u0); (try clear N0); (try clear M0); obtain ⟨kq, q0, HA, HJ5, e0, b0, HB⟩ := hcut
   cases kq with
   | zero => exact absurd HA.out (by simp [impl_around.j0])
   | succ kj5 =>
    have H := HA.out; clear HA; simp only [impl_around.j0] at H; have HC15 := B_ H; clear H; go_upto_region 7 with (fail)
    go_cut [33] (fun v33 wc => ∃ (kq : Nat) (O0 : Bool), v33 = .bool O0 ∧ Aside0 (impl_around.j1 kq a1 q0 O0 a0 c0 d0 = some r) ∧ Aside0 (kq ≤ kj5) ∧ Aside0 (Kd.R (Kd.int .i64) 3 wc w.heap.size (fun _ => True) u5 q0) ∧ Aside0 (wc.heap[n0]? = some (.cells #[.int .i64 a0, .int .i64 c0, .string d0] 25 (0, 0))) ∧ Aside0 (Below w.heap.size w wc))
    case first =>
     have H := HC15.out; clear HC15; by_cases v0 : a0 = 0
     ·rw [G_ v0] at H; exact absurd H (by simp)
     ·rw [I_ v0] at H; have E0 := P_ v0; have d1 := B__ v0; (first | rw [E0] | (simp only [i64_w, i32_w]; rw [E0]) | skip); by_cases r0 : (Int.tmod a1 a0) > 0
      ·rw [G_ r0] at H; have P0 := C_ r0; clear r0; obtain ⟨J0, A18, H⟩ := ob_ H; have H' := B_ H; clear H; have e1 := bx3 b0.out; go_wp2_with (first | (go_at_call 61; (with_reducible refine (impl_isFree.calls a0 c0 d0 (wrap64 (a1 - 1)) J0 _ A18.out).mono ?_); rintro e V1 ⟨rfl, hb⟩; replace e0 := rb_ e0 hb; replace b0 := kb_ b0 hb; replace HB := hB_ HB hb; (try clear hb)))
       go_meet
       case rel => exact ⟨_, (J0), ev_, H', ⟨by have := HJ5.out; first | omega | exact N_ _⟩, ⟨uR e0.out⟩, ⟨uK b0.out⟩, ⟨uB HB.out⟩⟩
      ·rw [I_ r0] at H; have P0 := K_ r0; clear r0; have H' := B_ H; clear H; have g1 := bx3 b0.out; go_wp2; go_meet
       case rel => exact ⟨_, (false), ev_, H', ⟨by have := HJ5.out; first | omega | exact N_ _⟩, ⟨uR e0.out⟩, ⟨uK b0.out⟩, ⟨uB HB.out⟩⟩
    case rest =>
     clear HC15; (try clear c1); (try clear p2); (try clear c4); (try clear c6); (try clear p6); (try clear t0); (try clear u0); (try clear v0); (try clear E0); (try clear d1); (try clear r0); (try clear P0); (try clear N0); (try clear e1); (try clear g1); (try clear M0); obtain ⟨kq, O0, rfl, HA, HJ14, e0, b0, HB⟩ := hcut
     cases kq with
     | zero => exact absurd HA.out (by simp [impl_around.j1])
     | succ kj14 =>
      have H := HA.out; clear HA; simp only [impl_around.j1] at H; have HC22 := B_ H; clear H; go_upto_if 33 with (fail)
      go_cut [5] (fun v5 wc => ∃ (kq : Nat) (o0 : List Int), Aside0 (impl_around.j2 kq a1 o0 a0 c0 d0 = some r) ∧ Aside0 (kq ≤ kj14) ∧ Aside0 (Kd.R (Kd.int .i64) 3 wc w.heap.size (fun _ => True) v5 o0) ∧ Aside0 (wc.heap[n0]? = some (.cells #[.int .i64 a0, .int .i64 c0, .string d0] 25 (0, 0))) ∧ Aside0 (Below w.heap.size w wc))
      case first =>
       have H := HC22.out; clear HC22; by_cases z0 : O0 = true
       ·subst z0; rw [G_ rfl] at H; by_cases A0 : q0.length < 17592186044416
        ·rw [G_ A0] at H; have A1 := B_ A0; clear A0; obtain ⟨n1, hy_⟩ : ∃ y_ : List Int, y_ = (q0 ++ [wrap64 (a1 - 1)]) := ⟨_, rfl⟩; replace H : (impl_around.j2 kj14 a1 n1 a0 c0 d0) = some r := hz_
         have C1 := B_ hy_; clear hy_; have H' := B_ H; clear H; go_wp2_with (first | ((with_reducible refine gate_builtin (b := .append) (xs := #[.tmp 34, .tmp 37]) rfl ?_); at_builtin; refine Kd.R_append (Kd.int .i64) (w0 := w) w.heap.size rfl (.tmp 34) (.tmp 37) 26 3 (.int .i64 0) 8 rfl Tryz.underlying26 info3 rfl (by decide) (by omega) u5 q0 (wrap64 (a1 - 1)) [.int .i64 (wrap64 (a1 - 1))] (fun _ => True) (fun _ => False) rfl rfl ?aP (fun _ hk => hk.elim) ?aF ?aO ?aB ?aS ?aL ?_; (case aP => exact rfl); (case aB => exact (uB HB.out)); (case aF => exact (fun _ _ => trivial)); (case aO => exact (uR e0.out)); (case aS => exact (H_ (uB HB.out))); (case aL => have := A1.out; omega); intro v621 X1 ho hb hg hat; rw [← C1.out] at ho; replace b0 := B_ (blk_grown (uK b0.out) hg (Kd.R_ne e0.out b0.out (by decide))); replace HB := B_ (hb); have D1 := B_ (ho); clear e0; clear ho hb hg hat))
         go_meet
         case rel => exact ⟨_, (n1), H', ⟨by have := HJ5.out; have := HJ14.out; first | omega | exact N_ _⟩, ⟨uR D1.out⟩, ⟨uK b0.out⟩, ⟨uB HB.out⟩⟩
        ·rw [I_ A0] at H; exact absurd H (by simp)
       ·replace z0 := L_ z0; subst z0; rw [I_ (show ¬ (false = true) by decide)] at H; have H' := B_ H; clear H; go_wp2; go_meet
        case rel => exact ⟨_, (q0), H', ⟨by have := HJ5.out; have := HJ14.out; first | omega | exact N_ _⟩, ⟨uR e0.out⟩, ⟨uK b0.out⟩, ⟨uB HB.out⟩⟩
      case rest =>
       clear HC22; (try clear c1); (try clear c2); (try clear p2); (try clear c4); (try clear c6); (try clear p6); (try clear t0); (try clear u0); (try clear v0); (try clear E0); (try clear d1); (try clear r0); (try clear P0); (try clear z0); (try clear A0); (try clear N0); (try clear e1); (try clear g1); (try clear M0); obtain ⟨kq, o0, HA, HJ21, e0, b0, HB⟩ := hcut
       cases kq with
       | zero => exact absurd HA.out (by simp [impl_around.j2])
       | succ kj21 =>
        have H := HA.out; clear HA; simp only [impl_around.j2] at H; have HC26 := B_ H; clear H; go_upto_region 9 with (fail)
        go_cut [52] (fun v52 wc => ∃ (kq : Nat) (Q0 : Bool), v52 = .bool Q0 ∧ Aside0 (impl_around.j3 kq a1 o0 Q0 a0 c0 d0 = some r) ∧ Aside0 (kq ≤ kj21) ∧ Aside0 (Kd.R (Kd.int .i64) 3 wc w.heap.size (fun _ => True) u5 o0) ∧ Aside0 (wc.heap[n0]? = some (.cells #[.int .i64 a0, .int .i64 c0, .string d0] 25 (0, 0))) ∧ Aside0 (Below w.heap.size w wc))
        case first =>
         have H := HC26.out; clear HC26; by_cases G0 : a0 = 0
         ·rw [G_ G0] at H; exact absurd H (by simp)
         ·rw [I_ G0] at H; have l1 := P_ G0; have E1 := B__ G0; (first | rw [l1] | (simp only [i64_w, i32_w]; rw [l1]) | skip); by_cases x0 : (Int.tmod a1 a0) < (wrap64 (a0 - 1))
          ·rw [G_ x0] at H; have o1 := C_ x0; clear x0; obtain ⟨L0, A29, H⟩ := ob_ H; have H' := B_ H; clear H
           try go_wp2
           replace e0 := B_ (Kd.R_drew e0.out); replace b0 := B_ (X_ b0.out); replace HB := B_ (below_drew1 HB.out); refine start_ (n := 14) (S := fun w' => w'.cell? ⟨n0, 0, none⟩ = some (.int .i64 a0) ∧ w'.cell? ⟨n0, 1, none⟩ = some (.int .i64 c0) ∧ w'.cell? ⟨n0, 2, none⟩ = some (.string d0)) (ds := []) (bs_ 14 0) (by kernel_rfl) rfl rfl ⟨bc_ b0 0, bc_ b0 1, bc_ b0 2⟩ (fun hHeld => ?_); refine with_tabW impl_around.tab9 impl_around.bits9 (fun HT_ HW_ => ?_); generalize wc.drew = Y1 at e0 b0 HB hHeld ⊢; refine pq_ 0 39 14 1 HT_ ?_; refine pq_ 1 40 14 3 HT_ ?_; refine pq_ 4 43 14 19 HT_ ?_; refine tq_ 2 41 14 23 HT_ HW_ hHeld ?_; refine pq_ 3 42 14 31 HT_ ?_; refine tq_ 5 44 14 63 HT_ HW_ hHeld ?_; refine pq_ 6 45 14 127 HT_ ?_; refine pq_ 7 46 14 255 HT_ ?_; refine pq_ 8 47 14 511 HT_ ?_; refine pq_ 10 49 14 1535 HT_ ?_; refine pq_ 11 50 14 3583 HT_ ?_; refine tq_ 9 48 14 4095 HT_ HW_ hHeld ?_; refine on_ 12 51 14 8191 HT_ (fun K hK => ?_); refine gO_ Tryz.func61 #[.agg #[.int .i64 a0, .int .i64 c0, .string d0], .int .i64 (wrap64 (a1 + 1))] ?_
           with_reducible refine (impl_isFree.calls a0 c0 d0 (wrap64 (a1 + 1)) L0 _ A29.out).mono ?_
           rintro e Z1 ⟨rfl, hb⟩; refine ⟨_, rfl, ?_⟩; replace e0 := rb_ e0 hb; replace b0 := kb_ b0 hb; replace HB := hB_ HB hb; (try clear hb); refine hK.out _ _ ⟨bc_ b0 0, bc_ b0 1, bc_ b0 2⟩ (fun hHeld => ?_); clear hK K; refine norm_ (a' := ?_) ?_ ?_; rotate_left
           ·show Act.put _ (some 51) _ = _
            simp only [Act.put, pt_]
            rfl
           refine pq_ 13 52 14 16383 HT_ ?_; refine done_ (done_of HT_.out (by kernel_rfl)) ?_
           try go_wp2
           go_meet
           case rel => exact ⟨_, (L0), ev_, H', ⟨by have := HJ5.out; have := HJ14.out; have := HJ21.out; first | omega | exact N_ _⟩, ⟨uR e0.out⟩, ⟨uK b0.out⟩, ⟨uB HB.out⟩⟩
          ·rw [I_ x0] at H; have o1 := K_ x0; clear x0; have H' := B_ H; clear H
           try go_wp2
           replace e0 := B_ (Kd.R_drew e0.out); replace b0 := B_ (X_ b0.out); replace HB := B_ (below_drew1 HB.out); refine start_ (n := 14) (S := fun w' => w'.cell? ⟨n0, 0, none⟩ = some (.int .i64 a0) ∧ w'.cell? ⟨n0, 1, none⟩ = some (.int .i64 c0) ∧ w'.cell? ⟨n0, 2, none⟩ = some (.string d0)) (ds := []) (bs_ 14 0) (by kernel_rfl) rfl rfl ⟨bc_ b0 0, bc_ b0 1, bc_ b0 2⟩ (fun hHeld => ?_); refine with_tabW impl_around.tab9 impl_around.bits9 (fun HT_ HW_ => ?_); generalize wc.drew = a2 at e0 b0 HB hHeld ⊢; refine pq_ 0 39 14 1 HT_ ?_; refine pq_ 1 40 14 3 HT_ ?_; refine pq_ 4 43 14 19 HT_ ?_; refine tq_ 2 41 14 23 HT_ HW_ hHeld ?_; refine pq_ 3 42 14 31 HT_ ?_; refine tq_ 5 44 14 63 HT_ HW_ hHeld ?_; refine pq_ 6 45 14 127 HT_ ?_; refine pq_ 7 46 14 255 HT_ ?_; refine pq_ 8 47 14 511 HT_ ?_; refine pr_ 9 48 14 1023 HT_ ?_; refine pr_ 10 49 14 2047 HT_ ?_; refine pr_ 11 50 14 4095 HT_ ?_; refine pr_ 12 51 14 8191 HT_ ?_; refine pq_ 13 52 14 16383 HT_ ?_; refine done_ (done_of HT_.out (by kernel_rfl)) ?_
           try go_wp2
           go_meet
           case rel => exact ⟨_, (false), ev_, H', ⟨by have := HJ5.out; have := HJ14.out; have := HJ21.out; first | omega | exact N_ _⟩, ⟨uR e0.out⟩, ⟨uK b0.out⟩, ⟨uB HB.out⟩⟩
        case rest =>
         clear HC26; (try clear c1); (try clear c2); (try clear p2); (try clear c4); (try clear c6); (try clear p6); (try clear t0); (try clear u0); (try clear v0); (try clear E0); (try clear d1); (try clear r0); (try clear P0); (try clear z0); (try clear A0); (try clear G0); (try clear l1); (try clear E1); (try clear x0); (try clear o1); (try clear N0); (try clear e1); (try clear g1); (try clear M0); obtain ⟨kq, Q0, rfl, HA, HJ25, e0, b0, HB⟩ := hcut
         cases kq with
         | zero => exact absurd HA.out (by simp [impl_around.j3])
         | succ kj25 =>
          have H := HA.out; clear HA; simp only [impl_around.j3] at H; by_cases R0 : Q0 = true
          ·subst R0; rw [G_ rfl] at H; by_cases U0 : o0.length < 17592186044416
           ·rw [G_ U0] at H; have p1 := B_ U0; clear U0; obtain ⟨p0, hy_⟩ : ∃ y_ : List Int, y_ = (o0 ++ [wrap64 (a1 + 1)]) := ⟨_, rfl⟩; replace H : ((impl_isFree.f a0 c0 d0 (wrap64 (a1 + a0))).bind fun C0 => (if C0 = true then (if p0.length < 17592186044416 then (some (p0 ++ [wrap64 (a1 + a0)])) else (none)) else (some p0))) = some r := hz_
            have q1 := B_ hy_; clear hy_; obtain ⟨C0, A35, H⟩ := ob_ H; by_cases V0 : C0 = true
            ·subst V0; rw [G_ rfl] at H; by_cases X0 : p0.length < 17592186044416
             ·rw [G_ X0] at H; have G1 := B_ X0; clear X0; obtain ⟨J1, hy_⟩ : ∃ y_ : List Int, y_ = (p0 ++ [wrap64 (a1 + a0)]) := ⟨_, rfl⟩; replace H : (some J1) = some r := hz_
              have L1 := B_ hy_; clear hy_; obtain rfl := F_ H; go_wp2_with (first | ((with_reducible refine gate_builtin (b := .append) (xs := #[.tmp 53, .tmp 56]) rfl ?_); at_builtin; refine Kd.R_append (Kd.int .i64) (w0 := w) w.heap.size rfl (.tmp 53) (.tmp 56) 26 3 (.int .i64 0) 8 rfl Tryz.underlying26 info3 rfl (by decide) (by omega) u5 o0 (wrap64 (a1 + 1)) [.int .i64 (wrap64 (a1 + 1))] (fun _ => True) (fun _ => False) rfl rfl ?aP (fun _ hk => hk.elim) ?aF ?aO ?aB ?aS ?aL ?_; (case aP => exact rfl); (case aB => exact (uB HB.out)); (case aF => exact (fun _ _ => trivial)); (case aO => exact (uR e0.out)); (case aS => exact (H_ (uB HB.out))); (case aL => have := p1.out; omega); intro v625 b2 ho hb hg hat; rw [← q1.out] at ho; replace b0 := B_ (blk_grown (uK b0.out) hg (Kd.R_ne e0.out b0.out (by decide))); replace HB := B_ (hb); have s0 := B_ (ho); clear e0; clear ho hb hg hat; have d2 := bx3 b0.out) | ((with_reducible refine J_ (f := 61) rfl ?_); refine gL_ (some 64) Tryz.func61 #[.agg #[.int .i64 a0, .int .i64 c0, .string d0], .int .i64 (wrap64 (a1 + a0))] ?_; (with_reducible refine (impl_isFree.calls a0 c0 d0 (wrap64 (a1 + a0)) true _ A35.out).mono ?_); rintro e e2 ⟨rfl, hb⟩; refine ⟨_, rfl, ?_⟩; replace s0 := rb_ s0 hb; replace b0 := kb_ b0 hb; replace HB := hB_ HB hb; (try clear hb)) | ((with_reducible refine gate_builtin (b := .append) (xs := #[.tmp 65, .tmp 67]) rfl ?_); at_builtin; refine Kd.R_append (Kd.int .i64) (w0 := w) w.heap.size rfl (.tmp 65) (.tmp 67) 26 3 (.int .i64 0) 8 rfl Tryz.underlying26 info3 rfl (by decide) (by omega) v625 p0 (wrap64 (a1 + a0)) [.int .i64 (wrap64 (a1 + a0))] (fun _ => True) (fun _ => False) rfl rfl ?aP (fun _ hk => hk.elim) ?aF ?aO ?aB ?aS ?aL ?_; (case aP => exact rfl); (case aB => exact (uB HB.out)); (case aF => exact (fun _ _ => trivial)); (case aO => exact (uR s0.out)); (case aS => exact (H_ (uB HB.out))); (case aL => have := G1.out; omega); intro v629 g2 ho hb hg hat; rw [← L1.out] at ho; replace b0 := B_ (blk_grown (uK b0.out) hg (Kd.R_ne s0.out b0.out (by decide))); replace HB := B_ (hb); have M1 := B_ (ho); clear s0; clear ho hb hg hat))
              go_ret; exact ⟨_, ew_, by (with_reducible repeat (first | apply Kd.R_alloc | apply Kd.R_drewN | apply Kd.R_drew)); exact M1.out, uB HB.out⟩
             ·rw [I_ X0] at H; exact absurd H (by simp)
            ·replace V0 := L_ V0; subst V0; rw [I_ (show ¬ (false = true) by decide)] at H; obtain rfl := F_ H; go_wp2_with (first | ((with_reducible refine gate_builtin (b := .append) (xs := #[.tmp 53, .tmp 56]) rfl ?_); at_builtin; refine Kd.R_append (Kd.int .i64) (w0 := w) w.heap.size rfl (.tmp 53) (.tmp 56) 26 3 (.int .i64 0) 8 rfl Tryz.underlying26 info3 rfl (by decide) (by omega) u5 o0 (wrap64 (a1 + 1)) [.int .i64 (wrap64 (a1 + 1))] (fun _ => True) (fun _ => False) rfl rfl ?aP (fun _ hk => hk.elim) ?aF ?aO ?aB ?aS ?aL ?_; (case aP => exact rfl); (case aB => exact (uB HB.out)); (case aF => exact (fun _ _ => trivial)); (case aO => exact (uR e0.out)); (case aS => exact (H_ (uB HB.out))); (case aL => have := p1.out; omega); intro v625 l2 ho hb hg hat; rw [← q1.out] at ho; replace b0 := B_ (blk_grown (uK b0.out) hg (Kd.R_ne e0.out b0.out (by decide))); replace HB := B_ (hb); have s0 := B_ (ho); clear e0; clear ho hb hg hat; have m2 := bx3 b0.out) | ((with_reducible refine J_ (f := 61) rfl ?_); refine gL_ (some 64) Tryz.func61 #[.agg #[.int .i64 a0, .int .i64 c0, .string d0], .int .i64 (wrap64 (a1 + a0))] ?_; (with_reducible refine (impl_isFree.calls a0 c0 d0 (wrap64 (a1 + a0)) false _ A35.out).mono ?_); rintro e n2 ⟨rfl, hb⟩; refine ⟨_, rfl, ?_⟩; replace s0 := rb_ s0 hb; replace b0 := kb_ b0 hb; replace HB := hB_ HB hb; (try clear hb)))
             go_ret; exact ⟨_, ew_, by (with_reducible repeat (first | apply Kd.R_alloc | apply Kd.R_drewN | apply Kd.R_drew)); exact s0.out, uB HB.out⟩
           ·rw [I_ U0] at H; exact absurd H (by simp)
          ·replace R0 := L_ R0; subst R0; rw [I_ (show ¬ (false = true) by decide)] at H; obtain ⟨b1, A45, H⟩ := ob_ H; by_cases Y0 : b1 = true
           ·subst Y0; rw [G_ rfl] at H; by_cases Z0 : o0.length < 17592186044416
            ·rw [G_ Z0] at H; have N1 := B_ Z0; clear Z0; obtain ⟨O1, hy_⟩ : ∃ y_ : List Int, y_ = (o0 ++ [wrap64 (a1 + a0)]) := ⟨_, rfl⟩; replace H : (some O1) = some r := hz_
             have P1 := B_ hy_; clear hy_; obtain rfl := F_ H; have o2 := bx3 b0.out; go_wp2_with (first | ((with_reducible refine J_ (f := 61) rfl ?_); refine gL_ (some 64) Tryz.func61 #[.agg #[.int .i64 a0, .int .i64 c0, .string d0], .int .i64 (wrap64 (a1 + a0))] ?_; (with_reducible refine (impl_isFree.calls a0 c0 d0 (wrap64 (a1 + a0)) true _ A45.out).mono ?_); rintro e q2 ⟨rfl, hb⟩; refine ⟨_, rfl, ?_⟩; replace e0 := rb_ e0 hb; replace b0 := kb_ b0 hb; replace HB := hB_ HB hb; (try clear hb)) | ((with_reducible refine gate_builtin (b := .append) (xs := #[.tmp 65, .tmp 67]) rfl ?_); at_builtin; refine Kd.R_append (Kd.int .i64) (w0 := w) w.heap.size rfl (.tmp 65) (.tmp 67) 26 3 (.int .i64 0) 8 rfl Tryz.underlying26 info3 rfl (by decide) (by omega) u5 o0 (wrap64 (a1 + a0)) [.int .i64 (wrap64 (a1 + a0))] (fun _ => True) (fun _ => False) rfl rfl ?aP (fun _ hk => hk.elim) ?aF ?aO ?aB ?aS ?aL ?_; (case aP => exact rfl); (case aB => exact (uB HB.out)); (case aF => exact (fun _ _ => trivial)); (case aO => exact (uR e0.out)); (case aS => exact (H_ (uB HB.out))); (case aL => have := N1.out; omega); intro v633 r2 ho hb hg hat; rw [← P1.out] at ho; replace b0 := B_ (blk_grown (uK b0.out) hg (Kd.R_ne e0.out b0.out (by decide))); replace HB := B_ (hb); have Q1 := B_ (ho); clear e0; clear ho hb hg hat))
             go_ret; exact ⟨_, ew_, by (with_reducible repeat (first | apply Kd.R_alloc | apply Kd.R_drewN | apply Kd.R_drew)); exact Q1.out, uB HB.out⟩
            ·rw [I_ Z0] at H; exact absurd H (by simp)
           ·replace Y0 := L_ Y0; subst Y0; rw [I_ (show ¬ (false = true) by decide)] at H; obtain rfl := F_ H; have s2 := bx3 b0.out; go_wp2_with (first | ((with_reducible refine J_ (f := 61) rfl ?_); refine gL_ (some 64) Tryz.func61 #[.agg #[.int .i64 a0, .int .i64 c0, .string d0], .int .i64 (wrap64 (a1 + a0))] ?_; (with_reducible refine (impl_isFree.calls a0 c0 d0 (wrap64 (a1 + a0)) false _ A45.out).mono ?_); rintro e t2 ⟨rfl, hb⟩; refine ⟨_, rfl, ?_⟩; replace e0 := rb_ e0 hb; replace b0 := kb_ b0 hb; replace HB := hB_ HB hb; (try clear hb)))
            go_ret; exact ⟨_, ew_, by (with_reducible repeat (first | apply Kd.R_alloc | apply Kd.R_drewN | apply Kd.R_drew)); exact e0.out, uB HB.out⟩
 ·replace c4 := L_ c4; subst c4; rw [I_ (show ¬ (false = true) by decide)] at H; obtain rfl := F_ H; go_enter Tryz.func62, Tryz.ntmps62; go_wp2_with (first | ((with_reducible refine Y_ (N := 2) rfl ?_); refine be_ (N := 2) (cs := #[.int .i64 a0, .int .i64 c0, .string d0]) (t := 25) ?_; intro n0 hg u2 hbox hb; have b0 := B_ (hbox); have t1 := B_ ((by rw [hg]; exact (H_ (uB HB.out)) : w.heap.size ≤ n0)); have u1 := ge_ hg HB; replace HB := hB_ HB hb; clear hb hbox hg; have v2 := bx3 b0.out) | ((with_reducible refine J_ (f := 61) rfl ?_); refine gL_ (some 10) Tryz.func61 #[.agg #[.int .i64 a0, .int .i64 c0, .string d0], .int .i64 a1] ?_; (with_reducible refine (impl_isFree.calls a0 c0 d0 a1 false _ A3.out).mono ?_); rintro e x2 ⟨rfl, hb⟩; refine ⟨_, rfl, ?_⟩; replace b0 := kb_ b0 hb; replace HB := hB_ HB hb; (try clear hb)))
  go_ret; exact ⟨_, ew_, by first | exact Kd.R_nil _ _ _ _ _ | exact Kd.N_nil _ _ _ _ _ | exact Kd.V_nil _ _ _ _ _ | exact Kd.Q_nil _ _ _ _ _ | exact Kd.S_nil _ _ _ _ _, uB HB.out⟩

end Go.Proofs.YtdebpmdbeogglaaGreat.Q
