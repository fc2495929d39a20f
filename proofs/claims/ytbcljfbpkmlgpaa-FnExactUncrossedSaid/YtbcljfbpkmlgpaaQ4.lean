-- Written by a session's own program (wip/tools/myprint.py) over the kit's printer, out of the translation. Not trusted: Lean checks it.
import Derived.Test.YtbcljfbpkmlgpaaQ0
import Derived.Test.YtbcljfbpkmlgpaaQ2
import Derived.Test.YtbcljfbpkmlgpaaQ3
namespace Go.Proofs.Ytbcljfbpkmlgpaa.Q
open Go.RowKit Go.Proofs.YtbcljfbpkmlgpaaW.PrintWords Go.Proofs.YtbcljfbpkmlgpaaW.PrintLast Go.Proofs.YtbcljfbpkmlgpaaW.PrintMore
attribute [local go_sem] max2_int min2_int max_two min_two max_three min_three max_four min_four   -- for this text's walks alone
set_option linter.unusedVariables false
set_option linter.unusedSimpArgs false

/-! ### spec_Uncrossed: function 28 -/
mutual
def spec_Uncrossed.l0 : Nat → List (S42) → List (S42) → Int → Option ((List (S42)) × Bool)
 | 0, _, _, _ => none
 | k + 1, x0, x4, x5 => if 0 < (x0.length : Int) then (if (wrap64 (x5 + 1)) < (((rd_T42 x0 0).f0).length : Int) then ((spec_l11Copy.f k x4).bind fun t167 => (spec_Uncrossed.l1 k x0 x4 x5 t167 0)) else (some (x4, true))) else (none)
def spec_Uncrossed.l1 : Nat → List (S42) → List (S42) → Int → List (S42) → Int → Option ((List (S42)) × Bool)
 | 0, _, _, _, _, _ => none
 | k + 1, x0, x4, x5, x6, x7 => if x7 < (x4.length : Int) then ((spec_l12Ring.f k x4 x5 x7).bind fun t170 => (if t170 < 2 then (spec_Uncrossed.l1 k x0 x4 x5 x6 (wrap64 (x7 + 1))) else (spec_Uncrossed.l2 k x0 x4 x5 x6 x7 0))) else (spec_Uncrossed.l0 k x0 x6 (wrap64 (x5 + 1)))
def spec_Uncrossed.l2 : Nat → List (S42) → List (S42) → Int → List (S42) → Int → Int → Option ((List (S42)) × Bool)
 | 0, _, _, _, _, _, _ => none
 | k + 1, x0, x4, x5, x6, x7, x8 => if x8 < (x4.length : Int) then (if 0 ≤ x8 then (if 0 ≤ (wrap64 (x5 + 1)) then (if (wrap64 (x5 + 1)) < (((rd_T42 x4 x8).f0).length : Int) then (if 0 ≤ x7 then (if x7 < (x4.length : Int) then (if 0 ≤ x5 then (if x5 < (((rd_T42 x4 x7).f0).length : Int) then (if (rd ((rd_T42 x4 x8).f0) (wrap64 (x5 + 1))) = (rd ((rd_T42 x4 x7).f0) x5) then ((some (([] : List Int) : List Int)).bind fun y175 => (if (wrap64 (x5 + 1)) ≤ (((rd_T42 x4 x7).f0).length : Int) then ((some (((rd_T42 x4 x7).f0).take ((wrap64 (x5 + 1)) : Int).toNat : List Int)).bind fun y179 => (if y175.length + y179.length < 17592186044416 then ((some (y175 ++ y179 : List Int)).bind fun y184 => (if (wrap64 (x5 + 1)) ≤ (((rd_T42 x4 x8).f0).length : Int) then ((some (((rd_T42 x4 x8).f0).drop ((wrap64 (x5 + 1)) : Int).toNat : List Int)).bind fun y188 => (if y184.length + y188.length < 17592186044416 then (if x7 < (x6.length : Int) then (spec_Uncrossed.l2 k x0 x4 x5 (x6.set (x7 : Int).toNat (⟨(y184 ++ y188)⟩ : S42)) x7 (wrap64 (x8 + 1))) else (none)) else (none))) else (none))) else (none))) else (none))) else (spec_Uncrossed.l2 k x0 x4 x5 x6 x7 (wrap64 (x8 + 1)))) else (none)) else (none)) else (none)) else (none)) else (none)) else (none)) else (none)) else (spec_Uncrossed.l1 k x0 x4 x5 x6 (wrap64 (x7 + 1)))
end
def spec_Uncrossed.f (k : Nat) (l0 : List (S42)) : Option ((List (S42)) × Bool) := (spec_l13Ok.f k l0).bind fun t159 => (if t159 = true then ((spec_l11Copy.f k l0).bind fun t163 => (spec_Uncrossed.l0 k l0 t163 0)) else (some ((([] : List (S42))), false)))
def spec_Uncrossed.T15 : Bool × List (List Nat × List Nat) := (true, [([], []), ([], []), ([0, 1], [0, 1]), ([2], [2]), ([3], [3]), ([], []), ([5], [5]), ([4, 6], [4, 6]), ([7], [7]), ([], []), ([], []), ([9, 10], [9, 10]), ([11], [11]), ([12], [12]), ([], []), ([13, 14], [13, 14]), ([15], [15]), ([8, 16], [8, 16])])
def spec_Uncrossed.B15 : List Nat := [0, 0, 3, 7, 15, 0, 32, 127, 255, 0, 0, 1536, 3584, 7680, 0, 32256, 65024, 131071]
theorem spec_Uncrossed.tab15 : rtab .any (opsOf Try.f28 15) = spec_Uncrossed.T15 := by kernel_rfl
theorem spec_Uncrossed.bits15 : waitsOk spec_Uncrossed.T15.2 spec_Uncrossed.B15 = true := by kernel_rfl
def spec_Uncrossed.T16 : Bool × List (List Nat × List Nat) := (true, [([], []), ([], []), ([], []), ([], []), ([], []), ([3, 4], [3, 4]), ([5], [5]), ([6], [6]), ([], []), ([8], [8]), ([7, 9], [7, 9]), ([2, 10], [2, 10]), ([], []), ([], []), ([12, 13], [12, 13]), ([14], [14]), ([15], [15]), ([], []), ([17], [17]), ([16, 18], [16, 18]), ([11, 19, 11], [11, 19]), ([0, 1, 0, 1, 2, 3, 4, 5, 6, 7, 8, 9, 10, 11, 12, 13, 14, 15, 16, 17, 18, 19, 20], [0, 1]), ([21, 0, 1, 2, 3, 4, 5, 6, 7, 8, 9, 10, 11, 12, 13, 14, 15, 16, 17, 18, 19, 20], [21]), ([22, 20, 20, 0, 1, 2, 3, 4, 5, 6, 7, 8, 9, 10, 11, 12, 13, 14, 15, 16, 17, 18, 19, 20], [20, 22])])
def spec_Uncrossed.B16 : List Nat := [0, 0, 0, 0, 0, 24, 56, 120, 0, 256, 1016, 2044, 0, 0, 12288, 28672, 61440, 0, 131072, 520192, 1048572, 2097151, 4194303, 8388607]
theorem spec_Uncrossed.tab16 : rtab .any (opsOf Try.f28 16) = spec_Uncrossed.T16 := by kernel_rfl
theorem spec_Uncrossed.bits16 : waitsOk spec_Uncrossed.T16.2 spec_Uncrossed.B16 = true := by kernel_rfl
set_option maxHeartbeats 8000000 in
set_option maxRecDepth 100000 in
theorem spec_Uncrossed.calls (k : Nat) (A0 : Option Addr) (c0 : Nat) (l0 : List (S42)) (r1 : List (S42)) (r2 : Bool) (w : World) (hr0 : Kd.C k42 w A0 l0.length l0) (hc0 : l0.length ≤ c0) (h : spec_Uncrossed.f k l0 = some (r1, r2)) :
  Calls Try.prog 28 #[.slice A0 l0.length c0] w fun e w' => ∃ v0_ : Value, e = .returned (.tuple #[v0_, .bool r2]) ∧ Kd.N k42 42 w' w.heap.size (fun k_ => (w.heap.size ≤ k_)) v0_ r1 ∧ Below w.heap.size w w' := by
 have HR0 := Aside0.mk hr0
 have HC0 := Aside0.mk hc0
 clear hr0 hc0
 have HB := Aside0.mk (Below.refl w.heap.size w)
 have H : ((spec_l13Ok.f k l0).bind fun t159 => (if t159 = true then ((spec_l11Copy.f k l0).bind fun t163 => (spec_Uncrossed.l0 k l0 t163 0)) else (some ((([] : List (S42))), false)))) = some (r1, r2) := h
 clear h
 replace H := Option.bind_eq_some_iff.mp H
 obtain ⟨t159, A20, H⟩ := H
 replace H : (if t159 = true then ((spec_l11Copy.f k l0).bind fun t163 => (spec_Uncrossed.l0 k l0 t163 0)) else (some ((([] : List (S42))), false))) = some (r1, r2) := H
 have A2 := Aside0.mk A20
 clear A20
 by_cases c3 : t159 = true
 ·subst c3
  have H1 : ((spec_l11Copy.f k l0).bind fun t163 => (spec_Uncrossed.l0 k l0 t163 0)) = some (r1, r2) := by rw [if_pos rfl] at H; exact H
  clear H
  have H := H1
  clear H1
  replace H := Option.bind_eq_some_iff.mp H
  obtain ⟨t163, A40, H⟩ := H
  replace H : (spec_Uncrossed.l0 k l0 t163 0) = some (r1, r2) := H
  have A4 := Aside0.mk A40
  clear A40
  have H' := Aside0.mk H
  clear H
  go_enter Try.func28, Try.ntmps28
  go_wp2_with (first | ((with_reducible refine gate_callee (f := 51) rfl ?_); refine goesL_ (some 10) rfl rfl Try.func51 (by kernel_rfl) rfl #[.slice A0 l0.length c0] rfl (by (try simp only [List.map_toArray, List.map_cons, List.map_nil]); first | done | rfl | (simp only [List.length_drop, List.length_take]; rfl)) ?_; (with_reducible refine (spec_l13Ok.calls k _ _ l0 true _ ?side1 ?side2 A2.out).mono ?_); (case side1 => exact uC HR0.out); (case side2 => exact HC0.out); rintro e w' ⟨rfl, ⟨nd, rfl⟩⟩; refine ⟨_, rfl, ?_⟩) | ((with_reducible refine gate_callee (f := 53) rfl ?_); refine goesL_ (some 14) rfl rfl Try.func53 (by kernel_rfl) rfl #[.slice A0 l0.length c0] rfl (by (try simp only [List.map_toArray, List.map_cons, List.map_nil]); first | done | rfl | (simp only [List.length_drop, List.length_take]; rfl)) ?_; (with_reducible refine (spec_l11Copy.calls k _ _ l0 t163 _ ?side1 ?side2 A4.out).mono ?_); (case side1 => exact uC HR0.out); (case side2 => exact HC0.out); rintro e w5 ⟨v164, rfl, ho0, hb⟩; refine ⟨_, rfl, ?_⟩; have n0_ := Aside0.mk (Kd.N_lower (Kd.N_mono (ok' := fun k_ => (w.heap.size ≤ k_)) (Kd.S_N (Kd.S_bound ho0)) (fun k_ hk_ => (Nat.le_trans (below_size (uB HB.out)) hk_.2.1))) (below_size (uB HB.out))); have n1_ := Aside0.mk (below_step (uB HB.out) hb); clear HB; have HO165 := n0_; have HB := n1_; clear n0_ n1_; (try clear hb); (try clear hb2); (try clear hk); (try clear hi); (try clear ho0)))
  go_loopg [4, 5] k (fun kq v4 v5 w' => ∃ (x4_1 : List (S42)) (x5_1 : Int), v5 = .int .i64 x5_1 ∧ Aside0 (spec_Uncrossed.l0 kq l0 x4_1 x5_1 = some (r1, r2)) ∧ Aside0 (kq ≤ k) ∧ Aside0 (Kd.N k42 42 w' w.heap.size (fun k_ => (w.heap.size ≤ k_)) v4 x4_1) ∧ Aside0 (Below w.heap.size w w'))
  case atStart => exact ⟨(t163), (0), (by first | rfl | (simp; done) | (simp [*]; done)), H', ⟨Nat.le_refl _⟩, ⟨by (with_reducible repeat (first | apply Kd.N_alloc | apply Kd.N_drewN | apply Kd.N_drew)); exact HO165.out⟩, ⟨by repeat (first | (with_reducible first | exact HB.out | apply below_alloc | apply pw_below_drewN | apply below_drew1) | exact HB.out)⟩⟩
  case round =>
   clear H'
   try clear c2
   try clear p2
   try clear c3
   try clear c5
   obtain ⟨x4_1, x5_1, rfl, HA, HK1, HO_4, HB⟩ := hrel
   cases gk with
   | zero => exact absurd HA.out (by simp [spec_Uncrossed.l0])
   | succ k1 =>
    have H := HA.out
    clear HA
    simp only [spec_Uncrossed.l0] at H
    by_cases c6 : 0 < (l0.length : Int)
    ·rw [if_pos c6] at H
     have c6b0 : decide (0 < (l0.length : Int)) = true := decide_eq_true c6
     have c6b1 : decide (0 < l0.length) = true := decide_eq_true (by omega)
     clear c6
     by_cases c7 : (wrap64 (x5_1 + 1)) < (((rd_T42 l0 0).f0).length : Int)
     ·rw [if_pos c7] at H
      have c7b0 : decide ((wrap64 (x5_1 + 1)) < (((rd_T42 l0 0).f0).length : Int)) = true := decide_eq_true c7
      clear c7
      replace H := Option.bind_eq_some_iff.mp H
      obtain ⟨t167, A80, H⟩ := H
      replace H : (spec_Uncrossed.l1 k1 l0 x4_1 x5_1 t167 0) = some (r1, r2) := H
      have A8 := Aside0.mk A80
      clear A80
      have H' := Aside0.mk H
      clear H
      have p166 : 0 ≤ (0 : Int) := (by omega)
      have q166 : 0 < (l0.length : Int) := of_decide_eq_true (by first | (with_reducible assumption) | assumption)
      obtain ⟨ad166, A166_0, c166_0, e166, hx166_0, hl166_0, hi166_0⟩ := at_T42 HR0.out 0 p166 q166
      cases e166
      have qi166 : (0 < l0.length) = True := eq_true (by omega)
      (try rw [show ((0 : Int)).toNat = 0 from rfl] at hx166_0)
      (try rw [Addr.add_zero'] at hx166_0)
      replace hx166_0 := (HB.out.cell (World.block_lt_of_cell? w _ hx166_0)).trans hx166_0
      have HR166_0 := Aside0.mk hi166_0
      have HC166_0 := Aside0.mk hl166_0
      clear hi166_0 hl166_0
      replace p166 := eq_true p166
      replace q166 := eq_true q166
      obtain ⟨Ao9, co9, eo9⟩ := Kd.N_slice HO_4.out
      subst eo9
      go_wp2_with (first | ((with_reducible refine gate_callee (f := 53) rfl ?_); refine goesL_ (some 26) rfl rfl Try.func53 (by kernel_rfl) rfl #[.slice Ao9 x4_1.length co9] rfl (by (try simp only [List.map_toArray, List.map_cons, List.map_nil]); first | done | rfl | (simp only [List.length_drop, List.length_take]; rfl)) ?_; (with_reducible refine (spec_l11Copy.calls k1 _ _ x4_1 t167 _ ?side1 ?side2 A8.out).mono ?_); (case side1 => repeat (first | exact (Kd.N_reads' HO_4.out).2.2 | (with_reducible refine Kd.C_alloc ?_ _) | (with_reducible refine Kd.C_drewN ?_ _) | (with_reducible refine Kd.C_drew ?_))); (case side2 => exact (Kd.N_reads' HO_4.out).2.1); rintro e w10 ⟨v168, rfl, ho0, hb⟩; refine ⟨_, rfl, ?_⟩; have n0_ := Aside0.mk (Kd.N_elder' (uN HO_4.out) (Kd.S_base ho0) hb); have n1_ := Aside0.mk (Kd.N_lower (Kd.N_mono (ok' := fun k_ => (w.heap.size ≤ k_) ∧ some k_ ≠ (.slice Ao9 x4_1.length co9 : Value).ownBlock) (Kd.S_N (Kd.S_bound ho0)) (fun k_ hk_ => ⟨(Nat.le_trans (below_size (uB HB.out)) hk_.2.1), (Kd.fresh' (Kd.N_lt (uN HO_4.out)) k_ hk_.2.1)⟩)) (below_size (uB HB.out))); have n2_ := Aside0.mk (below_step (uB HB.out) hb); clear HO_4; clear HB; have HO_4 := n0_; have HO169 := n1_; have HB := n2_; clear n0_ n1_ n2_; (try clear hb); (try clear hb2); (try clear hk); (try clear hi); (try clear ho0)))
      go_loopg [7] k1 (fun kq v7 w' => ∃ (x6_2 : List (S42)) (x7_2 : Int), v7 = .int .i64 x7_2 ∧ Aside0 (spec_Uncrossed.l1 kq l0 x4_1 x5_1 x6_2 x7_2 = some (r1, r2)) ∧ Aside0 (kq ≤ k1) ∧ Aside0 (Kd.N k42 42 w' w.heap.size (fun k_ => (w.heap.size ≤ k_) ∧ some k_ ≠ (v168 : Value).ownBlock) (.slice Ao9 x4_1.length co9) x4_1) ∧ Aside0 (Kd.N k42 42 w' w.heap.size (fun k_ => (w.heap.size ≤ k_) ∧ some k_ ≠ ((.slice Ao9 x4_1.length co9) : Value).ownBlock) v168 x6_2) ∧ Aside0 (Below w.heap.size w w'))
      case atStart => exact ⟨(t167), (0), (by first | rfl | (simp; done) | (simp [*]; done)), H', ⟨Nat.le_refl _⟩, ⟨by (with_reducible repeat (first | apply Kd.N_alloc | apply Kd.N_drewN | apply Kd.N_drew)); exact HO_4.out⟩, ⟨by (with_reducible repeat (first | apply Kd.N_alloc | apply Kd.N_drewN | apply Kd.N_drew)); exact HO169.out⟩, ⟨by repeat (first | (with_reducible first | exact HB.out | apply below_alloc | apply pw_below_drewN | apply below_drew1) | exact HB.out)⟩⟩
      case round =>
       clear H'
       try clear c1
       try clear p1
       try clear q1
       try clear hx1
       try clear qi1
       try clear c2
       try clear p2
       try clear c3
       try clear c5
       try clear c6
       try clear c6b0
       try clear c6b1
       try clear p6
       try clear c7
       try clear c7b0
       try clear hx166_0
       try clear p166
       try clear p2
       try clear q166
       obtain ⟨x6_2, x7_2, rfl, HA, HK2, HO_4, HO_6, HB⟩ := hrel
       cases gk with
       | zero => exact absurd HA.out (by simp [spec_Uncrossed.l1])
       | succ k2 =>
        have H := HA.out
        clear HA
        simp only [spec_Uncrossed.l1] at H
        by_cases c11 : x7_2 < (x4_1.length : Int)
        ·rw [if_pos c11] at H
         have c11b0 : decide (x7_2 < (x4_1.length : Int)) = true := decide_eq_true c11
         clear c11
         replace H := Option.bind_eq_some_iff.mp H
         obtain ⟨t170, A120, H⟩ := H
         replace H : (if t170 < 2 then (spec_Uncrossed.l1 k2 l0 x4_1 x5_1 x6_2 (wrap64 (x7_2 + 1))) else (spec_Uncrossed.l2 k2 l0 x4_1 x5_1 x6_2 x7_2 0)) = some (r1, r2) := H
         have A12 := Aside0.mk A120
         clear A120
         by_cases c13 : t170 < 2
         ·rw [if_pos c13] at H
          have c13b0 : decide (t170 < 2) = true := decide_eq_true c13
          clear c13
          have H' := Aside0.mk H
          clear H
          go_wp2_with (first | ((with_reducible refine gate_callee (f := 54) rfl ?_); refine goesL_ (some 36) rfl rfl Try.func54 (by kernel_rfl) rfl #[.slice Ao9 x4_1.length co9, .int .i64 x5_1, .int .i64 x7_2] rfl (by (try simp only [List.map_toArray, List.map_cons, List.map_nil]); first | done | rfl | (simp only [List.length_drop, List.length_take]; rfl)) ?_; (with_reducible refine (spec_l12Ring.calls k2 _ _ x4_1 x5_1 x7_2 t170 _ ?side1 ?side2 A12.out).mono ?_); (case side1 => repeat (first | exact (Kd.N_reads' HO_4.out).2.2 | (with_reducible refine Kd.C_alloc ?_ _) | (with_reducible refine Kd.C_drewN ?_ _) | (with_reducible refine Kd.C_drew ?_))); (case side2 => exact (Kd.N_reads' HO_4.out).2.1); rintro e w' ⟨rfl, ⟨nd, rfl⟩⟩; refine ⟨_, rfl, ?_⟩))
          go_roundg k2
          case measure => have := HK1.out; have := HK2.out; omega
          case rel => exact ⟨(x6_2), (wrap64 (x7_2 + 1)), (by first | rfl | (simp; done) | (simp [*]; done)), H', ⟨by have := HK1.out; have := HK2.out; omega⟩, ⟨by (with_reducible repeat (first | apply Kd.N_alloc | apply Kd.N_drewN | apply Kd.N_drew)); exact HO_4.out⟩, ⟨by (with_reducible repeat (first | apply Kd.N_alloc | apply Kd.N_drewN | apply Kd.N_drew)); exact HO_6.out⟩, ⟨by repeat (first | (with_reducible first | exact HB.out | apply below_alloc | apply pw_below_drewN | apply below_drew1) | exact HB.out)⟩⟩
         ·rw [if_neg c13] at H
          have c13b0 : decide (t170 < 2) = false := decide_eq_false c13
          clear c13
          have H' := Aside0.mk H
          clear H
          go_wp2_with (first | ((with_reducible refine gate_callee (f := 54) rfl ?_); refine goesL_ (some 36) rfl rfl Try.func54 (by kernel_rfl) rfl #[.slice Ao9 x4_1.length co9, .int .i64 x5_1, .int .i64 x7_2] rfl (by (try simp only [List.map_toArray, List.map_cons, List.map_nil]); first | done | rfl | (simp only [List.length_drop, List.length_take]; rfl)) ?_; (with_reducible refine (spec_l12Ring.calls k2 _ _ x4_1 x5_1 x7_2 t170 _ ?side1 ?side2 A12.out).mono ?_); (case side1 => repeat (first | exact (Kd.N_reads' HO_4.out).2.2 | (with_reducible refine Kd.C_alloc ?_ _) | (with_reducible refine Kd.C_drewN ?_ _) | (with_reducible refine Kd.C_drew ?_))); (case side2 => exact (Kd.N_reads' HO_4.out).2.1); rintro e w' ⟨rfl, ⟨nd, rfl⟩⟩; refine ⟨_, rfl, ?_⟩))
          go_loopg [8] k2 (fun kq v8 w' => ∃ (x6_3 : List (S42)) (x8_3 : Int), v8 = .int .i64 x8_3 ∧ Aside0 (spec_Uncrossed.l2 kq l0 x4_1 x5_1 x6_3 x7_2 x8_3 = some (r1, r2)) ∧ Aside0 (kq ≤ k2) ∧ Aside0 (Kd.N k42 42 w' w.heap.size (fun k_ => (w.heap.size ≤ k_) ∧ some k_ ≠ (v168 : Value).ownBlock) (.slice Ao9 x4_1.length co9) x4_1) ∧ Aside0 (Kd.N k42 42 w' w.heap.size (fun k_ => (w.heap.size ≤ k_) ∧ some k_ ≠ ((.slice Ao9 x4_1.length co9) : Value).ownBlock) v168 x6_3) ∧ Aside0 (Below w.heap.size w w'))
          case atStart => exact ⟨(x6_2), (0), (by first | rfl | (simp; done) | (simp [*]; done)), H', ⟨Nat.le_refl _⟩, ⟨by (with_reducible repeat (first | apply Kd.N_alloc | apply Kd.N_drewN | apply Kd.N_drew)); exact HO_4.out⟩, ⟨by (with_reducible repeat (first | apply Kd.N_alloc | apply Kd.N_drewN | apply Kd.N_drew)); exact HO_6.out⟩, ⟨by repeat (first | (with_reducible first | exact HB.out | apply below_alloc | apply pw_below_drewN | apply below_drew1) | exact HB.out)⟩⟩
          case round =>
           clear H'
           try clear c1
           try clear p1
           try clear q1
           try clear hx1
           try clear qi1
           try clear c2
           try clear p2
           try clear c3
           try clear c5
           try clear c6
           try clear c6b0
           try clear c6b1
           try clear p6
           try clear c7
           try clear c7b0
           try clear c11
           try clear c11b0
           try clear c13
           try clear c13b0
           try clear hx166_0
           try clear p1
           try clear p166
           try clear p2
           try clear p6
           try clear q1
           try clear q166
           obtain ⟨x6_3, x8_3, rfl, HA, HK3, HO_4, HO_6, HB⟩ := hrel
           cases gk with
           | zero => exact absurd HA.out (by simp [spec_Uncrossed.l2])
           | succ k3 =>
            have H := HA.out
            clear HA
            simp only [spec_Uncrossed.l2] at H
            by_cases c14 : x8_3 < (x4_1.length : Int)
            ·rw [if_pos c14] at H
             have c14b0 : decide (x8_3 < (x4_1.length : Int)) = true := decide_eq_true c14
             clear c14
             by_cases c15 : 0 ≤ x8_3
             ·rw [if_pos c15] at H
              have c15b0 : decide (0 ≤ x8_3) = true := decide_eq_true c15
              clear c15
              obtain ⟨ji16, hji16⟩ : ∃ j_ : Int, (wrap64 (x5_1 + 1)) = j_ := ⟨_, rfl⟩
              replace H : (if 0 ≤ (ji16) then (if (ji16) < (((rd_T42 x4_1 x8_3).f0).length : Int) then (if 0 ≤ x7_2 then (if x7_2 < (x4_1.length : Int) then (if 0 ≤ x5_1 then (if x5_1 < (((rd_T42 x4_1 x7_2).f0).length : Int) then (if (rd ((rd_T42 x4_1 x8_3).f0) (ji16)) = (rd ((rd_T42 x4_1 x7_2).f0) x5_1) then ((some (([] : List Int) : List Int)).bind fun y175 => (if (ji16) ≤ (((rd_T42 x4_1 x7_2).f0).length : Int) then ((some (((rd_T42 x4_1 x7_2).f0).take ((ji16) : Int).toNat : List Int)).bind fun y179 => (if y175.length + y179.length < 17592186044416 then ((some (y175 ++ y179 : List Int)).bind fun y184 => (if (ji16) ≤ (((rd_T42 x4_1 x8_3).f0).length : Int) then ((some (((rd_T42 x4_1 x8_3).f0).drop ((ji16) : Int).toNat : List Int)).bind fun y188 => (if y184.length + y188.length < 17592186044416 then (if x7_2 < (x6_3.length : Int) then (spec_Uncrossed.l2 k3 l0 x4_1 x5_1 (x6_3.set (x7_2 : Int).toNat (⟨(y184 ++ y188)⟩ : S42)) x7_2 (wrap64 (x8_3 + 1))) else (none)) else (none))) else (none))) else (none))) else (none))) else (spec_Uncrossed.l2 k3 l0 x4_1 x5_1 x6_3 x7_2 (wrap64 (x8_3 + 1)))) else (none)) else (none)) else (none)) else (none)) else (none)) else (none)) = some (r1, r2) := by first | (rw [hji16] at H; exact H) | (simp only [hji16] at H ⊢; exact H)
              (try rw [hji16] at c7b0)
              have hji16w : (IntKind.i64.wrap (x5_1 + 1)) = ji16 := (i64_w _).trans hji16
              by_cases c17 : 0 ≤ (ji16)
              ·rw [if_pos c17] at H
               have c17b0 : decide (0 ≤ (ji16)) = true := decide_eq_true c17
               clear c17
               by_cases c18 : (ji16) < (((rd_T42 x4_1 x8_3).f0).length : Int)
               ·rw [if_pos c18] at H
                have c18b0 : decide ((ji16) < (((rd_T42 x4_1 x8_3).f0).length : Int)) = true := decide_eq_true c18
                clear c18
                by_cases c19 : 0 ≤ x7_2
                ·rw [if_pos c19] at H
                 have c19b0 : decide (0 ≤ x7_2) = true := decide_eq_true c19
                 clear c19
                 by_cases c20 : x7_2 < (x4_1.length : Int)
                 ·rw [if_pos c20] at H
                  have c20b0 : decide (x7_2 < (x4_1.length : Int)) = true := decide_eq_true c20
                  clear c20
                  by_cases c21 : 0 ≤ x5_1
                  ·rw [if_pos c21] at H
                   have c21b0 : decide (0 ≤ x5_1) = true := decide_eq_true c21
                   clear c21
                   by_cases c22 : x5_1 < (((rd_T42 x4_1 x7_2).f0).length : Int)
                   ·rw [if_pos c22] at H
                    have c22b0 : decide (x5_1 < (((rd_T42 x4_1 x7_2).f0).length : Int)) = true := decide_eq_true c22
                    clear c22
                    by_cases c23 : (rd ((rd_T42 x4_1 x8_3).f0) (ji16)) = (rd ((rd_T42 x4_1 x7_2).f0) x5_1)
                    ·rw [if_pos c23] at H
                     have c23b0 : ((rd ((rd_T42 x4_1 x8_3).f0) (ji16)) == (rd ((rd_T42 x4_1 x7_2).f0) x5_1)) = true := beq_iff_eq.mpr c23
                     have c23b1 : ((rd ((rd_T42 x4_1 x8_3).f0) (ji16)) != (rd ((rd_T42 x4_1 x7_2).f0) x5_1)) = false := bne_eq_false_iff_eq.mpr c23
                     clear c23
                     obtain ⟨y175, hy175⟩ : ∃ y_ : List Int, y_ = (([] : List Int)) := ⟨_, rfl⟩
                     replace H : (if (ji16) ≤ (((rd_T42 x4_1 x7_2).f0).length : Int) then ((some (((rd_T42 x4_1 x7_2).f0).take ((ji16) : Int).toNat : List Int)).bind fun y179 => (if y175.length + y179.length < 17592186044416 then ((some (y175 ++ y179 : List Int)).bind fun y184 => (if (ji16) ≤ (((rd_T42 x4_1 x8_3).f0).length : Int) then ((some (((rd_T42 x4_1 x8_3).f0).drop ((ji16) : Int).toNat : List Int)).bind fun y188 => (if y184.length + y188.length < 17592186044416 then (if x7_2 < (x6_3.length : Int) then (spec_Uncrossed.l2 k3 l0 x4_1 x5_1 (x6_3.set (x7_2 : Int).toNat (⟨(y184 ++ y188)⟩ : S42)) x7_2 (wrap64 (x8_3 + 1))) else (none)) else (none))) else (none))) else (none))) else (none)) = some (r1, r2) := by first | (rw [hy175]; with_reducible exact H) | (have H2_ := (Option.bind_some _ _).symm.trans H; rw [hy175]; with_reducible exact H2_) | (have H2_ := (Option.bind_some _ _).symm.trans H; with_reducible exact H2_) | with_reducible exact H | (rw [hy175]; exact H) | exact H
                     have Ny175 := Aside0.mk hy175
                     clear hy175
                     have c24b0 := eq_true (of_decide_eq_true (by first | (with_reducible assumption) | assumption) : 0 ≤ (ji16))
                     by_cases c25 : (ji16) ≤ (((rd_T42 x4_1 x7_2).f0).length : Int)
                     ·rw [if_pos c25] at H
                      have c25b0 := eq_true c25
                      have c25b1 : decide ((ji16) ≤ (((rd_T42 x4_1 x7_2).f0).length : Int)) = true := decide_eq_true c25
                      clear c25
                      obtain ⟨y179, hy179⟩ : ∃ y_ : List Int, y_ = (((rd_T42 x4_1 x7_2).f0).take ((ji16) : Int).toNat) := ⟨_, rfl⟩
                      replace H : (if y175.length + y179.length < 17592186044416 then ((some (y175 ++ y179 : List Int)).bind fun y184 => (if (ji16) ≤ (((rd_T42 x4_1 x8_3).f0).length : Int) then ((some (((rd_T42 x4_1 x8_3).f0).drop ((ji16) : Int).toNat : List Int)).bind fun y188 => (if y184.length + y188.length < 17592186044416 then (if x7_2 < (x6_3.length : Int) then (spec_Uncrossed.l2 k3 l0 x4_1 x5_1 (x6_3.set (x7_2 : Int).toNat (⟨(y184 ++ y188)⟩ : S42)) x7_2 (wrap64 (x8_3 + 1))) else (none)) else (none))) else (none))) else (none)) = some (r1, r2) := by first | (rw [hy179]; with_reducible exact H) | (have H2_ := (Option.bind_some _ _).symm.trans H; rw [hy179]; with_reducible exact H2_) | (have H2_ := (Option.bind_some _ _).symm.trans H; with_reducible exact H2_) | with_reducible exact H | (rw [hy179]; exact H) | exact H
                      have Ny179 := Aside0.mk hy179
                      clear hy179
                      by_cases c26 : y175.length + y179.length < 17592186044416
                      ·rw [if_pos c26] at H
                       have LMc26 := Aside0.mk c26
                       clear c26
                       obtain ⟨y184, hy184⟩ : ∃ y_ : List Int, y_ = (y175 ++ y179) := ⟨_, rfl⟩
                       replace H : (if (ji16) ≤ (((rd_T42 x4_1 x8_3).f0).length : Int) then ((some (((rd_T42 x4_1 x8_3).f0).drop ((ji16) : Int).toNat : List Int)).bind fun y188 => (if y184.length + y188.length < 17592186044416 then (if x7_2 < (x6_3.length : Int) then (spec_Uncrossed.l2 k3 l0 x4_1 x5_1 (x6_3.set (x7_2 : Int).toNat (⟨(y184 ++ y188)⟩ : S42)) x7_2 (wrap64 (x8_3 + 1))) else (none)) else (none))) else (none)) = some (r1, r2) := by first | (rw [hy184]; with_reducible exact H) | (have H2_ := (Option.bind_some _ _).symm.trans H; rw [hy184]; with_reducible exact H2_) | (have H2_ := (Option.bind_some _ _).symm.trans H; with_reducible exact H2_) | with_reducible exact H | (rw [hy184]; exact H) | exact H
                       have Ny184 := Aside0.mk hy184
                       clear hy184
                       have c27b0 := eq_true (of_decide_eq_true (by first | (with_reducible assumption) | assumption) : 0 ≤ (ji16))
                       by_cases c28 : (ji16) ≤ (((rd_T42 x4_1 x8_3).f0).length : Int)
                       ·rw [if_pos c28] at H
                        have c28b0 := eq_true c28
                        have c28b1 : decide ((ji16) ≤ (((rd_T42 x4_1 x8_3).f0).length : Int)) = true := decide_eq_true c28
                        clear c28
                        obtain ⟨y188, hy188⟩ : ∃ y_ : List Int, y_ = (((rd_T42 x4_1 x8_3).f0).drop ((ji16) : Int).toNat) := ⟨_, rfl⟩
                        replace H : (if y184.length + y188.length < 17592186044416 then (if x7_2 < (x6_3.length : Int) then (spec_Uncrossed.l2 k3 l0 x4_1 x5_1 (x6_3.set (x7_2 : Int).toNat (⟨(y184 ++ y188)⟩ : S42)) x7_2 (wrap64 (x8_3 + 1))) else (none)) else (none)) = some (r1, r2) := by first | (rw [hy188]; with_reducible exact H) | (have H2_ := (Option.bind_some _ _).symm.trans H; rw [hy188]; with_reducible exact H2_) | (have H2_ := (Option.bind_some _ _).symm.trans H; with_reducible exact H2_) | with_reducible exact H | (rw [hy188]; exact H) | exact H
                        have Ny188 := Aside0.mk hy188
                        clear hy188
                        by_cases c29 : y184.length + y188.length < 17592186044416
                        ·rw [if_pos c29] at H
                         have LMc29 := Aside0.mk c29
                         clear c29
                         obtain ⟨y193, hy193⟩ : ∃ y_ : List Int, y_ = (y184 ++ y188) := ⟨_, rfl⟩
                         replace H : (if x7_2 < (x6_3.length : Int) then (spec_Uncrossed.l2 k3 l0 x4_1 x5_1 (x6_3.set (x7_2 : Int).toNat (⟨y193⟩ : S42)) x7_2 (wrap64 (x8_3 + 1))) else (none)) = some (r1, r2) := by first | (rw [hy193]; with_reducible exact H) | (have H2_ := (Option.bind_some _ _).symm.trans H; rw [hy193]; with_reducible exact H2_) | (have H2_ := (Option.bind_some _ _).symm.trans H; with_reducible exact H2_) | with_reducible exact H | (rw [hy193]; exact H) | exact H
                         have Ny193 := Aside0.mk hy193
                         clear hy193
                         by_cases c30 : x7_2 < (x6_3.length : Int)
                         ·rw [if_pos c30] at H
                          have c30b0 : decide (x7_2 < (x6_3.length : Int)) = true := decide_eq_true c30
                          clear c30
                          obtain ⟨y196, hy196⟩ : ∃ y_ : List (S42), y_ = (x6_3.set (x7_2 : Int).toNat (⟨y193⟩ : S42)) := ⟨_, rfl⟩
                          replace H : (spec_Uncrossed.l2 k3 l0 x4_1 x5_1 y196 x7_2 (wrap64 (x8_3 + 1))) = some (r1, r2) := by first | (rw [hy196]; with_reducible exact H) | (have H2_ := (Option.bind_some _ _).symm.trans H; rw [hy196]; with_reducible exact H2_) | (have H2_ := (Option.bind_some _ _).symm.trans H; with_reducible exact H2_) | with_reducible exact H | (rw [hy196]; exact H) | exact H
                          have Ny196 := Aside0.mk hy196
                          clear hy196
                          have H' := Aside0.mk H
                          clear H
                          try go_wp2
                          have n0_ := Aside0.mk (Kd.N_drew HO_4.out)
                          have n1_ := Aside0.mk (Kd.N_drew HO_6.out)
                          have n2_ := Aside0.mk (below_drew1 HB.out)
                          clear HO_4
                          clear HO_6
                          clear HB
                          have HO_4 := n0_
                          have HO_6 := n1_
                          have HB := n2_
                          clear n0_ n1_ n2_
                          have p171 : 0 ≤ (x8_3 : Int) := of_decide_eq_true (by first | (with_reducible assumption) | assumption)
                          have q171 : x8_3 < (x4_1.length : Int) := of_decide_eq_true (by first | (with_reducible assumption) | assumption)
                          obtain ⟨ad171, A171_0, c171_0, e171, hx171_0, hl171_0, hi171_0⟩ := at_T42 (Kd.N_reads' HO_4.out).2.2 x8_3 p171 q171
                          cases e171
                          obtain ⟨ce171, hce171, hMe171, hcc171⟩ := Kd.N_get HO_4.out z42 x8_3 p171 (by first | exact q171 | exact of_decide_eq_true (by first | (with_reducible assumption) | assumption) | (have e_ := (Kd.N_reads' HO_4.out).1; omega))
                          obtain ⟨ua171_0, uc171_0, rfl, ul171_0, ge171_0⟩ := k42_openF hMe171
                          have hv171_0 := hcc171 0 _ rfl
                          rw [Nat.add_zero, show (k42).sz = 1 from rfl, Nat.mul_one] at hv171_0
                          replace hv171_0 := Option.some.inj (hv171_0.symm.trans hx171_0)
                          injection hv171_0 with hva_ hvn_ hvc_
                          rw [hva_] at ge171_0
                          rw [hvc_] at ul171_0
                          have HL171_0 := Aside0.mk (show Kd.V (Kd.int .i64) 3 _ w.heap.size _ _ ((rd_T42 x4_1 x8_3).f0) from Kd.V_mk ul171_0 ge171_0)
                          clear hva_ hvn_ hvc_ ge171_0 ul171_0
                          clear hcc171 hce171
                          have HR171_0 := Aside0.mk hi171_0
                          have HC171_0 := Aside0.mk hl171_0
                          clear hi171_0 hl171_0
                          replace p171 := eq_true p171
                          replace q171 := eq_true q171
                          have p172 : 0 ≤ ((ji16) : Int) := of_decide_eq_true (by first | (with_reducible assumption) | assumption)
                          have q172 : (ji16) < (((rd_T42 x4_1 x8_3).f0).length : Int) := of_decide_eq_true (by first | (with_reducible assumption) | assumption)
                          obtain ⟨ad172, e172, hx172_0⟩ := Kd.at_int (by repeat (first | (with_reducible exact HR171_0.out) | (with_reducible refine Kd.C_alloc ?_ _) | (with_reducible refine Kd.C_drewN ?_ _) | (with_reducible refine Kd.C_drew ?_) | exact HR171_0.out)) (ji16) p172 q172
                          cases e172
                          replace p172 := eq_true p172
                          replace q172 := eq_true q172
                          have p173 : 0 ≤ (x7_2 : Int) := of_decide_eq_true (by first | (with_reducible assumption) | assumption)
                          have q173 : x7_2 < (x4_1.length : Int) := of_decide_eq_true (by first | (with_reducible assumption) | assumption)
                          obtain ⟨ad173, A173_0, c173_0, e173, hx173_0, hl173_0, hi173_0⟩ := at_T42 (Kd.N_reads' HO_4.out).2.2 x7_2 p173 q173
                          obtain rfl : ad171 = ad173 := (by injection e173)
                          obtain ⟨ce173, hce173, hMe173, hcc173⟩ := Kd.N_get HO_4.out z42 x7_2 p173 (by first | exact q173 | exact of_decide_eq_true (by first | (with_reducible assumption) | assumption) | (have e_ := (Kd.N_reads' HO_4.out).1; omega))
                          obtain ⟨ua173_0, uc173_0, rfl, ul173_0, ge173_0⟩ := k42_openF hMe173
                          have hv173_0 := hcc173 0 _ rfl
                          rw [Nat.add_zero, show (k42).sz = 1 from rfl, Nat.mul_one] at hv173_0
                          replace hv173_0 := Option.some.inj (hv173_0.symm.trans hx173_0)
                          injection hv173_0 with hva_ hvn_ hvc_
                          rw [hva_] at ge173_0
                          rw [hvc_] at ul173_0
                          have HL173_0 := Aside0.mk (show Kd.V (Kd.int .i64) 3 _ w.heap.size _ _ ((rd_T42 x4_1 x7_2).f0) from Kd.V_mk ul173_0 ge173_0)
                          clear hva_ hvn_ hvc_ ge173_0 ul173_0
                          clear hcc173 hce173
                          have HR173_0 := Aside0.mk hi173_0
                          have HC173_0 := Aside0.mk hl173_0
                          clear hi173_0 hl173_0
                          replace p173 := eq_true p173
                          replace q173 := eq_true q173
                          have p174 : 0 ≤ (x5_1 : Int) := of_decide_eq_true (by first | (with_reducible assumption) | assumption)
                          have q174 : x5_1 < (((rd_T42 x4_1 x7_2).f0).length : Int) := of_decide_eq_true (by first | (with_reducible assumption) | assumption)
                          obtain ⟨ad174, e174, hx174_0⟩ := Kd.at_int (by repeat (first | (with_reducible exact HR173_0.out) | (with_reducible refine Kd.C_alloc ?_ _) | (with_reducible refine Kd.C_drewN ?_ _) | (with_reducible refine Kd.C_drew ?_) | exact HR173_0.out)) x5_1 p174 q174
                          cases e174
                          replace p174 := eq_true p174
                          replace q174 := eq_true q174
                          refine start_ (n := 18) (S := fun w' => w'.cell? (ad171.add (x8_3).toNat) = some (.slice (some ad172) ((rd_T42 x4_1 x8_3).f0).length c171_0) ∧ w'.cell? (ad172.add ((ji16)).toNat) = some (.int .i64 (rd ((rd_T42 x4_1 x8_3).f0) (ji16))) ∧ w'.cell? (ad171.add (x7_2).toNat) = some (.slice (some ad174) ((rd_T42 x4_1 x7_2).f0).length c173_0) ∧ w'.cell? (ad174.add (x5_1).toNat) = some (.int .i64 (rd ((rd_T42 x4_1 x7_2).f0) x5_1))) (ds := []) #[false, false, false, false, false, false, false, false, false, false, false, false, false, false, false, false, false, false] (by kernel_rfl) rfl rfl ⟨hx171_0, hx172_0, hx173_0, hx174_0⟩ (fun hHeld => ?_); refine with_tabW spec_Uncrossed.tab15 spec_Uncrossed.bits15 (fun HT_ HW_ => ?_)
                          generalize wr.drew = w32 at HO_4 HO_6 HB HL171_0 HL173_0 HR171_0 HR173_0 hx171_0 hx172_0 hx173_0 hx174_0 hHeld ⊢
                          refine pu_ 0 44 18 1 ?_ HT_ rfl rfl (by kernel_rfl) (fun _ _ _ h => h) (Or.inl ⟨by rfl, ?_⟩) ?_ ?_ ?_; rotate_left; (·intro w'; go_simp; with_reducible rfl); rotate_left; (·simp only [Act.put, pt_]; rfl)
                          refine pu_ 1 45 18 3 ?_ HT_ rfl rfl (by kernel_rfl) (fun _ _ _ h => h) (Or.inl ⟨by rfl, ?_⟩) ?_ ?_ ?_; rotate_left; (·intro w'; go_simp; with_reducible rfl); rotate_left; (·simp only [Act.put, pt_]; rfl)
                          refine pu_ 2 46 18 7 ?_ HT_ rfl rfl (by kernel_rfl) (fun _ _ _ h => h) (Or.inl ⟨by rfl, ?_⟩) ?_ ?_ ?_; rotate_left; (·intro w'; go_simp; with_reducible rfl); rotate_left; (·simp only [Act.put, pt_]; rfl)
                          refine pu_ 3 47 18 15 ?_ HT_ rfl rfl (by kernel_rfl) (fun _ _ _ h => h) (Or.inl ⟨by rfl, ?_⟩) ?_ ?_ ?_; rotate_left; (·intro w'; go_simp; with_reducible rfl); rotate_left; (·simp only [Act.put, pt_]; rfl)
                          refine pu_ 5 49 18 47 ?_ HT_ rfl rfl (by kernel_rfl) (fun _ _ _ h => h) (Or.inl ⟨by rfl, ?_⟩) ?_ ?_ ?_; rotate_left; (·intro w'; go_simp; with_reducible rfl); rotate_left; (·simp only [Act.put, pt_]; rfl)
                          refine pu_ 6 50 18 111 ?_ HT_ rfl rfl (by kernel_rfl) (fun _ _ _ h => h) (Or.inl ⟨by rfl, ?_⟩) ?_ ?_ ?_; rotate_left; (·intro w'; go_simp; with_reducible rfl); rotate_left; (·simp only [Act.put, pt_]; rfl)
                          refine pu_ 9 53 18 623 ?_ HT_ rfl rfl (by kernel_rfl) (fun _ _ _ h => h) (Or.inl ⟨by rfl, ?_⟩) ?_ ?_ ?_; rotate_left; (·intro w'; go_simp; with_reducible rfl); rotate_left; (·simp only [Act.put, pt_]; rfl)
                          refine pu_ 10 54 18 1647 ?_ HT_ rfl rfl (by kernel_rfl) (fun _ _ _ h => h) (Or.inl ⟨by rfl, ?_⟩) ?_ ?_ ?_; rotate_left; (·intro w'; go_simp; with_reducible rfl); rotate_left; (·simp only [Act.put, pt_]; rfl)
                          refine pu_ 11 55 18 3695 ?_ HT_ rfl rfl (by kernel_rfl) (fun _ _ _ h => h) (Or.inl ⟨by rfl, ?_⟩) ?_ ?_ ?_; rotate_left; (·intro w'; go_simp; with_reducible rfl); rotate_left; (·simp only [Act.put, pt_]; rfl)
                          refine pu_ 12 56 18 7791 ?_ HT_ rfl rfl (by kernel_rfl) (fun _ _ _ h => h) (Or.inl ⟨by rfl, ?_⟩) ?_ ?_ ?_; rotate_left; (·intro w'; go_simp; with_reducible rfl); rotate_left; (·simp only [Act.put, pt_]; rfl)
                          refine pu_ 14 58 18 24175 ?_ HT_ rfl rfl (by kernel_rfl) (fun _ _ _ h => h) (Or.inl ⟨by rfl, ?_⟩) ?_ ?_ ?_; rotate_left; (·intro w'; go_simp; with_reducible rfl); rotate_left; (·simp only [Act.put, pt_]; rfl)
                          refine tk_ 4 48 18 24191 ?_ HT_ HW_ rfl rfl (by kernel_rfl) (fun _ _ _ h => h) (Or.inl ⟨by rfl, ?_⟩) hHeld ?_ ?_ ?_; rotate_left; (·rintro w' ⟨s0, s1, s2, s3⟩; go_simp; with_reducible rfl); rotate_left; (·simp only [Act.put, pt_]; rfl)
                          refine pu_ 7 51 18 24319 ?_ HT_ rfl rfl (by kernel_rfl) (fun _ _ _ h => h) (Or.inl ⟨by rfl, ?_⟩) ?_ ?_ ?_; rotate_left; (·intro w'; go_simp; with_reducible rfl); rotate_left; (·simp only [Act.put, pt_]; rfl)
                          refine tk_ 8 52 18 24575 ?_ HT_ HW_ rfl rfl (by kernel_rfl) (fun _ _ _ h => h) (Or.inl ⟨by rfl, ?_⟩) hHeld ?_ ?_ ?_; rotate_left; (·rintro w' ⟨s0, s1, s2, s3⟩; go_simp; with_reducible rfl); rotate_left; (·simp only [Act.put, pt_]; rfl)
                          refine tk_ 13 57 18 32767 ?_ HT_ HW_ rfl rfl (by kernel_rfl) (fun _ _ _ h => h) (Or.inl ⟨by rfl, ?_⟩) hHeld ?_ ?_ ?_; rotate_left; (·rintro w' ⟨s0, s1, s2, s3⟩; go_simp; with_reducible rfl); rotate_left; (·simp only [Act.put, pt_]; rfl)
                          refine pu_ 15 59 18 65535 ?_ HT_ rfl rfl (by kernel_rfl) (fun _ _ _ h => h) (Or.inl ⟨by rfl, ?_⟩) ?_ ?_ ?_; rotate_left; (·intro w'; go_simp; with_reducible rfl); rotate_left; (·simp only [Act.put, pt_]; rfl)
                          refine tk_ 16 60 18 131071 ?_ HT_ HW_ rfl rfl (by kernel_rfl) (fun _ _ _ h => h) (Or.inl ⟨by rfl, ?_⟩) hHeld ?_ ?_ ?_; rotate_left; (·rintro w' ⟨s0, s1, s2, s3⟩; go_simp; with_reducible rfl); rotate_left; (·simp only [Act.put, pt_]; rfl)
                          refine pu_ 17 61 18 262143 ?_ HT_ rfl rfl (by kernel_rfl) (fun _ _ _ h => h) (Or.inl ⟨by rfl, ?_⟩) ?_ ?_ ?_; rotate_left; (·intro w'; go_simp; with_reducible rfl); rotate_left; (·simp only [Act.put, pt_]; rfl)
                          refine done_ (done_of HT_.out (by kernel_rfl)) ?_
                          try go_wp2
                          have n0_ := Aside0.mk (Kd.N_drew HO_4.out)
                          have n1_ := Aside0.mk (Kd.N_drew HO_6.out)
                          have n2_ := Aside0.mk (Kd.V_drew HL171_0.out)
                          have n3_ := Aside0.mk (Kd.V_drew HL173_0.out)
                          have n4_ := Aside0.mk (Kd.C_drew HR171_0.out)
                          have n5_ := Aside0.mk (Kd.C_drew HR173_0.out)
                          have n6_ := Aside0.mk (below_drew1 HB.out)
                          clear HO_4
                          clear HO_6
                          clear HL171_0
                          clear HL173_0
                          clear HR171_0
                          clear HR173_0
                          clear HB
                          have HO_4 := n0_
                          have HO_6 := n1_
                          have HL171_0 := n2_
                          have HL173_0 := n3_
                          have HR171_0 := n4_
                          have HR173_0 := n5_
                          have HB := n6_
                          clear n0_ n1_ n2_ n3_ n4_ n5_ n6_
                          have p178 : 0 ≤ (x7_2 : Int) := of_decide_eq_true (by first | (with_reducible assumption) | assumption)
                          have q178 : x7_2 < (x4_1.length : Int) := of_decide_eq_true (by first | (with_reducible assumption) | assumption)
                          obtain ⟨ad178, A178_0, c178_0, e178, hx178_0, hl178_0, hi178_0⟩ := at_T42 (Kd.N_reads' HO_4.out).2.2 x7_2 p178 q178
                          obtain rfl : ad171 = ad178 := (by injection e178)
                          obtain ⟨ce178, hce178, hMe178, hcc178⟩ := Kd.N_get HO_4.out z42 x7_2 p178 (by first | exact q178 | exact of_decide_eq_true (by first | (with_reducible assumption) | assumption) | (have e_ := (Kd.N_reads' HO_4.out).1; omega))
                          obtain ⟨ua178_0, uc178_0, rfl, ul178_0, ge178_0⟩ := k42_openF hMe178
                          have hv178_0 := hcc178 0 _ rfl
                          rw [Nat.add_zero, show (k42).sz = 1 from rfl, Nat.mul_one] at hv178_0
                          replace hv178_0 := Option.some.inj (hv178_0.symm.trans hx178_0)
                          injection hv178_0 with hva_ hvn_ hvc_
                          rw [hva_] at ge178_0
                          rw [hvc_] at ul178_0
                          have HL178_0 := Aside0.mk (show Kd.V (Kd.int .i64) 3 _ w.heap.size _ _ ((rd_T42 x4_1 x7_2).f0) from Kd.V_mk ul178_0 ge178_0)
                          clear hva_ hvn_ hvc_ ge178_0 ul178_0
                          clear hcc178 hce178
                          have HR178_0 := Aside0.mk hi178_0
                          have HC178_0 := Aside0.mk hl178_0
                          clear hi178_0 hl178_0
                          replace p178 := eq_true p178
                          replace q178 := eq_true q178
                          have q34 : ((ji16) : Int) ≤ ((((rd_T42 x4_1 x7_2).f0).length : Int) : Int) := of_decide_eq_true (by first | (with_reducible assumption) | assumption)
                          obtain ⟨i034, hi034, _, hsz34, _⟩ := info_parts info3
                          have hroom34 : ((rd_T42 x4_1 x7_2).f0).length ≤ c178_0 := HC178_0.out
                          have hC34 : Kd.F (Kd.int .i64) _ _ A178_0 ((rd_T42 x4_1 x7_2).f0).length ((rd_T42 x4_1 x7_2).f0) := (Kd.V_at (base := w.heap.size) HL178_0.out).2.2
                          have hcut34 := cut_to (P := Try.prog) 34 3 .i64 Try.underlying34 hi034 A178_0 ((rd_T42 x4_1 x7_2).f0).length c178_0 (ji16) (of_decide_eq_true (by first | (with_reducible assumption) | assumption)) q34 hroom34
                          have hr34 := Kd.F_take (m := ((ji16) : Int).toNat) hC34 (by omega)
                          have hy34 : y179.length = ((ji16) : Int).toNat := (by rw [Ny179.out, List.length_take]; omega)
                          rw [← Ny179.out] at hr34
                          rw [← hy34] at hcut34
                          have HO183 := Aside0.mk (show Kd.V (Kd.int .i64) 3 _ w.heap.size _ (.slice A178_0 y179.length c178_0) y179 from Kd.V_mk (by omega) hr34)
                          have HC183 := Aside0.mk (show y179.length ≤ c178_0 from by omega)
                          clear hr34 hC34 hroom34 hi034 hsz34
                          have KY34 := Aside0.mk hy34
                          clear hy34
                          replace q34 := eq_true q34
                          have p187 : 0 ≤ (x8_3 : Int) := of_decide_eq_true (by first | (with_reducible assumption) | assumption)
                          have q187 : x8_3 < (x4_1.length : Int) := of_decide_eq_true (by first | (with_reducible assumption) | assumption)
                          obtain ⟨ad187, A187_0, c187_0, e187, hx187_0, hl187_0, hi187_0⟩ := at_T42 (Kd.N_reads' HO_4.out).2.2 x8_3 p187 q187
                          obtain rfl : ad171 = ad187 := (by injection e187)
                          obtain ⟨ce187, hce187, hMe187, hcc187⟩ := Kd.N_get HO_4.out z42 x8_3 p187 (by first | exact q187 | exact of_decide_eq_true (by first | (with_reducible assumption) | assumption) | (have e_ := (Kd.N_reads' HO_4.out).1; omega))
                          obtain ⟨ua187_0, uc187_0, rfl, ul187_0, ge187_0⟩ := k42_openF hMe187
                          have hv187_0 := hcc187 0 _ rfl
                          rw [Nat.add_zero, show (k42).sz = 1 from rfl, Nat.mul_one] at hv187_0
                          replace hv187_0 := Option.some.inj (hv187_0.symm.trans hx187_0)
                          injection hv187_0 with hva_ hvn_ hvc_
                          rw [hva_] at ge187_0
                          rw [hvc_] at ul187_0
                          have HL187_0 := Aside0.mk (show Kd.V (Kd.int .i64) 3 _ w.heap.size _ _ ((rd_T42 x4_1 x8_3).f0) from Kd.V_mk ul187_0 ge187_0)
                          clear hva_ hvn_ hvc_ ge187_0 ul187_0
                          clear hcc187 hce187
                          have HR187_0 := Aside0.mk hi187_0
                          have HC187_0 := Aside0.mk hl187_0
                          clear hi187_0 hl187_0
                          replace p187 := eq_true p187
                          replace q187 := eq_true q187
                          have q35 : ((ji16) : Int) ≤ ((((rd_T42 x4_1 x8_3).f0).length : Int) : Int) := of_decide_eq_true (by first | (with_reducible assumption) | assumption)
                          obtain ⟨i035, hi035, _, hsz35, _⟩ := info_parts info3
                          have hroom35 : ((rd_T42 x4_1 x8_3).f0).length ≤ c187_0 := HC187_0.out
                          have hC35 : Kd.F (Kd.int .i64) _ _ A187_0 ((rd_T42 x4_1 x8_3).f0).length ((rd_T42 x4_1 x8_3).f0) := (Kd.V_at (base := w.heap.size) HL187_0.out).2.2
                          have q035 : (0 : Int) ≤ ((ji16) : Int) := of_decide_eq_true (by first | (with_reducible assumption) | assumption)
                          have hcut35 := cut_from (P := Try.prog) 34 3 .i64 Try.underlying34 hi035 1 hsz35 A187_0 ((rd_T42 x4_1 x8_3).f0).length c187_0 (ji16) q035 q35
                          have hr35 := Kd.F_cut (m := ((ji16) : Int).toNat) (c := c187_0) hC35 (by omega) hroom35
                          obtain ⟨A35, hA35⟩ : ∃ A1, A1 = (if c187_0 = ((ji16) : Int).toNat then A187_0 else (A187_0 : Option Addr).map (·.add (((ji16) : Int).toNat * 1))) := ⟨_, rfl⟩
                          obtain ⟨c35, hc35⟩ : ∃ c1, c1 = c187_0 - ((ji16) : Int).toNat := ⟨_, rfl⟩
                          have hy35 : y188.length = ((rd_T42 x4_1 x8_3).f0).length - ((ji16) : Int).toNat := (by rw [Ny188.out, List.length_drop] <;> omega)
                          rw [show ((rd_T42 x4_1 x8_3).f0).drop ((ji16) : Int).toNat = y188 from Ny188.out.symm] at hr35
                          replace hr35 : Kd.F (Kd.int .i64) _ _ A35 y188.length y188 := (by rw [hA35]; exact hr35)
                          rw [← hy35, ← hA35, ← hc35] at hcut35
                          have HO192 := Aside0.mk (show Kd.V (Kd.int .i64) 3 _ w.heap.size _ (.slice A35 y188.length c35) y188 from Kd.V_mk (by rw [hy35, hc35]; exact Nat.sub_le_sub_right hroom35 _) hr35)
                          have HC192 := Aside0.mk (show y188.length ≤ c35 from by rw [hy35, hc35]; exact Nat.sub_le_sub_right hroom35 _)
                          clear hr35 hC35 hroom35 hi035 hsz35 hc35
                          have KY35 := Aside0.mk hy35
                          have KA35 := Aside0.mk hA35
                          clear hy35 hA35
                          replace q35 := eq_true q35
                          refine start_ (n := 24) (S := fun w' => w'.cell? (ad171.add (x7_2).toNat) = some (.slice A178_0 ((rd_T42 x4_1 x7_2).f0).length c178_0) ∧ w'.cell? (ad171.add (x8_3).toNat) = some (.slice A187_0 ((rd_T42 x4_1 x8_3).f0).length c187_0)) (ds := [23]) #[false, false, false, false, false, false, false, false, false, false, false, false, false, false, false, false, false, false, false, false, false, false, false, false] (by kernel_rfl) rfl rfl ⟨hx178_0, hx187_0⟩ (fun hHeld => ?_); refine with_tabW spec_Uncrossed.tab16 spec_Uncrossed.bits16 (fun HT_ HW_ => ?_)
                          generalize w32.drew = w33 at HO_4 HO_6 HL171_0 HL173_0 HR171_0 HR173_0 HB HL178_0 HL187_0 HO183 HO192 HR178_0 HR187_0 hx178_0 hx187_0 hHeld ⊢
                          refine pu_ 0 62 24 1 ?_ HT_ rfl rfl (by kernel_rfl) (fun _ _ _ h => h) (Or.inl ⟨by rfl, ?_⟩) ?_ ?_ ?_; rotate_left; (·intro w'; go_simp; with_reducible rfl); rotate_left; (·simp only [Act.put, pt_]; rfl)
                          refine pu_ 1 63 24 3 ?_ HT_ rfl rfl (by kernel_rfl) (fun _ _ _ h => h) (Or.inl ⟨by rfl, ?_⟩) ?_ ?_ ?_; rotate_left; (·intro w'; go_simp; with_reducible rfl); rotate_left; (·simp only [Act.put, pt_]; rfl)
                          refine pu_ 3 65 24 11 ?_ HT_ rfl rfl (by kernel_rfl) (fun _ _ _ h => h) (Or.inl ⟨by rfl, ?_⟩) ?_ ?_ ?_; rotate_left; (·intro w'; go_simp; with_reducible rfl); rotate_left; (·simp only [Act.put, pt_]; rfl)
                          refine pu_ 4 66 24 27 ?_ HT_ rfl rfl (by kernel_rfl) (fun _ _ _ h => h) (Or.inl ⟨by rfl, ?_⟩) ?_ ?_ ?_; rotate_left; (·intro w'; go_simp; with_reducible rfl); rotate_left; (·simp only [Act.put, pt_]; rfl)
                          refine pu_ 5 67 24 59 ?_ HT_ rfl rfl (by kernel_rfl) (fun _ _ _ h => h) (Or.inl ⟨by rfl, ?_⟩) ?_ ?_ ?_; rotate_left; (·intro w'; go_simp; with_reducible rfl); rotate_left; (·simp only [Act.put, pt_]; rfl)
                          refine pu_ 6 68 24 123 ?_ HT_ rfl rfl (by kernel_rfl) (fun _ _ _ h => h) (Or.inl ⟨by rfl, ?_⟩) ?_ ?_ ?_; rotate_left; (·intro w'; go_simp; with_reducible rfl); rotate_left; (·simp only [Act.put, pt_]; rfl)
                          refine pu_ 8 70 24 379 ?_ HT_ rfl rfl (by kernel_rfl) (fun _ _ _ h => h) (Or.inl ⟨by rfl, ?_⟩) ?_ ?_ ?_; rotate_left; (·intro w'; go_simp; with_reducible rfl); rotate_left; (·simp only [Act.put, pt_]; rfl)
                          refine pu_ 9 71 24 891 ?_ HT_ rfl rfl (by kernel_rfl) (fun _ _ _ h => h) (Or.inl ⟨by rfl, ?_⟩) ?_ ?_ ?_; rotate_left; (·intro w'; go_simp; with_reducible rfl); rotate_left; (·simp only [Act.put, pt_]; rfl)
                          refine pu_ 12 74 24 4987 ?_ HT_ rfl rfl (by kernel_rfl) (fun _ _ _ h => h) (Or.inl ⟨by rfl, ?_⟩) ?_ ?_ ?_; rotate_left; (·intro w'; go_simp; with_reducible rfl); rotate_left; (·simp only [Act.put, pt_]; rfl)
                          refine pu_ 13 75 24 13179 ?_ HT_ rfl rfl (by kernel_rfl) (fun _ _ _ h => h) (Or.inl ⟨by rfl, ?_⟩) ?_ ?_ ?_; rotate_left; (·intro w'; go_simp; with_reducible rfl); rotate_left; (·simp only [Act.put, pt_]; rfl)
                          refine pu_ 14 76 24 29563 ?_ HT_ rfl rfl (by kernel_rfl) (fun _ _ _ h => h) (Or.inl ⟨by rfl, ?_⟩) ?_ ?_ ?_; rotate_left; (·intro w'; go_simp; with_reducible rfl); rotate_left; (·simp only [Act.put, pt_]; rfl)
                          refine pu_ 15 77 24 62331 ?_ HT_ rfl rfl (by kernel_rfl) (fun _ _ _ h => h) (Or.inl ⟨by rfl, ?_⟩) ?_ ?_ ?_; rotate_left; (·intro w'; go_simp; with_reducible rfl); rotate_left; (·simp only [Act.put, pt_]; rfl)
                          refine pu_ 17 79 24 193403 ?_ HT_ rfl rfl (by kernel_rfl) (fun _ _ _ h => h) (Or.inl ⟨by rfl, ?_⟩) ?_ ?_ ?_; rotate_left; (·intro w'; go_simp; with_reducible rfl); rotate_left; (·simp only [Act.put, pt_]; rfl)
                          refine pu_ 18 80 24 455547 ?_ HT_ rfl rfl (by kernel_rfl) (fun _ _ _ h => h) (Or.inl ⟨by rfl, ?_⟩) ?_ ?_ ?_; rotate_left; (·intro w'; go_simp; with_reducible rfl); rotate_left; (·simp only [Act.put, pt_]; rfl)
                          refine tk_ 7 69 24 455675 ?_ HT_ HW_ rfl rfl (by kernel_rfl) (fun _ _ _ h => h) (Or.inl ⟨by rfl, ?_⟩) hHeld ?_ ?_ ?_; rotate_left; (·rintro w' ⟨s0, s1⟩; go_simp; with_reducible rfl); rotate_left; (·simp only [Act.put, pt_]; rfl)
                          refine pu_ 10 72 24 456699 ?_ HT_ rfl rfl (by kernel_rfl) (fun _ _ _ h => h) (Or.inl ⟨by rfl, ?_⟩) ?_ ?_ ?_; rotate_left; (·intro w'; go_simp; with_reducible rfl); rotate_left; (·simp only [Act.put, pt_]; rfl)
                          refine tk_ 16 78 24 522235 ?_ HT_ HW_ rfl rfl (by kernel_rfl) (fun _ _ _ h => h) (Or.inl ⟨by rfl, ?_⟩) hHeld ?_ ?_ ?_; rotate_left; (·rintro w' ⟨s0, s1⟩; go_simp; with_reducible rfl); rotate_left; (·simp only [Act.put, pt_]; rfl)
                          refine pu_ 19 81 24 1046523 ?_ HT_ rfl rfl (by kernel_rfl) (fun _ _ _ h => h) (Or.inl ⟨by rfl, ?_⟩) ?_ ?_ ?_; rotate_left; (·intro w'; go_simp; with_reducible rfl); rotate_left; (·simp only [Act.put, pt_]; rfl)
                          refine one_ (i := 2) (N := some 64) (bs_ 24 1046527) rfl rfl (one_of HT_.out (by kernel_rfl)) (by decide) (fun K hK => ?_)
                          refine Kd.R_lit_step (Kd.int .i64) _ 3 ?hg (N := 64) ?hd (xs := ([] : List Int)) (inner := []) (ok := fun _ => True) (okp := fun _ => True) ?hr ?hp (fun _ hk => hk) trivial (Below.refl _ _) (Nat.le_refl _) (by simp) ?_; (case hd => rfl); (case hg => rfl); (case hr => first | (go_simp; done) | (go_simp; rfl)); (case hp => exact (Reps.none _ _))
                          intro v176 w36 ho37 hb hg_ hnew_
                          have HS0_ := (hb.cell (World.block_lt_of_cell? _ _ (hHeld.1))).trans (hHeld.1)
                          have HS1_ := (hb.cell (World.block_lt_of_cell? _ _ (hHeld.2))).trans (hHeld.2)
                          clear hg_ hnew_
                          (first | rw [← Ny175.out] at ho37 | (simp only [Int.reduceToNat] at ho37; rw [← Ny175.out] at ho37))
                          have n0_ := Aside0.mk (Kd.N_elder' (uN HO_4.out) (Kd.R_base ho37) hb)
                          have n1_ := Aside0.mk (Kd.N_elder' (uN HO_6.out) (Kd.R_base ho37) hb)
                          have n2_ := Aside0.mk (Kd.V_elder' (by (with_reducible repeat (first | apply Kd.V_alloc | apply Kd.V_drewN | apply Kd.V_drew)); exact HL171_0.out) (Kd.R_base ho37) hb)
                          have n3_ := Aside0.mk (Kd.V_elder' (by (with_reducible repeat (first | apply Kd.V_alloc | apply Kd.V_drewN | apply Kd.V_drew)); exact HL173_0.out) (Kd.R_base ho37) hb)
                          have n4_ := Aside0.mk (Kd.V_elder' (by (with_reducible repeat (first | apply Kd.V_alloc | apply Kd.V_drewN | apply Kd.V_drew)); exact HL178_0.out) (Kd.R_base ho37) hb)
                          have n5_ := Aside0.mk (Kd.V_elder' (by (with_reducible repeat (first | apply Kd.V_alloc | apply Kd.V_drewN | apply Kd.V_drew)); exact HO183.out) (Kd.R_base ho37) hb)
                          have n6_ := Aside0.mk (Kd.V_elder' (by (with_reducible repeat (first | apply Kd.V_alloc | apply Kd.V_drewN | apply Kd.V_drew)); exact HL187_0.out) (Kd.R_base ho37) hb)
                          have n7_ := Aside0.mk (Kd.V_elder' (by (with_reducible repeat (first | apply Kd.V_alloc | apply Kd.V_drewN | apply Kd.V_drew)); exact HO192.out) (Kd.R_base ho37) hb)
                          have n8_ := Aside0.mk (Kd.R_lower (Kd.R_newM (M := fun k_ => (w.heap.size ≤ k_)) ho37 (below_size (uB HB.out)) (fun k_ h_ => h_)) (below_size (uB HB.out)))
                          have n9_ := Aside0.mk (Kd.C_below (by repeat (first | (with_reducible exact HR171_0.out) | (with_reducible refine Kd.C_alloc ?_ _) | (with_reducible refine Kd.C_drewN ?_ _) | (with_reducible refine Kd.C_drew ?_) | exact HR171_0.out)) hb)
                          have n10_ := Aside0.mk (Kd.C_below (by repeat (first | (with_reducible exact HR173_0.out) | (with_reducible refine Kd.C_alloc ?_ _) | (with_reducible refine Kd.C_drewN ?_ _) | (with_reducible refine Kd.C_drew ?_) | exact HR173_0.out)) hb)
                          have n11_ := Aside0.mk (Kd.C_below (by repeat (first | (with_reducible exact HR178_0.out) | (with_reducible refine Kd.C_alloc ?_ _) | (with_reducible refine Kd.C_drewN ?_ _) | (with_reducible refine Kd.C_drew ?_) | exact HR178_0.out)) hb)
                          have n12_ := Aside0.mk (Kd.C_below (by repeat (first | (with_reducible exact HR187_0.out) | (with_reducible refine Kd.C_alloc ?_ _) | (with_reducible refine Kd.C_drewN ?_ _) | (with_reducible refine Kd.C_drew ?_) | exact HR187_0.out)) hb)
                          have n13_ := Aside0.mk (below_step (uB HB.out) hb)
                          clear HO_4
                          clear HO_6
                          clear HL171_0
                          clear HL173_0
                          clear HL178_0
                          clear HO183
                          clear HL187_0
                          clear HO192
                          clear HR171_0
                          clear HR173_0
                          clear HR178_0
                          clear HR187_0
                          clear HB
                          have HO_4 := n0_
                          have HO_6 := n1_
                          have HL171_0 := n2_
                          have HL173_0 := n3_
                          have HL178_0 := n4_
                          have HO183 := n5_
                          have HL187_0 := n6_
                          have HO192 := n7_
                          have HO177 := n8_
                          have HR171_0 := n9_
                          have HR173_0 := n10_
                          have HR178_0 := n11_
                          have HR187_0 := n12_
                          have HB := n13_
                          clear n0_ n1_ n2_ n3_ n4_ n5_ n6_ n7_ n8_ n9_ n10_ n11_ n12_ n13_
                          clear hb ho37
                          refine hK.out _ _ ⟨HS0_, HS1_⟩ (fun hHeld => ?_)
                          clear hK K
                          refine norm_ (a' := ?_) ?_ ?_
                          rotate_left
                          ·show Act.put _ (some 64) _ = _
                           simp only [Act.put, pt_]
                           rfl
                          refine one_ (i := 11) (N := some 73) (bs_ 24 1048575) rfl rfl (one_of HT_.out (by kernel_rfl)) (by decide) (fun K hK => ?_)
                          refine Kd.R_append_rows_step (Kd.int .i64) (w0 := w) w.heap.size (by rfl) (.tmp 64) (.tmp 72) 34 3 (.int .i64 0) 8 rfl Try.underlying34 info3 rfl (by decide) (by omega) v176 y175 y179 _ _ _ (fun k_ => (w.heap.size ≤ k_)) (fun _ => False) rfl rfl ?aO ?aR (fun _ _ h => h) (fun _ h => h.elim) ?aF ?aB ?aS ?aL ?_
                          (case aR => repeat (first | exact (Kd.V_reads' HO183.out).2.2 | (with_reducible refine Kd.C_alloc ?_ _) | (with_reducible refine Kd.C_drewN ?_ _) | (with_reducible refine Kd.C_drew ?_)))
                          (case aB => exact (uB HB.out))
                          (case aF => exact (fun k_ hk => (Nat.le_trans (below_size (uB HB.out)) hk)))
                          (case aO => exact (uR (Kd.R_mono HO177.out (fun _ hk => hk.1))))
                          (case aS => exact (below_size (uB HB.out)))
                          (case aL => have := LMc26.out; omega)
                          intro v185 w38 ho hb hg hat
                          have HS0_ := grown_off hg (uR HO177.out) (Kd.N_typed (uN HO_4.out)) (by decide) (hHeld.1) (by first | rfl | (rw [add_block]))
                          have HS1_ := grown_off hg (uR HO177.out) (Kd.N_typed (uN HO_4.out)) (by decide) (hHeld.2) (by first | rfl | (rw [add_block]))
                          rw [← Ny184.out] at ho
                          have n0_ := Aside0.mk (Kd.N_afterv (ok := (fun k_ => (w.heap.size ≤ k_) ∧ some k_ ≠ (v168 : Value).ownBlock)) (uN HO_4.out) hg hat)
                          have n1_ := Aside0.mk (Kd.N_afterv (ok := (fun k_ => (w.heap.size ≤ k_) ∧ some k_ ≠ (.slice (some ad171) x4_1.length co9 : Value).ownBlock)) (uN HO_6.out) hg hat)
                          have n2_ := Aside0.mk (Kd.V_afterv (ok := (fun k_ => (w.heap.size ≤ k_) ∧ some k_ ≠ (.slice (some ad171) x4_1.length co9 : Value).ownBlock ∧ some k_ ≠ (v168 : Value).ownBlock)) (by (with_reducible repeat (first | apply Kd.V_alloc | apply Kd.V_drewN | apply Kd.V_drew)); exact Kd.V_mono HL171_0.out (fun _ hk => ⟨⟨hk.1.1.1, ⟨hk.1.2, hk.1.1.2⟩⟩, hk.2⟩)) hg hat)
                          have n3_ := Aside0.mk (Kd.V_afterv (ok := (fun k_ => (w.heap.size ≤ k_) ∧ some k_ ≠ (.slice (some ad171) x4_1.length co9 : Value).ownBlock ∧ some k_ ≠ (v168 : Value).ownBlock)) (by (with_reducible repeat (first | apply Kd.V_alloc | apply Kd.V_drewN | apply Kd.V_drew)); exact Kd.V_mono HL173_0.out (fun _ hk => ⟨⟨hk.1.1.1, ⟨hk.1.2, hk.1.1.2⟩⟩, hk.2⟩)) hg hat)
                          have n4_ := Aside0.mk (Kd.V_afterv (ok := (fun k_ => (w.heap.size ≤ k_) ∧ some k_ ≠ (.slice (some ad171) x4_1.length co9 : Value).ownBlock ∧ some k_ ≠ (v168 : Value).ownBlock)) (by (with_reducible repeat (first | apply Kd.V_alloc | apply Kd.V_drewN | apply Kd.V_drew)); exact Kd.V_mono HL178_0.out (fun _ hk => ⟨⟨hk.1.1.1, ⟨hk.1.2, hk.1.1.2⟩⟩, hk.2⟩)) hg hat)
                          have n5_ := Aside0.mk (Kd.V_afterv (ok := (fun k_ => (w.heap.size ≤ k_) ∧ some k_ ≠ (.slice (some ad171) x4_1.length co9 : Value).ownBlock ∧ some k_ ≠ (v168 : Value).ownBlock)) (by (with_reducible repeat (first | apply Kd.V_alloc | apply Kd.V_drewN | apply Kd.V_drew)); exact Kd.V_mono HO183.out (fun _ hk => ⟨⟨hk.1.1.1, ⟨hk.1.2, hk.1.1.2⟩⟩, hk.2⟩)) hg hat)
                          have n6_ := Aside0.mk (Kd.V_afterv (ok := (fun k_ => (w.heap.size ≤ k_) ∧ some k_ ≠ (.slice (some ad171) x4_1.length co9 : Value).ownBlock ∧ some k_ ≠ (v168 : Value).ownBlock)) (by (with_reducible repeat (first | apply Kd.V_alloc | apply Kd.V_drewN | apply Kd.V_drew)); exact Kd.V_mono HL187_0.out (fun _ hk => ⟨⟨hk.1.1.1, ⟨hk.1.2, hk.1.1.2⟩⟩, hk.2⟩)) hg hat)
                          have n7_ := Aside0.mk (Kd.V_afterv (ok := (fun k_ => (w.heap.size ≤ k_) ∧ some k_ ≠ (.slice (some ad171) x4_1.length co9 : Value).ownBlock ∧ some k_ ≠ (v168 : Value).ownBlock)) (by (with_reducible repeat (first | apply Kd.V_alloc | apply Kd.V_drewN | apply Kd.V_drew)); exact Kd.V_mono HO192.out (fun _ hk => ⟨⟨hk.1.1.1, ⟨hk.1.2, hk.1.1.2⟩⟩, hk.2⟩)) hg hat)
                          have n8_ := Aside0.mk (hb)
                          have n9_ := Aside0.mk (ho)
                          clear HO_4
                          clear HO_6
                          clear HL171_0
                          clear HL173_0
                          clear HL178_0
                          clear HO183
                          clear HL187_0
                          clear HO192
                          clear HB
                          clear HO177
                          have HO_4 := n0_
                          have HO_6 := n1_
                          have HL171_0 := n2_
                          have HL173_0 := n3_
                          have HL178_0 := n4_
                          have HO183 := n5_
                          have HL187_0 := n6_
                          have HO192 := n7_
                          have HB := n8_
                          have HO186 := n9_
                          clear n0_ n1_ n2_ n3_ n4_ n5_ n6_ n7_ n8_ n9_
                          clear ho hb hg hat
                          refine hK.out _ _ ⟨HS0_, HS1_⟩ (fun hHeld => ?_)
                          clear hK K
                          refine norm_ (a' := ?_) ?_ ?_
                          rotate_left
                          ·show Act.put _ (some 73) _ = _
                           simp only [Act.put, pt_]
                           rfl
                          refine one_ (i := 20) (N := some 82) (bs_ 24 2097151) rfl rfl (one_of HT_.out (by kernel_rfl)) (by decide) (fun K hK => ?_)
                          refine Kd.R_append_rows_step (Kd.int .i64) (w0 := w) w.heap.size (by rfl) (.tmp 73) (.tmp 81) 34 3 (.int .i64 0) 8 rfl Try.underlying34 info3 rfl (by decide) (by omega) v185 y184 y188 _ _ _ (fun k_ => (w.heap.size ≤ k_)) (fun _ => False) rfl rfl ?aO ?aR (fun _ _ h => h) (fun _ h => h.elim) ?aF ?aB ?aS ?aL ?_
                          (case aR => repeat (first | exact (Kd.V_reads' HO192.out).2.2 | (with_reducible refine Kd.C_alloc ?_ _) | (with_reducible refine Kd.C_drewN ?_ _) | (with_reducible refine Kd.C_drew ?_)))
                          (case aB => exact (uB HB.out))
                          (case aF => exact (fun k_ hk => (Nat.le_trans (below_size (uB HB.out)) hk)))
                          (case aO => exact (uR HO186.out))
                          (case aS => exact (below_size (uB HB.out)))
                          (case aL => have := LMc29.out; omega)
                          intro v194 w39 ho hb hg hat
                          have HS0_ := grown_off hg (uR HO186.out) (Kd.N_typed (uN HO_4.out)) (by decide) (hHeld.1) (by first | rfl | (rw [add_block]))
                          have HS1_ := grown_off hg (uR HO186.out) (Kd.N_typed (uN HO_4.out)) (by decide) (hHeld.2) (by first | rfl | (rw [add_block]))
                          rw [← Ny193.out] at ho
                          have n0_ := Aside0.mk (Kd.N_afterv (ok := (fun k_ => (w.heap.size ≤ k_) ∧ some k_ ≠ (v168 : Value).ownBlock)) (uN HO_4.out) hg hat)
                          have n1_ := Aside0.mk (Kd.N_afterv (ok := (fun k_ => (w.heap.size ≤ k_) ∧ some k_ ≠ (.slice (some ad171) x4_1.length co9 : Value).ownBlock)) (uN HO_6.out) hg hat)
                          have n2_ := Aside0.mk (Kd.V_afterv (ok := (fun k_ => (w.heap.size ≤ k_) ∧ some k_ ≠ (.slice (some ad171) x4_1.length co9 : Value).ownBlock ∧ some k_ ≠ (v168 : Value).ownBlock)) (by (with_reducible repeat (first | apply Kd.V_alloc | apply Kd.V_drewN | apply Kd.V_drew)); exact HL171_0.out) hg hat)
                          have n3_ := Aside0.mk (Kd.V_afterv (ok := (fun k_ => (w.heap.size ≤ k_) ∧ some k_ ≠ (.slice (some ad171) x4_1.length co9 : Value).ownBlock ∧ some k_ ≠ (v168 : Value).ownBlock)) (by (with_reducible repeat (first | apply Kd.V_alloc | apply Kd.V_drewN | apply Kd.V_drew)); exact HL173_0.out) hg hat)
                          have n4_ := Aside0.mk (Kd.V_afterv (ok := (fun k_ => (w.heap.size ≤ k_) ∧ some k_ ≠ (.slice (some ad171) x4_1.length co9 : Value).ownBlock ∧ some k_ ≠ (v168 : Value).ownBlock)) (by (with_reducible repeat (first | apply Kd.V_alloc | apply Kd.V_drewN | apply Kd.V_drew)); exact HL178_0.out) hg hat)
                          have n5_ := Aside0.mk (Kd.V_afterv (ok := (fun k_ => (w.heap.size ≤ k_) ∧ some k_ ≠ (.slice (some ad171) x4_1.length co9 : Value).ownBlock ∧ some k_ ≠ (v168 : Value).ownBlock)) (by (with_reducible repeat (first | apply Kd.V_alloc | apply Kd.V_drewN | apply Kd.V_drew)); exact HO183.out) hg hat)
                          have n6_ := Aside0.mk (Kd.V_afterv (ok := (fun k_ => (w.heap.size ≤ k_) ∧ some k_ ≠ (.slice (some ad171) x4_1.length co9 : Value).ownBlock ∧ some k_ ≠ (v168 : Value).ownBlock)) (by (with_reducible repeat (first | apply Kd.V_alloc | apply Kd.V_drewN | apply Kd.V_drew)); exact HL187_0.out) hg hat)
                          have n7_ := Aside0.mk (Kd.V_afterv (ok := (fun k_ => (w.heap.size ≤ k_) ∧ some k_ ≠ (.slice (some ad171) x4_1.length co9 : Value).ownBlock ∧ some k_ ≠ (v168 : Value).ownBlock)) (by (with_reducible repeat (first | apply Kd.V_alloc | apply Kd.V_drewN | apply Kd.V_drew)); exact HO192.out) hg hat)
                          have n8_ := Aside0.mk (hb)
                          have n9_ := Aside0.mk (ho)
                          clear HO_4
                          clear HO_6
                          clear HL171_0
                          clear HL173_0
                          clear HL178_0
                          clear HO183
                          clear HL187_0
                          clear HO192
                          clear HB
                          clear HO186
                          have HO_4 := n0_
                          have HO_6 := n1_
                          have HL171_0 := n2_
                          have HL173_0 := n3_
                          have HL178_0 := n4_
                          have HO183 := n5_
                          have HL187_0 := n6_
                          have HO192 := n7_
                          have HB := n8_
                          have HO195 := n9_
                          clear n0_ n1_ n2_ n3_ n4_ n5_ n6_ n7_ n8_ n9_
                          clear ho hb hg hat
                          obtain ⟨Ao194, co194, eo194⟩ := Kd.R_slice HO195.out
                          subst eo194
                          have p31 : 0 ≤ (x7_2 : Int) := of_decide_eq_true (by first | (with_reducible assumption) | assumption)
                          have q31 : (x7_2 : Int) < ((x6_3.length : Int) : Int) := of_decide_eq_true (by first | (with_reducible assumption) | assumption)
                          obtain ⟨go31, co31, eo31, gb31, gl31, cl31, HG31⟩ := Kd.N_form HO_6.out (by omega)
                          (first | cases eo31 | (injection eo31 with ea_ en_ ec_; (first | subst ea_ | (injection ea_ with ea_; subst ea_)); subst ec_; clear en_))
                          have GB31 := Aside0.mk gb31
                          have GG31 := Aside0.mk HG31
                          clear gb31 gl31 HG31
                          obtain ⟨ce31, hcl31, hM31, hcc31, hfr31⟩ := Kd.N_elem HO_6.out z42 (x7_2 : Int) p31 q31
                          obtain ⟨ua31_0, uc31_0, rfl, ul31_0, ge31_0⟩ := k42_openF hM31
                          have hx31_0 := hcc31 0 _ rfl
                          have hf31_0 := hfr31 0
                          (try simp only [show (k42).sz = 1 from rfl, Nat.mul_one, Nat.add_zero] at hx31_0)
                          (try simp only [show (k42).sz = 1 from rfl, Nat.mul_one, Nat.add_zero] at hf31_0)
                          clear hcl31 hcc31 hfr31 hM31
                          replace p31 := eq_true p31
                          replace q31 := eq_true q31
                          have HX40 := Aside0.mk (show Kd.N k42 42 _ w.heap.size (fun k_ => (w.heap.size ≤ k_) ∧ some k_ ≠ (.slice (some ad171) x4_1.length co9 : Value).ownBlock ∧ some k_ ≠ ((.slice Ao194 y193.length co194) : Value).ownBlock) (.slice (some ⟨go31, 0, none⟩) x6_3.length co31) x6_3 from (Kd.N_mono (HO_6.out) (fun k_ hk => ⟨hk.1.1, ⟨hk.1.2, hk.2⟩⟩)))
                          replace HX40 := Aside0.mk (show Kd.N k42 42 _ w.heap.size (fun k_ => (w.heap.size ≤ k_) ∧ some k_ ≠ (.slice (some ad171) x4_1.length co9 : Value).ownBlock) (.slice (some ⟨go31, 0, none⟩) x6_3.length co31) x6_3 from Kd.N_mono HX40.out (fun k_ hk => ⟨hk.1, hk.2.1⟩))
                          obtain ⟨ce40, hcl40, hM40, hcc40, hfr40⟩ := Kd.N_elem HX40.out z42 (x7_2 : Int) (of_decide_eq_true (by first | (with_reducible assumption) | assumption)) (by have h_ : (x7_2 : Int) < ((x6_3.length : Int) : Int) := of_decide_eq_true (by first | (with_reducible assumption) | assumption); first | exact h_ | (have e_ := (Kd.N_reads' HO_6.out).1; omega) | simpa using h_)
                          obtain ⟨ua40_0, uc40_0, rfl, ul40_0, ge40_0⟩ := k42_openF hM40
                          have HP40 := (Kd.N_seg HX40.out (x7_2 : Int) (of_decide_eq_true (by first | (with_reducible assumption) | assumption)) (by have h_ : (x7_2 : Int) < ((x6_3.length : Int) : Int) := of_decide_eq_true (by first | (with_reducible assumption) | assumption); first | exact h_ | (have e_ := (Kd.N_reads' HO_6.out).1; omega) | simpa using h_) (seg := [(.slice Ao194 y193.length co194)]) (j := 0) hcl40 hcc40 (show 1 ≤ 1 from by decide) (x' := (⟨y193⟩ : S42)) (k42_mkF _ _ (⟨y193⟩ : S42) (Kd.R_reads' (Kd.R_mono (ok' := (fun k_ => ((fun k_ => (w.heap.size ≤ k_) ∧ some k_ ≠ (.slice (some ad171) x4_1.length co9 : Value).ownBlock)) k_ ∧ k_ ≠ go31)) (Kd.R_apart' (Kd.R_apart' (HO195.out) (Kd.N_typed HO_4.out) (by decide)) (Kd.N_typed HO_6.out) (by decide)) (fun k_ hk => ⟨⟨hk.1.1, hk.1.2⟩, fun e_ => (hk.2) (by rw [e_]; rfl)⟩))).2.1 (Kd.R_F (Kd.R_mono (ok' := (fun k_ => ((fun k_ => (w.heap.size ≤ k_) ∧ some k_ ≠ (.slice (some ad171) x4_1.length co9 : Value).ownBlock)) k_ ∧ k_ ≠ go31)) (Kd.R_apart' (Kd.R_apart' (HO195.out) (Kd.N_typed HO_4.out) (by decide)) (Kd.N_typed HO_6.out) (by decide)) (fun k_ hk => ⟨⟨hk.1.1, hk.1.2⟩, fun e_ => (hk.2) (by rw [e_]; rfl)⟩)))) (fun _ hk => hk)).1
                          (try simp only [show (k42).sz = 1 from rfl, Nat.mul_one, Nat.add_zero] at HP40)
                          rw [← Ny196.out] at HP40
                          have HQ40 := Aside0.mk HP40
                          clear hcl40 hcc40 hfr40 hM40 HP40
                          refine hK.out _ _ ⟨HS0_, HS1_⟩ (fun hHeld => ?_)
                          clear hK K
                          refine norm_ (a' := ?_) ?_ ?_
                          rotate_left
                          ·show Act.put _ (some 82) _ = _
                           simp only [Act.put, pt_]
                           rfl
                          refine pu_ 21 83 24 4194303 ?_ HT_ rfl rfl (by kernel_rfl) (fun _ _ _ h => h) (Or.inl ⟨by rfl, ?_⟩) ?_ ?_ ?_; rotate_left; (·intro w'; go_simp; with_reducible rfl); rotate_left; (·simp only [Act.put, pt_]; rfl)
                          refine pu_ 22 84 24 8388607 ?_ HT_ rfl rfl (by kernel_rfl) (fun _ _ _ h => h) (Or.inl ⟨by rfl, ?_⟩) ?_ ?_ ?_; rotate_left; (·intro w'; go_simp; with_reducible rfl); rotate_left; (·simp only [Act.put, pt_]; rfl)
                          refine last_ (i := 23) (N := none) (bs_ 24 16777215) rfl rfl (one_of HT_.out (by kernel_rfl)) (by decide) (fun K hK => ?_)
                          refine skip_ (w1 := ?_) (by rfl) rfl ?_ ?_
                          rotate_left
                          ·go_simp
                           rfl
                          refine hK.out _ _ ?_
                          clear hK K
                          refine done_ (done_of HT_.out (by kernel_rfl)) ?_
                          try go_wp2
                          (first | go_roundg k3 | (subst hji16; go_roundg k3) | (simp only [add_plain] at *; go_roundg k3))
                          case measure => have := HK1.out; have := HK2.out; have := HK3.out; omega
                          case rel => exact ⟨(y196), (wrap64 (x8_3 + 1)), (by first | rfl | (simp; done) | (simp [*]; done)), H', ⟨by have := HK1.out; have := HK2.out; have := HK3.out; omega⟩, ⟨by (with_reducible repeat (first | apply Kd.N_alloc | apply Kd.N_drewN | apply Kd.N_drew)); exact Kd.N_mono (Kd.N_far (p := ⟨go31, (x7_2 : Int).toNat, none⟩) (Kd.N_mono HO_4.out (fun k_ hk => (⟨hk, fun e_ => hk.1.2 (by rw [e_]; rfl)⟩ : _ ∧ k_ ≠ go31))) (fun _ hk => hk.2) ((.slice Ao194 y193.length co194))) (fun _ hk => ⟨hk.1.1.1, hk.1.1.2⟩)⟩, ⟨by (with_reducible repeat (first | apply Kd.N_alloc | apply Kd.N_drewN | apply Kd.N_drew)); exact HQ40.out⟩, ⟨by repeat (first | (with_reducible first | exact HB.out | apply below_alloc | apply pw_below_drewN | apply below_drew1 | refine below_set ?_ GB31.out) | exact HB.out)⟩⟩
                         ·rw [if_neg c30] at H
                          exact absurd H (by simp)
                        ·rw [if_neg c29] at H
                         exact absurd H (by simp)
                       ·rw [if_neg c28] at H
                        exact absurd H (by simp)
                      ·rw [if_neg c26] at H
                       exact absurd H (by simp)
                     ·rw [if_neg c25] at H
                      exact absurd H (by simp)
                    ·rw [if_neg c23] at H
                     have c23b0 : ((rd ((rd_T42 x4_1 x8_3).f0) (ji16)) == (rd ((rd_T42 x4_1 x7_2).f0) x5_1)) = false := beq_eq_false_iff_ne.mpr c23
                     have c23b1 : ((rd ((rd_T42 x4_1 x8_3).f0) (ji16)) != (rd ((rd_T42 x4_1 x7_2).f0) x5_1)) = true := bne_iff_ne.mpr c23
                     have H' := Aside0.mk H
                     clear H
                     try go_wp2
                     have n0_ := Aside0.mk (Kd.N_drew HO_4.out)
                     have n1_ := Aside0.mk (Kd.N_drew HO_6.out)
                     have n2_ := Aside0.mk (below_drew1 HB.out)
                     clear HO_4
                     clear HO_6
                     clear HB
                     have HO_4 := n0_
                     have HO_6 := n1_
                     have HB := n2_
                     clear n0_ n1_ n2_
                     have p171 : 0 ≤ (x8_3 : Int) := of_decide_eq_true (by first | (with_reducible assumption) | assumption)
                     have q171 : x8_3 < (x4_1.length : Int) := of_decide_eq_true (by first | (with_reducible assumption) | assumption)
                     obtain ⟨ad171, A171_0, c171_0, e171, hx171_0, hl171_0, hi171_0⟩ := at_T42 (Kd.N_reads' HO_4.out).2.2 x8_3 p171 q171
                     cases e171
                     obtain ⟨ce171, hce171, hMe171, hcc171⟩ := Kd.N_get HO_4.out z42 x8_3 p171 (by first | exact q171 | exact of_decide_eq_true (by first | (with_reducible assumption) | assumption) | (have e_ := (Kd.N_reads' HO_4.out).1; omega))
                     obtain ⟨ua171_0, uc171_0, rfl, ul171_0, ge171_0⟩ := k42_openF hMe171
                     have hv171_0 := hcc171 0 _ rfl
                     rw [Nat.add_zero, show (k42).sz = 1 from rfl, Nat.mul_one] at hv171_0
                     replace hv171_0 := Option.some.inj (hv171_0.symm.trans hx171_0)
                     injection hv171_0 with hva_ hvn_ hvc_
                     rw [hva_] at ge171_0
                     rw [hvc_] at ul171_0
                     have HL171_0 := Aside0.mk (show Kd.V (Kd.int .i64) 3 _ w.heap.size _ _ ((rd_T42 x4_1 x8_3).f0) from Kd.V_mk ul171_0 ge171_0)
                     clear hva_ hvn_ hvc_ ge171_0 ul171_0
                     clear hcc171 hce171
                     have HR171_0 := Aside0.mk hi171_0
                     have HC171_0 := Aside0.mk hl171_0
                     clear hi171_0 hl171_0
                     replace p171 := eq_true p171
                     replace q171 := eq_true q171
                     have p172 : 0 ≤ ((ji16) : Int) := of_decide_eq_true (by first | (with_reducible assumption) | assumption)
                     have q172 : (ji16) < (((rd_T42 x4_1 x8_3).f0).length : Int) := of_decide_eq_true (by first | (with_reducible assumption) | assumption)
                     obtain ⟨ad172, e172, hx172_0⟩ := Kd.at_int (by repeat (first | (with_reducible exact HR171_0.out) | (with_reducible refine Kd.C_alloc ?_ _) | (with_reducible refine Kd.C_drewN ?_ _) | (with_reducible refine Kd.C_drew ?_) | exact HR171_0.out)) (ji16) p172 q172
                     cases e172
                     replace p172 := eq_true p172
                     replace q172 := eq_true q172
                     have p173 : 0 ≤ (x7_2 : Int) := of_decide_eq_true (by first | (with_reducible assumption) | assumption)
                     have q173 : x7_2 < (x4_1.length : Int) := of_decide_eq_true (by first | (with_reducible assumption) | assumption)
                     obtain ⟨ad173, A173_0, c173_0, e173, hx173_0, hl173_0, hi173_0⟩ := at_T42 (Kd.N_reads' HO_4.out).2.2 x7_2 p173 q173
                     obtain rfl : ad171 = ad173 := (by injection e173)
                     obtain ⟨ce173, hce173, hMe173, hcc173⟩ := Kd.N_get HO_4.out z42 x7_2 p173 (by first | exact q173 | exact of_decide_eq_true (by first | (with_reducible assumption) | assumption) | (have e_ := (Kd.N_reads' HO_4.out).1; omega))
                     obtain ⟨ua173_0, uc173_0, rfl, ul173_0, ge173_0⟩ := k42_openF hMe173
                     have hv173_0 := hcc173 0 _ rfl
                     rw [Nat.add_zero, show (k42).sz = 1 from rfl, Nat.mul_one] at hv173_0
                     replace hv173_0 := Option.some.inj (hv173_0.symm.trans hx173_0)
                     injection hv173_0 with hva_ hvn_ hvc_
                     rw [hva_] at ge173_0
                     rw [hvc_] at ul173_0
                     have HL173_0 := Aside0.mk (show Kd.V (Kd.int .i64) 3 _ w.heap.size _ _ ((rd_T42 x4_1 x7_2).f0) from Kd.V_mk ul173_0 ge173_0)
                     clear hva_ hvn_ hvc_ ge173_0 ul173_0
                     clear hcc173 hce173
                     have HR173_0 := Aside0.mk hi173_0
                     have HC173_0 := Aside0.mk hl173_0
                     clear hi173_0 hl173_0
                     replace p173 := eq_true p173
                     replace q173 := eq_true q173
                     have p174 : 0 ≤ (x5_1 : Int) := of_decide_eq_true (by first | (with_reducible assumption) | assumption)
                     have q174 : x5_1 < (((rd_T42 x4_1 x7_2).f0).length : Int) := of_decide_eq_true (by first | (with_reducible assumption) | assumption)
                     obtain ⟨ad174, e174, hx174_0⟩ := Kd.at_int (by repeat (first | (with_reducible exact HR173_0.out) | (with_reducible refine Kd.C_alloc ?_ _) | (with_reducible refine Kd.C_drewN ?_ _) | (with_reducible refine Kd.C_drew ?_) | exact HR173_0.out)) x5_1 p174 q174
                     cases e174
                     replace p174 := eq_true p174
                     replace q174 := eq_true q174
                     refine start_ (n := 18) (S := fun w' => w'.cell? (ad171.add (x8_3).toNat) = some (.slice (some ad172) ((rd_T42 x4_1 x8_3).f0).length c171_0) ∧ w'.cell? (ad172.add ((ji16)).toNat) = some (.int .i64 (rd ((rd_T42 x4_1 x8_3).f0) (ji16))) ∧ w'.cell? (ad171.add (x7_2).toNat) = some (.slice (some ad174) ((rd_T42 x4_1 x7_2).f0).length c173_0) ∧ w'.cell? (ad174.add (x5_1).toNat) = some (.int .i64 (rd ((rd_T42 x4_1 x7_2).f0) x5_1))) (ds := []) #[false, false, false, false, false, false, false, false, false, false, false, false, false, false, false, false, false, false] (by kernel_rfl) rfl rfl ⟨hx171_0, hx172_0, hx173_0, hx174_0⟩ (fun hHeld => ?_); refine with_tabW spec_Uncrossed.tab15 spec_Uncrossed.bits15 (fun HT_ HW_ => ?_)
                     generalize wr.drew = w41 at HO_4 HO_6 HB HL171_0 HL173_0 HR171_0 HR173_0 hx171_0 hx172_0 hx173_0 hx174_0 hHeld ⊢
                     refine pu_ 0 44 18 1 ?_ HT_ rfl rfl (by kernel_rfl) (fun _ _ _ h => h) (Or.inl ⟨by rfl, ?_⟩) ?_ ?_ ?_; rotate_left; (·intro w'; go_simp; with_reducible rfl); rotate_left; (·simp only [Act.put, pt_]; rfl)
                     refine pu_ 1 45 18 3 ?_ HT_ rfl rfl (by kernel_rfl) (fun _ _ _ h => h) (Or.inl ⟨by rfl, ?_⟩) ?_ ?_ ?_; rotate_left; (·intro w'; go_simp; with_reducible rfl); rotate_left; (·simp only [Act.put, pt_]; rfl)
                     refine pu_ 2 46 18 7 ?_ HT_ rfl rfl (by kernel_rfl) (fun _ _ _ h => h) (Or.inl ⟨by rfl, ?_⟩) ?_ ?_ ?_; rotate_left; (·intro w'; go_simp; with_reducible rfl); rotate_left; (·simp only [Act.put, pt_]; rfl)
                     refine pu_ 3 47 18 15 ?_ HT_ rfl rfl (by kernel_rfl) (fun _ _ _ h => h) (Or.inl ⟨by rfl, ?_⟩) ?_ ?_ ?_; rotate_left; (·intro w'; go_simp; with_reducible rfl); rotate_left; (·simp only [Act.put, pt_]; rfl)
                     refine pu_ 5 49 18 47 ?_ HT_ rfl rfl (by kernel_rfl) (fun _ _ _ h => h) (Or.inl ⟨by rfl, ?_⟩) ?_ ?_ ?_; rotate_left; (·intro w'; go_simp; with_reducible rfl); rotate_left; (·simp only [Act.put, pt_]; rfl)
                     refine pu_ 6 50 18 111 ?_ HT_ rfl rfl (by kernel_rfl) (fun _ _ _ h => h) (Or.inl ⟨by rfl, ?_⟩) ?_ ?_ ?_; rotate_left; (·intro w'; go_simp; with_reducible rfl); rotate_left; (·simp only [Act.put, pt_]; rfl)
                     refine pu_ 9 53 18 623 ?_ HT_ rfl rfl (by kernel_rfl) (fun _ _ _ h => h) (Or.inl ⟨by rfl, ?_⟩) ?_ ?_ ?_; rotate_left; (·intro w'; go_simp; with_reducible rfl); rotate_left; (·simp only [Act.put, pt_]; rfl)
                     refine pu_ 10 54 18 1647 ?_ HT_ rfl rfl (by kernel_rfl) (fun _ _ _ h => h) (Or.inl ⟨by rfl, ?_⟩) ?_ ?_ ?_; rotate_left; (·intro w'; go_simp; with_reducible rfl); rotate_left; (·simp only [Act.put, pt_]; rfl)
                     refine pu_ 11 55 18 3695 ?_ HT_ rfl rfl (by kernel_rfl) (fun _ _ _ h => h) (Or.inl ⟨by rfl, ?_⟩) ?_ ?_ ?_; rotate_left; (·intro w'; go_simp; with_reducible rfl); rotate_left; (·simp only [Act.put, pt_]; rfl)
                     refine pu_ 12 56 18 7791 ?_ HT_ rfl rfl (by kernel_rfl) (fun _ _ _ h => h) (Or.inl ⟨by rfl, ?_⟩) ?_ ?_ ?_; rotate_left; (·intro w'; go_simp; with_reducible rfl); rotate_left; (·simp only [Act.put, pt_]; rfl)
                     refine pu_ 14 58 18 24175 ?_ HT_ rfl rfl (by kernel_rfl) (fun _ _ _ h => h) (Or.inl ⟨by rfl, ?_⟩) ?_ ?_ ?_; rotate_left; (·intro w'; go_simp; with_reducible rfl); rotate_left; (·simp only [Act.put, pt_]; rfl)
                     refine tk_ 4 48 18 24191 ?_ HT_ HW_ rfl rfl (by kernel_rfl) (fun _ _ _ h => h) (Or.inl ⟨by rfl, ?_⟩) hHeld ?_ ?_ ?_; rotate_left; (·rintro w' ⟨s0, s1, s2, s3⟩; go_simp; with_reducible rfl); rotate_left; (·simp only [Act.put, pt_]; rfl)
                     refine pu_ 7 51 18 24319 ?_ HT_ rfl rfl (by kernel_rfl) (fun _ _ _ h => h) (Or.inl ⟨by rfl, ?_⟩) ?_ ?_ ?_; rotate_left; (·intro w'; go_simp; with_reducible rfl); rotate_left; (·simp only [Act.put, pt_]; rfl)
                     refine tk_ 8 52 18 24575 ?_ HT_ HW_ rfl rfl (by kernel_rfl) (fun _ _ _ h => h) (Or.inl ⟨by rfl, ?_⟩) hHeld ?_ ?_ ?_; rotate_left; (·rintro w' ⟨s0, s1, s2, s3⟩; go_simp; with_reducible rfl); rotate_left; (·simp only [Act.put, pt_]; rfl)
                     refine tk_ 13 57 18 32767 ?_ HT_ HW_ rfl rfl (by kernel_rfl) (fun _ _ _ h => h) (Or.inl ⟨by rfl, ?_⟩) hHeld ?_ ?_ ?_; rotate_left; (·rintro w' ⟨s0, s1, s2, s3⟩; go_simp; with_reducible rfl); rotate_left; (·simp only [Act.put, pt_]; rfl)
                     refine pu_ 15 59 18 65535 ?_ HT_ rfl rfl (by kernel_rfl) (fun _ _ _ h => h) (Or.inl ⟨by rfl, ?_⟩) ?_ ?_ ?_; rotate_left; (·intro w'; go_simp; with_reducible rfl); rotate_left; (·simp only [Act.put, pt_]; rfl)
                     refine tk_ 16 60 18 131071 ?_ HT_ HW_ rfl rfl (by kernel_rfl) (fun _ _ _ h => h) (Or.inl ⟨by rfl, ?_⟩) hHeld ?_ ?_ ?_; rotate_left; (·rintro w' ⟨s0, s1, s2, s3⟩; go_simp; with_reducible rfl); rotate_left; (·simp only [Act.put, pt_]; rfl)
                     refine pu_ 17 61 18 262143 ?_ HT_ rfl rfl (by kernel_rfl) (fun _ _ _ h => h) (Or.inl ⟨by rfl, ?_⟩) ?_ ?_ ?_; rotate_left; (·intro w'; go_simp; with_reducible rfl); rotate_left; (·simp only [Act.put, pt_]; rfl)
                     refine done_ (done_of HT_.out (by kernel_rfl)) ?_
                     try go_wp2
                     (first | go_roundg k3 | (subst hji16; go_roundg k3) | (simp only [add_plain] at *; go_roundg k3))
                     case measure => have := HK1.out; have := HK2.out; have := HK3.out; omega
                     case rel => exact ⟨(x6_3), (wrap64 (x8_3 + 1)), (by first | rfl | (simp; done) | (simp [*]; done)), H', ⟨by have := HK1.out; have := HK2.out; have := HK3.out; omega⟩, ⟨by (with_reducible repeat (first | apply Kd.N_alloc | apply Kd.N_drewN | apply Kd.N_drew)); exact HO_4.out⟩, ⟨by (with_reducible repeat (first | apply Kd.N_alloc | apply Kd.N_drewN | apply Kd.N_drew)); exact HO_6.out⟩, ⟨by repeat (first | (with_reducible first | exact HB.out | apply below_alloc | apply pw_below_drewN | apply below_drew1) | exact HB.out)⟩⟩
                   ·rw [if_neg c22] at H
                    exact absurd H (by simp)
                  ·rw [if_neg c21] at H
                   exact absurd H (by simp)
                 ·rw [if_neg c20] at H
                  exact absurd H (by simp)
                ·rw [if_neg c19] at H
                 exact absurd H (by simp)
               ·rw [if_neg c18] at H
                exact absurd H (by simp)
              ·rw [if_neg c17] at H
               exact absurd H (by simp)
             ·rw [if_neg c15] at H
              exact absurd H (by simp)
            ·rw [if_neg c14] at H
             have c14b0 : decide (x8_3 < (x4_1.length : Int)) = false := decide_eq_false c14
             clear c14
             have H' := Aside0.mk H
             clear H
             go_wp2
             (first | go_roundg k3 | (subst hji16; go_roundg k3) | (simp only [add_plain] at *; go_roundg k3))
             case measure => have := HK1.out; have := HK2.out; have := HK3.out; omega
             case rel => exact ⟨(x6_3), (wrap64 (x7_2 + 1)), (by first | rfl | (simp; done) | (simp [*]; done)), H', ⟨by have := HK1.out; have := HK2.out; have := HK3.out; omega⟩, ⟨by (with_reducible repeat (first | apply Kd.N_alloc | apply Kd.N_drewN | apply Kd.N_drew)); exact HO_4.out⟩, ⟨by (with_reducible repeat (first | apply Kd.N_alloc | apply Kd.N_drewN | apply Kd.N_drew)); exact HO_6.out⟩, ⟨by repeat (first | (with_reducible first | exact HB.out | apply below_alloc | apply pw_below_drewN | apply below_drew1) | exact HB.out)⟩⟩
        ·rw [if_neg c11] at H
         have c11b0 : decide (x7_2 < (x4_1.length : Int)) = false := decide_eq_false c11
         clear c11
         have H' := Aside0.mk H
         clear H
         go_wp2
         (first | go_roundg k2 | (subst hji16; go_roundg k2) | (simp only [add_plain] at *; go_roundg k2))
         case measure => have := HK1.out; have := HK2.out; omega
         case rel => exact ⟨(x6_2), (wrap64 (x5_1 + 1)), (by first | rfl | (simp; done) | (simp [*]; done)), H', ⟨by have := HK1.out; have := HK2.out; omega⟩, ⟨by (with_reducible repeat (first | apply Kd.N_alloc | apply Kd.N_drewN | apply Kd.N_drew)); exact Kd.N_mono HO_6.out (fun _ hk => hk.1)⟩, ⟨by repeat (first | (with_reducible first | exact HB.out | apply below_alloc | apply pw_below_drewN | apply below_drew1) | exact HB.out)⟩⟩
     ·rw [if_neg c7] at H
      have c7b0 : decide ((wrap64 (x5_1 + 1)) < (((rd_T42 l0 0).f0).length : Int)) = false := decide_eq_false c7
      clear c7
      simp only [Option.some.injEq, Prod.mk.injEq] at H
      obtain ⟨rfl, rfl⟩ := H
      have p166 : 0 ≤ (0 : Int) := (by omega)
      have q166 : 0 < (l0.length : Int) := of_decide_eq_true (by first | (with_reducible assumption) | assumption)
      obtain ⟨ad166, A166_0, c166_0, e166, hx166_0, hl166_0, hi166_0⟩ := at_T42 HR0.out 0 p166 q166
      cases e166
      have qi166 : (0 < l0.length) = True := eq_true (by omega)
      (try rw [show ((0 : Int)).toNat = 0 from rfl] at hx166_0)
      (try rw [Addr.add_zero'] at hx166_0)
      replace hx166_0 := (HB.out.cell (World.block_lt_of_cell? w _ hx166_0)).trans hx166_0
      have HR166_0 := Aside0.mk hi166_0
      have HC166_0 := Aside0.mk hl166_0
      clear hi166_0 hl166_0
      replace p166 := eq_true p166
      replace q166 := eq_true q166
      go_wp2
      go_ret2
      exact ⟨_, by first | rfl | (simp [errW_none, errW_some] <;> rfl) | (simp [*, errW_none, errW_some] <;> rfl), by (with_reducible repeat (first | apply Kd.N_alloc | apply Kd.N_drewN | apply Kd.N_drew)); exact HO_4.out, by repeat (first | (with_reducible first | exact HB.out | apply below_alloc | apply pw_below_drewN | apply below_drew1) | exact HB.out)⟩
    ·rw [if_neg c6] at H
     exact absurd H (by simp)
 ·replace c3 := Bool.eq_false_iff.mpr c3
  subst c3
  have H1 : (some ((([] : List (S42))), false)) = some (r1, r2) := by rw [if_neg (show ¬ (false = true) by decide)] at H; exact H
  clear H
  have H := H1
  clear H1
  obtain ⟨y160, hy160⟩ : ∃ y_ : List (S42), y_ = (([] : List (S42))) := ⟨_, rfl⟩
  replace H : (some (y160, false)) = some (r1, r2) := by first | (rw [hy160]; with_reducible exact H) | (have H2_ := (Option.bind_some _ _).symm.trans H; rw [hy160]; with_reducible exact H2_) | (have H2_ := (Option.bind_some _ _).symm.trans H; with_reducible exact H2_) | with_reducible exact H | (rw [hy160]; exact H) | exact H
  have Ny160 := Aside0.mk hy160
  clear hy160
  simp only [Option.some.injEq, Prod.mk.injEq] at H
  obtain ⟨rfl, rfl⟩ := H
  go_enter Try.func28, Try.ntmps28
  go_wp2_with (first | ((with_reducible refine gate_callee (f := 51) rfl ?_); refine goesL_ (some 10) rfl rfl Try.func51 (by kernel_rfl) rfl #[.slice A0 l0.length c0] rfl (by (try simp only [List.map_toArray, List.map_cons, List.map_nil]); first | done | rfl | (simp only [List.length_drop, List.length_take]; rfl)) ?_; (with_reducible refine (spec_l13Ok.calls k _ _ l0 false _ ?side1 ?side2 A2.out).mono ?_); (case side1 => exact uC HR0.out); (case side2 => exact HC0.out); rintro e w' ⟨rfl, ⟨nd, rfl⟩⟩; refine ⟨_, rfl, ?_⟩) | ((with_reducible refine gate_dst (N := 12) rfl ?_); refine Kd.N_lit k42 _ 42 ?hg (N' := 12) ?hd (xs := ([] : List (S42))) (inner := []) (ok := (fun k_ => (w.heap.size ≤ k_))) (okp := (fun k_ => (w.heap.size ≤ k_))) ?hr ?hp (fun _ hk => hk) ((show ∀ k_, w.heap.size ≤ k_ → (fun k_ => (w.heap.size ≤ k_)) k_ from fun k_ hk => (Nat.le_trans (below_size (uB HB.out)) hk)) _ (Nat.le_refl _)) (Below.refl _ _) (Nat.le_refl _) (by simp) ?_; (case hd => rfl); (case hg => rfl); (case hr => first | (go_simp; done) | (go_simp; rfl)); (case hp => exact (Reps.none _ _)); intro v161 w42 ho43 hb hg_ hnew_; clear hg_ hnew_; (first | rw [← Ny160.out] at ho43 | (simp only [Int.reduceToNat] at ho43; rw [← Ny160.out] at ho43)); have n0_ := Aside0.mk (Kd.N_lower ho43 (below_size (uB HB.out))); have n1_ := Aside0.mk (below_step (uB HB.out) hb); clear HB; have HO162 := n0_; have HB := n1_; clear n0_ n1_; clear hb ho43))
  go_ret2
  exact ⟨_, by first | rfl | (simp [errW_none, errW_some] <;> rfl) | (simp [*, errW_none, errW_some] <;> rfl), by (with_reducible repeat (first | apply Kd.N_alloc | apply Kd.N_drewN | apply Kd.N_drew)); exact HO162.out, by repeat (first | (with_reducible first | exact HB.out | apply below_alloc | apply pw_below_drewN | apply below_drew1) | exact HB.out)⟩

end Go.Proofs.Ytbcljfbpkmlgpaa.Q
