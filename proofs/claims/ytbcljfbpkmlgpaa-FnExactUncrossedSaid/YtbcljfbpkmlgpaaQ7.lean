-- Written by a session's own program (wip/tools/myprint.py) over the kit's printer, out of the translation. Not trusted: Lean checks it.
import Derived.Test.YtbcljfbpkmlgpaaQ0
import Derived.Test.YtbcljfbpkmlgpaaQ5
import Derived.Test.YtbcljfbpkmlgpaaQ6
namespace Go.Proofs.Ytbcljfbpkmlgpaa.Q
open Go.RowKit Go.Proofs.YtbcljfbpkmlgpaaW.PrintWords Go.Proofs.YtbcljfbpkmlgpaaW.PrintLast Go.Proofs.YtbcljfbpkmlgpaaW.PrintMore
attribute [local go_sem] max2_int min2_int max_two min_two max_three min_three max_four min_four   -- for this text's walks alone
set_option linter.unusedVariables false
set_option linter.unusedSimpArgs false

/-! ### impl_Uncrossed: function 29 -/
mutual
def impl_Uncrossed.l0 : Nat → List (S42) → List (S42) → Int → Option ((List (S42)) × Bool)
 | 0, _, _, _ => none
 | k + 1, x0, x4, x5 => if 0 < (x0.length : Int) then (if x5 < (wrap64 ((((rd_T42 x0 0).f0).length : Int) - 1)) then ((impl_copyWays.f k x4).bind fun t242 => ((impl_nextOf.f k t242 x5).bind fun t245 => (impl_Uncrossed.l1 k x0 x4 x5 t242 t245 (x4.length : Int) 0))) else (some (x4, true))) else (none)
def impl_Uncrossed.l1 : Nat → List (S42) → List (S42) → Int → List (S42) → List Int → Int → Int → Option ((List (S42)) × Bool)
 | 0, _, _, _, _, _, _, _ => none
 | k + 1, x0, x4, x5, x6, x7, x31, x32 => if x32 < x31 then ((impl_ringOf.f k x7 x32).bind fun t248 => (if t248 < 2 then (impl_Uncrossed.l1 k x0 x4 x5 x6 x7 x31 (wrap64 (x32 + 1))) else ((slices_Index_int_int.f k x7 x32).bind fun t249 => (if 0 ≤ x32 then (if x32 < (x6.length : Int) then (if 0 ≤ (wrap64 (x5 + 1)) then (if (wrap64 (x5 + 1)) ≤ (((rd_T42 x6 x32).f0).length : Int) then ((slices_Clone_int_int.f (((rd_T42 x6 x32).f0).take ((wrap64 (x5 + 1)) : Int).toNat)).bind fun t255 => (if 0 ≤ t249 then (if t249 < (x6.length : Int) then (if (wrap64 (x5 + 1)) ≤ (((rd_T42 x6 t249).f0).length : Int) then ((some (((rd_T42 x6 t249).f0).drop ((wrap64 (x5 + 1)) : Int).toNat : List Int)).bind fun y259 => (if t255.length + y259.length < 17592186044416 then (if x32 < (x4.length : Int) then (impl_Uncrossed.l1 k x0 (x4.set (x32 : Int).toNat (⟨(t255 ++ y259)⟩ : S42)) x5 x6 x7 x31 (wrap64 (x32 + 1))) else (none)) else (none))) else (none)) else (none)) else (none))) else (none)) else (none)) else (none)) else (none))))) else (impl_Uncrossed.l0 k x0 x4 (wrap64 (x5 + 1)))
end
def impl_Uncrossed.f (k : Nat) (l0 : List (S42)) : Option ((List (S42)) × Bool) := (impl_areRegular.f k l0).bind fun t237 => (if t237 = true then ((impl_copyWays.f k l0).bind fun t238 => (impl_Uncrossed.l0 k l0 t238 0)) else (some (([] : List (S42)), false)))
def impl_Uncrossed.T14 : Bool × List (List Nat × List Nat) := (true, [([], []), ([], []), ([], []), ([], []), ([2, 3], [2, 3]), ([4], [4]), ([5], [5]), ([], []), ([7], [7]), ([6, 8], [6, 8]), ([9], [9]), ([], []), ([], []), ([11, 12], [11, 12]), ([13], [13]), ([14], [14]), ([], []), ([16], [16]), ([15, 17], [15, 17]), ([10, 18, 10], [10, 18]), ([0, 1, 0, 1, 2, 3, 4, 5, 6, 7, 8, 9, 10, 11, 12, 13, 14, 15, 16, 17, 18, 19], [0, 1]), ([20, 0, 1, 2, 3, 4, 5, 6, 7, 8, 9, 10, 11, 12, 13, 14, 15, 16, 17, 18, 19], [20]), ([21, 19, 19, 0, 1, 2, 3, 4, 5, 6, 7, 8, 9, 10, 11, 12, 13, 14, 15, 16, 17, 18, 19], [19, 21])])
def impl_Uncrossed.B14 : List Nat := [0, 0, 0, 0, 12, 28, 60, 0, 128, 508, 1020, 0, 0, 6144, 14336, 30720, 0, 65536, 260096, 524284, 1048575, 2097151, 4194303]
theorem impl_Uncrossed.tab14 : rtab .any (opsOf Try.f29 14) = impl_Uncrossed.T14 := by kernel_rfl
theorem impl_Uncrossed.bits14 : waitsOk impl_Uncrossed.T14.2 impl_Uncrossed.B14 = true := by kernel_rfl
set_option maxHeartbeats 8000000 in
set_option maxRecDepth 100000 in
theorem impl_Uncrossed.calls (k : Nat) (A0 : Option Addr) (c0 : Nat) (l0 : List (S42)) (r1 : List (S42)) (r2 : Bool) (w : World) (hr0 : Kd.C k42 w A0 l0.length l0) (hc0 : l0.length ≤ c0) (h : impl_Uncrossed.f k l0 = some (r1, r2)) :
  Calls Try.prog 29 #[.slice A0 l0.length c0] w fun e w' => ∃ v0_ : Value, e = .returned (.tuple #[v0_, .bool r2]) ∧ Kd.S k42 42 w' w.heap.size (fun _ => True) v0_ r1 ∧ Below w.heap.size w w' := by
 have HR0 := Aside0.mk hr0
 have HC0 := Aside0.mk hc0
 clear hr0 hc0
 have HB := Aside0.mk (Below.refl w.heap.size w)
 have H : ((impl_areRegular.f k l0).bind fun t237 => (if t237 = true then ((impl_copyWays.f k l0).bind fun t238 => (impl_Uncrossed.l0 k l0 t238 0)) else (some (([] : List (S42)), false)))) = some (r1, r2) := h
 clear h
 replace H := Option.bind_eq_some_iff.mp H
 obtain ⟨t237, A20, H⟩ := H
 replace H : (if t237 = true then ((impl_copyWays.f k l0).bind fun t238 => (impl_Uncrossed.l0 k l0 t238 0)) else (some (([] : List (S42)), false))) = some (r1, r2) := H
 have A2 := Aside0.mk A20
 clear A20
 by_cases c3 : t237 = true
 ·subst c3
  have H1 : ((impl_copyWays.f k l0).bind fun t238 => (impl_Uncrossed.l0 k l0 t238 0)) = some (r1, r2) := by rw [if_pos rfl] at H; exact H
  clear H
  have H := H1
  clear H1
  replace H := Option.bind_eq_some_iff.mp H
  obtain ⟨t238, A40, H⟩ := H
  replace H : (impl_Uncrossed.l0 k l0 t238 0) = some (r1, r2) := H
  have A4 := Aside0.mk A40
  clear A40
  have H' := Aside0.mk H
  clear H
  go_enter Try.func29, Try.ntmps29
  go_wp2_with (first | ((with_reducible refine gate_callee (f := 52) rfl ?_); refine goesL_ (some 11) rfl rfl Try.func52 (by kernel_rfl) rfl #[.slice A0 l0.length c0] rfl (by (try simp only [List.map_toArray, List.map_cons, List.map_nil]); first | done | rfl | (simp only [List.length_drop, List.length_take]; rfl)) ?_; (with_reducible refine (impl_areRegular.calls k _ _ l0 true _ ?side1 ?side2 A2.out).mono ?_); (case side1 => exact uC HR0.out); (case side2 => exact HC0.out); rintro e w5 ⟨rfl, hb⟩; refine ⟨_, rfl, ?_⟩; have n0_ := Aside0.mk (below_step (uB HB.out) hb); clear HB; have HB := n0_; clear n0_; (try clear hb); (try clear hb2); (try clear hk); (try clear hi)) | ((with_reducible refine gate_callee (f := 55) rfl ?_); refine goesL_ (some 14) rfl rfl Try.func55 (by kernel_rfl) rfl #[.slice A0 l0.length c0] rfl (by (try simp only [List.map_toArray, List.map_cons, List.map_nil]); first | done | rfl | (simp only [List.length_drop, List.length_take]; rfl)) ?_; (with_reducible refine (impl_copyWays.calls k _ _ l0 t238 _ ?side1 ?side2 A4.out).mono ?_); (case side1 => repeat (first | exact (Kd.C_below HR0.out HB.out) | (with_reducible refine Kd.C_alloc ?_ _) | (with_reducible refine Kd.C_drewN ?_ _) | (with_reducible refine Kd.C_drew ?_))); (case side2 => exact HC0.out); rintro e w6 ⟨v239, rfl, ho0, hb⟩; refine ⟨_, rfl, ?_⟩; have n0_ := Aside0.mk (Kd.S_lower ho0 (below_size (uB HB.out))); have n1_ := Aside0.mk (below_step (uB HB.out) hb); clear HB; have HO240 := n0_; have HB := n1_; clear n0_ n1_; (try clear hb); (try clear hb2); (try clear hk); (try clear hi); (try clear ho0)))
  go_loopg [5] k (fun kq v5 w' => ∃ (x4_1 : List (S42)) (x5_1 : Int), v5 = .int .i64 x5_1 ∧ Aside0 (impl_Uncrossed.l0 kq l0 x4_1 x5_1 = some (r1, r2)) ∧ Aside0 (kq ≤ k) ∧ Aside0 (Kd.S k42 42 w' w.heap.size (fun _ => True) v239 x4_1) ∧ Aside0 (Below w.heap.size w w'))
  case atStart => exact ⟨(t238), (0), (by first | rfl | (simp; done) | (simp [*]; done)), H', ⟨Nat.le_refl _⟩, ⟨by (with_reducible repeat (first | apply Kd.S_alloc | apply Kd.S_drewN | apply Kd.S_drew)); exact HO240.out⟩, ⟨by repeat (first | (with_reducible first | exact HB.out | apply below_alloc | apply pw_below_drewN | apply below_drew1) | exact HB.out)⟩⟩
  case round =>
   clear H'
   try clear c2
   try clear p2
   try clear c3
   try clear c5
   obtain ⟨x4_1, x5_1, rfl, HA, HK1, HO_4, HB⟩ := hrel
   cases gk with
   | zero => exact absurd HA.out (by simp [impl_Uncrossed.l0])
   | succ k1 =>
    have H := HA.out
    clear HA
    simp only [impl_Uncrossed.l0] at H
    by_cases c7 : 0 < (l0.length : Int)
    ·rw [if_pos c7] at H
     have c7b0 : decide (0 < (l0.length : Int)) = true := decide_eq_true c7
     have c7b1 : decide (0 < l0.length) = true := decide_eq_true (by omega)
     clear c7
     by_cases c8 : x5_1 < (wrap64 ((((rd_T42 l0 0).f0).length : Int) - 1))
     ·rw [if_pos c8] at H
      have c8b0 : decide (x5_1 < (wrap64 ((((rd_T42 l0 0).f0).length : Int) - 1))) = true := decide_eq_true c8
      clear c8
      replace H := Option.bind_eq_some_iff.mp H
      obtain ⟨t242, A90, H⟩ := H
      replace H : ((impl_nextOf.f k1 t242 x5_1).bind fun t245 => (impl_Uncrossed.l1 k1 l0 x4_1 x5_1 t242 t245 (x4_1.length : Int) 0)) = some (r1, r2) := H
      have A9 := Aside0.mk A90
      clear A90
      replace H := Option.bind_eq_some_iff.mp H
      obtain ⟨t245, A100, H⟩ := H
      replace H : (impl_Uncrossed.l1 k1 l0 x4_1 x5_1 t242 t245 (x4_1.length : Int) 0) = some (r1, r2) := H
      have A10 := Aside0.mk A100
      clear A100
      have H' := Aside0.mk H
      clear H
      have p241 : 0 ≤ (0 : Int) := (by omega)
      have q241 : 0 < (l0.length : Int) := of_decide_eq_true (by first | (with_reducible assumption) | assumption)
      obtain ⟨ad241, A241_0, c241_0, e241, hx241_0, hl241_0, hi241_0⟩ := at_T42 HR0.out 0 p241 q241
      cases e241
      have qi241 : (0 < l0.length) = True := eq_true (by omega)
      (try rw [show ((0 : Int)).toNat = 0 from rfl] at hx241_0)
      (try rw [Addr.add_zero'] at hx241_0)
      replace hx241_0 := (HB.out.cell (World.block_lt_of_cell? w _ hx241_0)).trans hx241_0
      have HR241_0 := Aside0.mk hi241_0
      have HC241_0 := Aside0.mk hl241_0
      clear hi241_0 hl241_0
      replace p241 := eq_true p241
      replace q241 := eq_true q241
      obtain ⟨Ao11, co11, eo11⟩ := Kd.S_slice HO_4.out
      subst eo11
      go_wp2_with (first | ((with_reducible refine gate_callee (f := 55) rfl ?_); refine goesL_ (some 26) rfl rfl Try.func55 (by kernel_rfl) rfl #[.slice Ao11 x4_1.length co11] rfl (by (try simp only [List.map_toArray, List.map_cons, List.map_nil]); first | done | rfl | (simp only [List.length_drop, List.length_take]; rfl)) ?_; (with_reducible refine (impl_copyWays.calls k1 _ _ x4_1 t242 _ ?side1 ?side2 A9.out).mono ?_); (case side1 => repeat (first | exact (Kd.S_reads' HO_4.out).2.2 | (with_reducible refine Kd.C_alloc ?_ _) | (with_reducible refine Kd.C_drewN ?_ _) | (with_reducible refine Kd.C_drew ?_))); (case side2 => exact (Kd.S_reads' HO_4.out).2.1); rintro e w12 ⟨v243, rfl, ho0, hb⟩; refine ⟨_, rfl, ?_⟩; have n0_ := Aside0.mk (Kd.S_elder' (uS HO_4.out) (Kd.S_base ho0) hb); have n1_ := Aside0.mk (Kd.S_lower (Kd.S_new' ho0 (Kd.S_lt (uS HO_4.out))) (below_size (uB HB.out))); have n2_ := Aside0.mk (below_step (uB HB.out) hb); clear HO_4; clear HB; have HO_4 := n0_; have HO244 := n1_; have HB := n2_; clear n0_ n1_ n2_; (try clear hb); (try clear hb2); (try clear hk); (try clear hi); (try clear ho0); obtain ⟨Ao13, co13, eo13⟩ := Kd.S_slice HO244.out; subst eo13) | ((with_reducible refine gate_callee (f := 49) rfl ?_); refine goesL_ (some 29) rfl rfl Try.func49 (by kernel_rfl) rfl #[.slice Ao13 t242.length co13, .int .i64 x5_1] rfl (by (try simp only [List.map_toArray, List.map_cons, List.map_nil]); first | done | rfl | (simp only [List.length_drop, List.length_take]; rfl)) ?_; (with_reducible refine (impl_nextOf.calls k1 _ _ t242 x5_1 t245 _ ?side1 ?side2 A10.out).mono ?_); (case side1 => repeat (first | exact (Kd.S_reads' HO244.out).2.2 | (with_reducible refine Kd.C_alloc ?_ _) | (with_reducible refine Kd.C_drewN ?_ _) | (with_reducible refine Kd.C_drew ?_))); (case side2 => exact (Kd.S_reads' HO244.out).2.1); rintro e w14 ⟨v246, rfl, ho0, hb⟩; refine ⟨_, rfl, ?_⟩; have n0_ := Aside0.mk (Kd.S_elder' (uS HO_4.out) (Kd.R_base ho0) hb); have n1_ := Aside0.mk (Kd.S_elder' (uS HO244.out) (Kd.R_base ho0) hb); have n2_ := Aside0.mk (Kd.R_lower ho0 (below_size (uB HB.out))); have n3_ := Aside0.mk (below_step (uB HB.out) hb); clear HO_4; clear HO244; clear HB; have HO_4 := n0_; have HO244 := n1_; have HO247 := n2_; have HB := n3_; clear n0_ n1_ n2_ n3_; (try clear hb); (try clear hb2); (try clear hk); (try clear hi); (try clear ho0)))
      go_loopg [32] k1 (fun kq v32 w' => ∃ (x4_2 : List (S42)) (x32_2 : Int), v32 = .int .i64 x32_2 ∧ Aside0 (impl_Uncrossed.l1 kq l0 x4_2 x5_1 t242 t245 (x4_1.length : Int) x32_2 = some (r1, r2)) ∧ Aside0 (kq ≤ k1) ∧ Aside0 (Kd.S k42 42 w' w.heap.size (fun k_ => some k_ ≠ ((.slice Ao13 t242.length co13) : Value).ownBlock ∧ some k_ ≠ (v246 : Value).ownBlock) (.slice Ao11 x4_1.length co11) x4_2) ∧ Aside0 (Kd.S k42 42 w' w.heap.size (fun k_ => some k_ ≠ ((.slice Ao11 x4_1.length co11) : Value).ownBlock ∧ some k_ ≠ (v246 : Value).ownBlock) (.slice Ao13 t242.length co13) t242) ∧ Aside0 (Kd.R (Kd.int .i64) 3 w' w.heap.size (fun _ => True) v246 t245) ∧ Aside0 (Below w.heap.size w w'))
      case atStart => exact ⟨(x4_1), (0), (by first | rfl | (simp; done) | (simp [*]; done)), H', ⟨Nat.le_refl _⟩, ⟨by (with_reducible repeat (first | apply Kd.S_alloc | apply Kd.S_drewN | apply Kd.S_drew)); exact Kd.S_mono HO_4.out (fun _ hk => ⟨hk.1.2, hk.2⟩)⟩, ⟨by (with_reducible repeat (first | apply Kd.S_alloc | apply Kd.S_drewN | apply Kd.S_drew)); exact Kd.S_mono HO244.out (fun _ hk => ⟨hk.1.2, hk.2⟩)⟩, ⟨by (with_reducible repeat (first | apply Kd.R_alloc | apply Kd.R_drewN | apply Kd.R_drew)); exact HO247.out⟩, ⟨by repeat (first | (with_reducible first | exact HB.out | apply below_alloc | apply pw_below_drewN | apply below_drew1) | exact HB.out)⟩⟩
      case round =>
       clear H'
       try clear c2
       try clear p2
       try clear q2
       try clear hx2
       try clear qi2
       try clear c3
       try clear c4
       try clear c5
       try clear p6
       try clear c7
       try clear c7b0
       try clear c7b1
       try clear c8
       try clear c8b0
       try clear hx241_0
       try clear p2
       try clear p241
       try clear q241
       obtain ⟨x4_2, x32_2, rfl, HA, HK2, HO_4, HO_6, HO_7, HB⟩ := hrel
       have hl4_2 := (Kd.S_reads' HO_4.out).1
       rw [hl4_2] at HO_4
       (try simp only [hl4_2])
       (try simp only [hl4_2] at HO_6)
       (try simp only [hl4_2] at HO_7)
       cases gk with
       | zero => exact absurd HA.out (by simp [impl_Uncrossed.l1])
       | succ k2 =>
        have H := HA.out
        clear HA
        simp only [impl_Uncrossed.l1] at H
        by_cases c15 : x32_2 < (x4_1.length : Int)
        ·rw [if_pos c15] at H
         have c15b0 : decide (x32_2 < (x4_1.length : Int)) = true := decide_eq_true c15
         have c15b0z := c15b0
         (try simp only [hl4_2] at c15b0z)
         clear c15
         replace H := Option.bind_eq_some_iff.mp H
         obtain ⟨t248, A160, H⟩ := H
         replace H : (if t248 < 2 then (impl_Uncrossed.l1 k2 l0 x4_2 x5_1 t242 t245 (x4_1.length : Int) (wrap64 (x32_2 + 1))) else ((slices_Index_int_int.f k2 t245 x32_2).bind fun t249 => (if 0 ≤ x32_2 then (if x32_2 < (t242.length : Int) then (if 0 ≤ (wrap64 (x5_1 + 1)) then (if (wrap64 (x5_1 + 1)) ≤ (((rd_T42 t242 x32_2).f0).length : Int) then ((slices_Clone_int_int.f (((rd_T42 t242 x32_2).f0).take ((wrap64 (x5_1 + 1)) : Int).toNat)).bind fun t255 => (if 0 ≤ t249 then (if t249 < (t242.length : Int) then (if (wrap64 (x5_1 + 1)) ≤ (((rd_T42 t242 t249).f0).length : Int) then ((some (((rd_T42 t242 t249).f0).drop ((wrap64 (x5_1 + 1)) : Int).toNat : List Int)).bind fun y259 => (if t255.length + y259.length < 17592186044416 then (if x32_2 < (x4_2.length : Int) then (impl_Uncrossed.l1 k2 l0 (x4_2.set (x32_2 : Int).toNat (⟨(t255 ++ y259)⟩ : S42)) x5_1 t242 t245 (x4_1.length : Int) (wrap64 (x32_2 + 1))) else (none)) else (none))) else (none)) else (none)) else (none))) else (none)) else (none)) else (none)) else (none)))) = some (r1, r2) := H
         have A16 := Aside0.mk A160
         clear A160
         by_cases c17 : t248 < 2
         ·rw [if_pos c17] at H
          have c17b0 : decide (t248 < 2) = true := decide_eq_true c17
          clear c17
          have H' := Aside0.mk H
          clear H
          obtain ⟨Ao18, co18, eo18⟩ := Kd.R_slice HO_7.out
          subst eo18
          go_wp2_with (first | ((with_reducible refine gate_callee (f := 50) rfl ?_); refine goesL_ (some 37) rfl rfl Try.func50 (by kernel_rfl) rfl #[.slice Ao18 t245.length co18, .int .i64 x32_2] rfl (by (try simp only [List.map_toArray, List.map_cons, List.map_nil]); first | done | rfl | (simp only [List.length_drop, List.length_take]; rfl)) ?_; (with_reducible refine (impl_ringOf.calls k2 _ _ t245 x32_2 t248 _ ?side1 ?side2 A16.out).mono ?_); (case side1 => exact uC (Kd.R_reads' HO_7.out).2.2); (case side2 => exact (Kd.R_reads' HO_7.out).2.1); rintro e w' ⟨rfl, ⟨nd, rfl⟩⟩; refine ⟨_, rfl, ?_⟩))
          (try simp only [← hl4_2])
          go_roundg k2
          case measure => have := HK1.out; have := HK2.out; omega
          case rel => exact ⟨(x4_2), (wrap64 (x32_2 + 1)), (by first | rfl | (simp; done) | (simp [*]; done)), H', ⟨by have := HK1.out; have := HK2.out; omega⟩, ⟨by (try simp only [hl4_2]); (with_reducible repeat (first | apply Kd.S_alloc | apply Kd.S_drewN | apply Kd.S_drew)); exact HO_4.out⟩, ⟨by (try simp only [hl4_2]); (with_reducible repeat (first | apply Kd.S_alloc | apply Kd.S_drewN | apply Kd.S_drew)); exact HO_6.out⟩, ⟨by (try simp only [hl4_2]); (with_reducible repeat (first | apply Kd.R_alloc | apply Kd.R_drewN | apply Kd.R_drew)); exact HO_7.out⟩, ⟨by repeat (first | (with_reducible first | exact HB.out | apply below_alloc | apply pw_below_drewN | apply below_drew1) | exact HB.out)⟩⟩
         ·rw [if_neg c17] at H
          have c17b0 : decide (t248 < 2) = false := decide_eq_false c17
          clear c17
          replace H := Option.bind_eq_some_iff.mp H
          obtain ⟨t249, A190, H⟩ := H
          replace H : (if 0 ≤ x32_2 then (if x32_2 < (t242.length : Int) then (if 0 ≤ (wrap64 (x5_1 + 1)) then (if (wrap64 (x5_1 + 1)) ≤ (((rd_T42 t242 x32_2).f0).length : Int) then ((slices_Clone_int_int.f (((rd_T42 t242 x32_2).f0).take ((wrap64 (x5_1 + 1)) : Int).toNat)).bind fun t255 => (if 0 ≤ t249 then (if t249 < (t242.length : Int) then (if (wrap64 (x5_1 + 1)) ≤ (((rd_T42 t242 t249).f0).length : Int) then ((some (((rd_T42 t242 t249).f0).drop ((wrap64 (x5_1 + 1)) : Int).toNat : List Int)).bind fun y259 => (if t255.length + y259.length < 17592186044416 then (if x32_2 < (x4_2.length : Int) then (impl_Uncrossed.l1 k2 l0 (x4_2.set (x32_2 : Int).toNat (⟨(t255 ++ y259)⟩ : S42)) x5_1 t242 t245 (x4_1.length : Int) (wrap64 (x32_2 + 1))) else (none)) else (none))) else (none)) else (none)) else (none))) else (none)) else (none)) else (none)) else (none)) = some (r1, r2) := H
          have A19 := Aside0.mk A190
          clear A190
          by_cases c20 : 0 ≤ x32_2
          ·rw [if_pos c20] at H
           have c20b0 : decide (0 ≤ x32_2) = true := decide_eq_true c20
           clear c20
           by_cases c21 : x32_2 < (t242.length : Int)
           ·rw [if_pos c21] at H
            have c21b0 : decide (x32_2 < (t242.length : Int)) = true := decide_eq_true c21
            have c21b0z := c21b0
            (try simp only [hl4_2] at c21b0z)
            clear c21
            obtain ⟨ji22, hji22⟩ : ∃ j_ : Int, (wrap64 (x5_1 + 1)) = j_ := ⟨_, rfl⟩
            replace H : (if 0 ≤ (ji22) then (if (ji22) ≤ (((rd_T42 t242 x32_2).f0).length : Int) then ((slices_Clone_int_int.f (((rd_T42 t242 x32_2).f0).take ((ji22) : Int).toNat)).bind fun t255 => (if 0 ≤ t249 then (if t249 < (t242.length : Int) then (if (ji22) ≤ (((rd_T42 t242 t249).f0).length : Int) then ((some (((rd_T42 t242 t249).f0).drop ((ji22) : Int).toNat : List Int)).bind fun y259 => (if t255.length + y259.length < 17592186044416 then (if x32_2 < (x4_2.length : Int) then (impl_Uncrossed.l1 k2 l0 (x4_2.set (x32_2 : Int).toNat (⟨(t255 ++ y259)⟩ : S42)) x5_1 t242 t245 (x4_1.length : Int) (wrap64 (x32_2 + 1))) else (none)) else (none))) else (none)) else (none)) else (none))) else (none)) else (none)) = some (r1, r2) := by first | (rw [hji22] at H; exact H) | (simp only [hji22] at H ⊢; exact H)
            (try rw [hji22] at A16)
            (try rw [hji22] at A19)
            have hji22w : (IntKind.i64.wrap (x5_1 + 1)) = ji22 := (i64_w _).trans hji22
            by_cases c23 : 0 ≤ (ji22)
            ·rw [if_pos c23] at H
             have c23b0 := eq_true c23
             have c23b1 : decide (0 ≤ (ji22)) = true := decide_eq_true c23
             clear c23
             by_cases c24 : (ji22) ≤ (((rd_T42 t242 x32_2).f0).length : Int)
             ·rw [if_pos c24] at H
              have c24b0 := eq_true c24
              have c24b1 : decide ((ji22) ≤ (((rd_T42 t242 x32_2).f0).length : Int)) = true := decide_eq_true c24
              have c24b1z := c24b1
              (try simp only [hl4_2] at c24b1z)
              clear c24
              obtain ⟨y251, hy251⟩ : ∃ y_ : List Int, y_ = (((rd_T42 t242 x32_2).f0).take ((ji22) : Int).toNat) := ⟨_, rfl⟩
              replace H : ((slices_Clone_int_int.f y251).bind fun t255 => (if 0 ≤ t249 then (if t249 < (t242.length : Int) then (if (ji22) ≤ (((rd_T42 t242 t249).f0).length : Int) then ((some (((rd_T42 t242 t249).f0).drop ((ji22) : Int).toNat : List Int)).bind fun y259 => (if t255.length + y259.length < 17592186044416 then (if x32_2 < (x4_2.length : Int) then (impl_Uncrossed.l1 k2 l0 (x4_2.set (x32_2 : Int).toNat (⟨(t255 ++ y259)⟩ : S42)) x5_1 t242 t245 (x4_1.length : Int) (wrap64 (x32_2 + 1))) else (none)) else (none))) else (none)) else (none)) else (none))) = some (r1, r2) := by first | (rw [hy251]; with_reducible exact H) | (have H2_ := (Option.bind_some _ _).symm.trans H; rw [hy251]; with_reducible exact H2_) | (have H2_ := (Option.bind_some _ _).symm.trans H; with_reducible exact H2_) | with_reducible exact H | (rw [hy251]; exact H) | exact H
              have Ny251 := Aside0.mk hy251
              clear hy251
              replace H := Option.bind_eq_some_iff.mp H
              obtain ⟨t255, A250, H⟩ := H
              replace H : (if 0 ≤ t249 then (if t249 < (t242.length : Int) then (if (ji22) ≤ (((rd_T42 t242 t249).f0).length : Int) then ((some (((rd_T42 t242 t249).f0).drop ((ji22) : Int).toNat : List Int)).bind fun y259 => (if t255.length + y259.length < 17592186044416 then (if x32_2 < (x4_2.length : Int) then (impl_Uncrossed.l1 k2 l0 (x4_2.set (x32_2 : Int).toNat (⟨(t255 ++ y259)⟩ : S42)) x5_1 t242 t245 (x4_1.length : Int) (wrap64 (x32_2 + 1))) else (none)) else (none))) else (none)) else (none)) else (none)) = some (r1, r2) := H
              have A25 := Aside0.mk A250
              clear A250
              by_cases c26 : 0 ≤ t249
              ·rw [if_pos c26] at H
               have c26b0 : decide (0 ≤ t249) = true := decide_eq_true c26
               clear c26
               by_cases c27 : t249 < (t242.length : Int)
               ·rw [if_pos c27] at H
                have c27b0 : decide (t249 < (t242.length : Int)) = true := decide_eq_true c27
                have c27b0z := c27b0
                (try simp only [hl4_2] at c27b0z)
                clear c27
                have c28b0 := eq_true (of_decide_eq_true (by first | (with_reducible assumption) | assumption) : 0 ≤ (ji22))
                by_cases c29 : (ji22) ≤ (((rd_T42 t242 t249).f0).length : Int)
                ·rw [if_pos c29] at H
                 have c29b0 := eq_true c29
                 have c29b1 : decide ((ji22) ≤ (((rd_T42 t242 t249).f0).length : Int)) = true := decide_eq_true c29
                 have c29b1z := c29b1
                 (try simp only [hl4_2] at c29b1z)
                 clear c29
                 obtain ⟨y259, hy259⟩ : ∃ y_ : List Int, y_ = (((rd_T42 t242 t249).f0).drop ((ji22) : Int).toNat) := ⟨_, rfl⟩
                 replace H : (if t255.length + y259.length < 17592186044416 then (if x32_2 < (x4_2.length : Int) then (impl_Uncrossed.l1 k2 l0 (x4_2.set (x32_2 : Int).toNat (⟨(t255 ++ y259)⟩ : S42)) x5_1 t242 t245 (x4_1.length : Int) (wrap64 (x32_2 + 1))) else (none)) else (none)) = some (r1, r2) := by first | (rw [hy259]; with_reducible exact H) | (have H2_ := (Option.bind_some _ _).symm.trans H; rw [hy259]; with_reducible exact H2_) | (have H2_ := (Option.bind_some _ _).symm.trans H; with_reducible exact H2_) | with_reducible exact H | (rw [hy259]; exact H) | exact H
                 have Ny259 := Aside0.mk hy259
                 clear hy259
                 by_cases c30 : t255.length + y259.length < 17592186044416
                 ·rw [if_pos c30] at H
                  have LMc30 := Aside0.mk c30
                  clear c30
                  obtain ⟨y263, hy263⟩ : ∃ y_ : List Int, y_ = (t255 ++ y259) := ⟨_, rfl⟩
                  replace H : (if x32_2 < (x4_2.length : Int) then (impl_Uncrossed.l1 k2 l0 (x4_2.set (x32_2 : Int).toNat (⟨y263⟩ : S42)) x5_1 t242 t245 (x4_1.length : Int) (wrap64 (x32_2 + 1))) else (none)) = some (r1, r2) := by first | (rw [hy263]; with_reducible exact H) | (have H2_ := (Option.bind_some _ _).symm.trans H; rw [hy263]; with_reducible exact H2_) | (have H2_ := (Option.bind_some _ _).symm.trans H; with_reducible exact H2_) | with_reducible exact H | (rw [hy263]; exact H) | exact H
                  have Ny263 := Aside0.mk hy263
                  clear hy263
                  by_cases c31 : x32_2 < (x4_2.length : Int)
                  ·rw [if_pos c31] at H
                   have c31b0 : decide (x32_2 < (x4_2.length : Int)) = true := decide_eq_true c31
                   have c31b0z := c31b0
                   (try simp only [hl4_2] at c31b0z)
                   clear c31
                   obtain ⟨y266, hy266⟩ : ∃ y_ : List (S42), y_ = (x4_2.set (x32_2 : Int).toNat (⟨y263⟩ : S42)) := ⟨_, rfl⟩
                   replace H : (impl_Uncrossed.l1 k2 l0 y266 x5_1 t242 t245 (x4_1.length : Int) (wrap64 (x32_2 + 1))) = some (r1, r2) := by first | (rw [hy266]; with_reducible exact H) | (have H2_ := (Option.bind_some _ _).symm.trans H; rw [hy266]; with_reducible exact H2_) | (have H2_ := (Option.bind_some _ _).symm.trans H; with_reducible exact H2_) | with_reducible exact H | (rw [hy266]; exact H) | exact H
                   have Ny266 := Aside0.mk hy266
                   clear hy266
                   have H' := Aside0.mk H
                   clear H
                   obtain ⟨Ao33, co33, eo33⟩ := Kd.R_slice HO_7.out
                   subst eo33
                   try go_wp2_with (first | ((with_reducible refine gate_callee (f := 50) rfl ?_); refine goesL_ (some 37) rfl rfl Try.func50 (by kernel_rfl) rfl #[.slice Ao33 t245.length co33, .int .i64 x32_2] rfl (by (try simp only [List.map_toArray, List.map_cons, List.map_nil]); first | done | rfl | (simp only [List.length_drop, List.length_take]; rfl)) ?_; (with_reducible refine (impl_ringOf.calls k2 _ _ t245 x32_2 t248 _ ?side1 ?side2 A16.out).mono ?_); (case side1 => exact uC (Kd.R_reads' HO_7.out).2.2); (case side2 => exact (Kd.R_reads' HO_7.out).2.1); rintro e w' ⟨rfl, ⟨nd, rfl⟩⟩; refine ⟨_, rfl, ?_⟩; (try (rw [drewN_self wr]; generalize hq_ : World.drewN wr _ = wr; have n0_ := Aside0.mk (Kd.S_at hq_ HO_4.out); have n1_ := Aside0.mk (Kd.S_at hq_ HO_6.out); have n2_ := Aside0.mk (Kd.R_at hq_ HO_7.out); have n3_ := Aside0.mk (below_at hq_ HB.out); clear hq_ HO_4 HO_6 HO_7 HB; have HO_4 := n0_; have HO_6 := n1_; have HO_7 := n2_; have HB := n3_; clear n0_ n1_ n2_ n3_))) | ((with_reducible refine gate_callee (f := 56) rfl ?_); refine goesL_ (some 41) rfl rfl Try.func56 (by kernel_rfl) rfl #[.slice Ao33 t245.length co33, .int .i64 x32_2] rfl (by (try simp only [List.map_toArray, List.map_cons, List.map_nil]); first | done | rfl | (simp only [List.length_drop, List.length_take]; rfl)) ?_; (with_reducible refine (slices_Index_int_int.calls k2 _ _ t245 x32_2 t249 _ ?side1 ?side2 A19.out).mono ?_); (case side1 => exact uC (Kd.R_reads' HO_7.out).2.2); (case side2 => exact (Kd.R_reads' HO_7.out).2.1); rintro e w34 ⟨rfl, hb⟩; refine ⟨_, rfl, ?_⟩; have n0_ := Aside0.mk (Kd.S_below (uS HO_4.out) hb); have n1_ := Aside0.mk (Kd.S_below (uS HO_6.out) hb); have n2_ := Aside0.mk (Kd.R_below (uR HO_7.out) hb); have n3_ := Aside0.mk (below_step (uB HB.out) hb); clear HO_4; clear HO_6; clear HO_7; clear HB; have HO_4 := n0_; have HO_6 := n1_; have HO_7 := n2_; have HB := n3_; clear n0_ n1_ n2_ n3_; (try clear hb); (try clear hb2); (try clear hk); (try clear hi)))
                   have n0_ := Aside0.mk (Kd.S_drew HO_4.out)
                   have n1_ := Aside0.mk (Kd.S_drew HO_6.out)
                   have n2_ := Aside0.mk (Kd.R_drew HO_7.out)
                   have n3_ := Aside0.mk (below_drew1 HB.out)
                   clear HO_4
                   clear HO_6
                   clear HO_7
                   clear HB
                   have HO_4 := n0_
                   have HO_6 := n1_
                   have HO_7 := n2_
                   have HB := n3_
                   clear n0_ n1_ n2_ n3_
                   have p250 : 0 ≤ (x32_2 : Int) := of_decide_eq_true (by first | (with_reducible assumption) | assumption)
                   have q250 : x32_2 < (t242.length : Int) := of_decide_eq_true (by first | (with_reducible assumption) | assumption)
                   obtain ⟨ad250, A250_0, c250_0, e250, hx250_0, hl250_0, hi250_0⟩ := at_T42 (Kd.S_reads' HO_6.out).2.2 x32_2 p250 q250
                   cases e250
                   obtain ⟨ce250, hce250, hMe250, hcc250⟩ := Kd.S_get HO_6.out z42 x32_2 p250 (by first | exact q250 | exact of_decide_eq_true (by first | (with_reducible assumption) | assumption) | (have e_ := (Kd.S_reads' HO_6.out).1; omega))
                   obtain ⟨ve250_0, rfl, ge250_0⟩ := k42_openM hMe250
                   have hv250_0 := hcc250 0 _ rfl
                   rw [Nat.add_zero, show (k42).sz = 1 from rfl, Nat.mul_one] at hv250_0
                   replace hv250_0 := Option.some.inj (hv250_0.symm.trans hx250_0)
                   rw [hv250_0] at ge250_0
                   have HL250_0 := Aside0.mk (show Kd.R (Kd.int .i64) 3 _ _ _ _ ((rd_T42 t242 x32_2).f0) from ge250_0)
                   clear hv250_0 ge250_0
                   clear hcc250 hce250
                   have HR250_0 := Aside0.mk hi250_0
                   have HC250_0 := Aside0.mk hl250_0
                   clear hi250_0 hl250_0
                   replace p250 := eq_true p250
                   replace q250 := eq_true q250
                   have q36 : ((ji22) : Int) ≤ ((((rd_T42 t242 x32_2).f0).length : Int) : Int) := of_decide_eq_true (by first | (with_reducible assumption) | assumption)
                   obtain ⟨i036, hi036, _, hsz36, _⟩ := info_parts info3
                   have hroom36 : ((rd_T42 t242 x32_2).f0).length ≤ c250_0 := HC250_0.out
                   have hC36 : Kd.C (Kd.int .i64) _ A250_0 ((rd_T42 t242 x32_2).f0).length ((rd_T42 t242 x32_2).f0) := (by repeat (first | (with_reducible exact HR250_0.out) | (with_reducible refine Kd.C_alloc ?_ _) | (with_reducible refine Kd.C_drewN ?_ _) | (with_reducible refine Kd.C_drew ?_) | exact HR250_0.out))
                   have hcut36 := cut_to (P := Try.prog) 34 3 .i64 Try.underlying34 hi036 A250_0 ((rd_T42 t242 x32_2).f0).length c250_0 (ji22) (of_decide_eq_true (by first | (with_reducible assumption) | assumption)) q36 hroom36
                   have hr36 := Kd.C_take (m := ((ji22) : Int).toNat) hC36 (by omega)
                   have hy36 : y251.length = ((ji22) : Int).toNat := (by rw [Ny251.out, List.length_take]; omega)
                   rw [← Ny251.out] at hr36
                   rw [← hy36] at hcut36
                   have HR254 := Aside0.mk hr36
                   have HC254 := Aside0.mk (show y251.length ≤ c250_0 from by omega)
                   clear hr36 hC36 hroom36 hi036 hsz36
                   have KY36 := Aside0.mk hy36
                   clear hy36
                   replace q36 := eq_true q36
                   have p258 : 0 ≤ (t249 : Int) := of_decide_eq_true (by first | (with_reducible assumption) | assumption)
                   have q258 : t249 < (t242.length : Int) := of_decide_eq_true (by first | (with_reducible assumption) | assumption)
                   obtain ⟨ad258, A258_0, c258_0, e258, hx258_0, hl258_0, hi258_0⟩ := at_T42 (Kd.S_reads' HO_6.out).2.2 t249 p258 q258
                   obtain rfl : ad250 = ad258 := (by injection e258)
                   obtain ⟨ce258, hce258, hMe258, hcc258⟩ := Kd.S_get HO_6.out z42 t249 p258 (by first | exact q258 | exact of_decide_eq_true (by first | (with_reducible assumption) | assumption) | (have e_ := (Kd.S_reads' HO_6.out).1; omega))
                   obtain ⟨ve258_0, rfl, ge258_0⟩ := k42_openM hMe258
                   have hv258_0 := hcc258 0 _ rfl
                   rw [Nat.add_zero, show (k42).sz = 1 from rfl, Nat.mul_one] at hv258_0
                   replace hv258_0 := Option.some.inj (hv258_0.symm.trans hx258_0)
                   rw [hv258_0] at ge258_0
                   have HL258_0 := Aside0.mk (show Kd.R (Kd.int .i64) 3 _ _ _ _ ((rd_T42 t242 t249).f0) from ge258_0)
                   clear hv258_0 ge258_0
                   clear hcc258 hce258
                   have HR258_0 := Aside0.mk hi258_0
                   have HC258_0 := Aside0.mk hl258_0
                   clear hi258_0 hl258_0
                   replace p258 := eq_true p258
                   replace q258 := eq_true q258
                   have q37 : ((ji22) : Int) ≤ ((((rd_T42 t242 t249).f0).length : Int) : Int) := of_decide_eq_true (by first | (with_reducible assumption) | assumption)
                   obtain ⟨i037, hi037, _, hsz37, _⟩ := info_parts info3
                   have hroom37 : ((rd_T42 t242 t249).f0).length ≤ c258_0 := HC258_0.out
                   have hC37 : Kd.C (Kd.int .i64) _ A258_0 ((rd_T42 t242 t249).f0).length ((rd_T42 t242 t249).f0) := (by repeat (first | (with_reducible exact HR258_0.out) | (with_reducible refine Kd.C_alloc ?_ _) | (with_reducible refine Kd.C_drewN ?_ _) | (with_reducible refine Kd.C_drew ?_) | exact HR258_0.out))
                   have q037 : (0 : Int) ≤ ((ji22) : Int) := of_decide_eq_true (by first | (with_reducible assumption) | assumption)
                   have hcut37 := cut_from (P := Try.prog) 34 3 .i64 Try.underlying34 hi037 1 hsz37 A258_0 ((rd_T42 t242 t249).f0).length c258_0 (ji22) q037 q37
                   have hr37 := Kd.C_drop (m := ((ji22) : Int).toNat) (c := c258_0) hC37 (by omega) hroom37
                   obtain ⟨A37, hA37⟩ : ∃ A1, A1 = (if c258_0 = ((ji22) : Int).toNat then A258_0 else (A258_0 : Option Addr).map (·.add (((ji22) : Int).toNat * 1))) := ⟨_, rfl⟩
                   obtain ⟨c37, hc37⟩ : ∃ c1, c1 = c258_0 - ((ji22) : Int).toNat := ⟨_, rfl⟩
                   have hy37 : y259.length = ((rd_T42 t242 t249).f0).length - ((ji22) : Int).toNat := (by rw [Ny259.out, List.length_drop] <;> omega)
                   rw [show ((rd_T42 t242 t249).f0).drop ((ji22) : Int).toNat = y259 from Ny259.out.symm] at hr37
                   replace hr37 : Kd.C (Kd.int .i64) _ A37 y259.length y259 := (by rw [hA37]; exact hr37)
                   rw [← hy37, ← hA37, ← hc37] at hcut37
                   have HR262 := Aside0.mk hr37
                   have HC262 := Aside0.mk (show y259.length ≤ c37 from by rw [hy37, hc37]; exact Nat.sub_le_sub_right hroom37 _)
                   clear hr37 hC37 hroom37 hi037 hsz37 hc37
                   have KY37 := Aside0.mk hy37
                   have KA37 := Aside0.mk hA37
                   clear hy37 hA37
                   replace q37 := eq_true q37
                   refine start_ (n := 23) (S := fun w' => w'.cell? (ad250.add (x32_2).toNat) = some (.slice A250_0 ((rd_T42 t242 x32_2).f0).length c250_0) ∧ w'.cell? (ad250.add (t249).toNat) = some (.slice A258_0 ((rd_T42 t242 t249).f0).length c258_0)) (ds := [22]) #[false, false, false, false, false, false, false, false, false, false, false, false, false, false, false, false, false, false, false, false, false, false, false] (by kernel_rfl) rfl rfl ⟨hx250_0, hx258_0⟩ (fun hHeld => ?_); refine with_tabW impl_Uncrossed.tab14 impl_Uncrossed.bits14 (fun HT_ HW_ => ?_)
                   generalize w34.drew = w35 at HO_4 HO_6 HO_7 HB HL250_0 HL258_0 HR250_0 HR254 HR258_0 HR262 hx250_0 hx258_0 hHeld ⊢
                   refine pu_ 0 42 23 1 ?_ HT_ rfl rfl (by kernel_rfl) (fun _ _ _ h => h) (Or.inl ⟨by rfl, ?_⟩) ?_ ?_ ?_; rotate_left; (·intro w'; go_simp; with_reducible rfl); rotate_left; (·simp only [Act.put, pt_]; rfl)
                   refine pu_ 1 43 23 3 ?_ HT_ rfl rfl (by kernel_rfl) (fun _ _ _ h => h) (Or.inl ⟨by rfl, ?_⟩) ?_ ?_ ?_; rotate_left; (·intro w'; go_simp; with_reducible rfl); rotate_left; (·simp only [Act.put, pt_]; rfl)
                   refine pu_ 2 44 23 7 ?_ HT_ rfl rfl (by kernel_rfl) (fun _ _ _ h => h) (Or.inl ⟨by rfl, ?_⟩) ?_ ?_ ?_; rotate_left; (·intro w'; go_simp; with_reducible rfl); rotate_left; (·simp only [Act.put, pt_]; rfl)
                   refine pu_ 3 45 23 15 ?_ HT_ rfl rfl (by kernel_rfl) (fun _ _ _ h => h) (Or.inl ⟨by rfl, ?_⟩) ?_ ?_ ?_; rotate_left; (·intro w'; go_simp; with_reducible rfl); rotate_left; (·simp only [Act.put, pt_]; rfl)
                   refine pu_ 4 46 23 31 ?_ HT_ rfl rfl (by kernel_rfl) (fun _ _ _ h => h) (Or.inl ⟨by rfl, ?_⟩) ?_ ?_ ?_; rotate_left; (·intro w'; go_simp; with_reducible rfl); rotate_left; (·simp only [Act.put, pt_]; rfl)
                   refine pu_ 5 47 23 63 ?_ HT_ rfl rfl (by kernel_rfl) (fun _ _ _ h => h) (Or.inl ⟨by rfl, ?_⟩) ?_ ?_ ?_; rotate_left; (·intro w'; go_simp; with_reducible rfl); rotate_left; (·simp only [Act.put, pt_]; rfl)
                   refine pu_ 7 49 23 191 ?_ HT_ rfl rfl (by kernel_rfl) (fun _ _ _ h => h) (Or.inl ⟨by rfl, ?_⟩) ?_ ?_ ?_; rotate_left; (·intro w'; go_simp; with_reducible rfl); rotate_left; (·simp only [Act.put, pt_]; rfl)
                   refine pu_ 8 50 23 447 ?_ HT_ rfl rfl (by kernel_rfl) (fun _ _ _ h => h) (Or.inl ⟨by rfl, ?_⟩) ?_ ?_ ?_; rotate_left; (·intro w'; go_simp; with_reducible rfl); rotate_left; (·simp only [Act.put, pt_]; rfl)
                   refine pu_ 11 53 23 2495 ?_ HT_ rfl rfl (by kernel_rfl) (fun _ _ _ h => h) (Or.inl ⟨by rfl, ?_⟩) ?_ ?_ ?_; rotate_left; (·intro w'; go_simp; with_reducible rfl); rotate_left; (·simp only [Act.put, pt_]; rfl)
                   refine pu_ 12 54 23 6591 ?_ HT_ rfl rfl (by kernel_rfl) (fun _ _ _ h => h) (Or.inl ⟨by rfl, ?_⟩) ?_ ?_ ?_; rotate_left; (·intro w'; go_simp; with_reducible rfl); rotate_left; (·simp only [Act.put, pt_]; rfl)
                   refine pu_ 13 55 23 14783 ?_ HT_ rfl rfl (by kernel_rfl) (fun _ _ _ h => h) (Or.inl ⟨by rfl, ?_⟩) ?_ ?_ ?_; rotate_left; (·intro w'; go_simp; with_reducible rfl); rotate_left; (·simp only [Act.put, pt_]; rfl)
                   refine pu_ 14 56 23 31167 ?_ HT_ rfl rfl (by kernel_rfl) (fun _ _ _ h => h) (Or.inl ⟨by rfl, ?_⟩) ?_ ?_ ?_; rotate_left; (·intro w'; go_simp; with_reducible rfl); rotate_left; (·simp only [Act.put, pt_]; rfl)
                   refine pu_ 16 58 23 96703 ?_ HT_ rfl rfl (by kernel_rfl) (fun _ _ _ h => h) (Or.inl ⟨by rfl, ?_⟩) ?_ ?_ ?_; rotate_left; (·intro w'; go_simp; with_reducible rfl); rotate_left; (·simp only [Act.put, pt_]; rfl)
                   refine pu_ 17 59 23 227775 ?_ HT_ rfl rfl (by kernel_rfl) (fun _ _ _ h => h) (Or.inl ⟨by rfl, ?_⟩) ?_ ?_ ?_; rotate_left; (·intro w'; go_simp; with_reducible rfl); rotate_left; (·simp only [Act.put, pt_]; rfl)
                   refine tk_ 6 48 23 227839 ?_ HT_ HW_ rfl rfl (by kernel_rfl) (fun _ _ _ h => h) (Or.inl ⟨by rfl, ?_⟩) hHeld ?_ ?_ ?_; rotate_left; (·rintro w' ⟨s0, s1⟩; go_simp; with_reducible rfl); rotate_left; (·simp only [Act.put, pt_]; rfl)
                   refine pu_ 9 51 23 228351 ?_ HT_ rfl rfl (by kernel_rfl) (fun _ _ _ h => h) (Or.inl ⟨by rfl, ?_⟩) ?_ ?_ ?_; rotate_left; (·intro w'; go_simp; with_reducible rfl); rotate_left; (·simp only [Act.put, pt_]; rfl)
                   refine tk_ 15 57 23 261119 ?_ HT_ HW_ rfl rfl (by kernel_rfl) (fun _ _ _ h => h) (Or.inl ⟨by rfl, ?_⟩) hHeld ?_ ?_ ?_; rotate_left; (·rintro w' ⟨s0, s1⟩; go_simp; with_reducible rfl); rotate_left; (·simp only [Act.put, pt_]; rfl)
                   refine pu_ 18 60 23 523263 ?_ HT_ rfl rfl (by kernel_rfl) (fun _ _ _ h => h) (Or.inl ⟨by rfl, ?_⟩) ?_ ?_ ?_; rotate_left; (·intro w'; go_simp; with_reducible rfl); rotate_left; (·simp only [Act.put, pt_]; rfl)
                   refine one_ (i := 10) (N := some 52) (bs_ 23 524287) rfl rfl (one_of HT_.out (by kernel_rfl)) (by decide) (fun K hK => ?_)
                   refine goes_ Try.func57 (by kernel_rfl) rfl #[.slice A250_0 y251.length c250_0] (by rfl) rfl rfl (by (try simp only [List.map_toArray, List.map_cons, List.map_nil]); first | done | rfl | (simp only [List.length_drop, List.length_take]; rfl)) ?_
                   with_reducible refine (slices_Clone_int_int.calls _ _ y251 t255 _ ?side1 ?side2 A25.out).mono ?_
                   (case side1 => repeat (first | exact (by repeat (first | (with_reducible exact HR254.out) | (with_reducible refine Kd.C_alloc ?_ _) | (with_reducible refine Kd.C_drewN ?_ _) | (with_reducible refine Kd.C_drew ?_) | exact HR254.out)) | (with_reducible refine Kd.C_alloc ?_ _) | (with_reducible refine Kd.C_drewN ?_ _) | (with_reducible refine Kd.C_drew ?_)))
                   (case side2 => exact HC254.out)
                   rintro e w38 ⟨v256, rfl, ho0, hb⟩
                   have HS0_ := (hb.cell (World.block_lt_of_cell? _ _ (hHeld.1))).trans (hHeld.1)
                   have HS1_ := (hb.cell (World.block_lt_of_cell? _ _ (hHeld.2))).trans (hHeld.2)
                   refine ⟨_, rfl, ?_⟩
                   have n0_ := Aside0.mk (Kd.S_elder' (uS HO_4.out) (Kd.R_base ho0) hb)
                   have n1_ := Aside0.mk (Kd.S_elder' (uS HO_6.out) (Kd.R_base ho0) hb)
                   have n2_ := Aside0.mk (Kd.R_elder' (uR HO_7.out) (Kd.R_base ho0) hb)
                   have n3_ := Aside0.mk (Kd.R_elder' (uR HL250_0.out) (Kd.R_base ho0) hb)
                   have n4_ := Aside0.mk (Kd.R_elder' (uR HL258_0.out) (Kd.R_base ho0) hb)
                   have n5_ := Aside0.mk (Kd.R_lower (Kd.R_new' (Kd.R_new' (Kd.R_new' ho0 (Kd.R_lt (uR HO_7.out))) (Kd.R_lt (uR HL250_0.out))) (Kd.R_lt (uR HL258_0.out))) (below_size (uB HB.out)))
                   have n6_ := Aside0.mk (Kd.C_below (by repeat (first | (with_reducible exact HR250_0.out) | (with_reducible refine Kd.C_alloc ?_ _) | (with_reducible refine Kd.C_drewN ?_ _) | (with_reducible refine Kd.C_drew ?_) | exact HR250_0.out)) hb)
                   have n7_ := Aside0.mk (Kd.C_below (by repeat (first | (with_reducible exact HR254.out) | (with_reducible refine Kd.C_alloc ?_ _) | (with_reducible refine Kd.C_drewN ?_ _) | (with_reducible refine Kd.C_drew ?_) | exact HR254.out)) hb)
                   have n8_ := Aside0.mk (Kd.C_below (by repeat (first | (with_reducible exact HR258_0.out) | (with_reducible refine Kd.C_alloc ?_ _) | (with_reducible refine Kd.C_drewN ?_ _) | (with_reducible refine Kd.C_drew ?_) | exact HR258_0.out)) hb)
                   have n9_ := Aside0.mk (Kd.C_below (by repeat (first | (with_reducible exact HR262.out) | (with_reducible refine Kd.C_alloc ?_ _) | (with_reducible refine Kd.C_drewN ?_ _) | (with_reducible refine Kd.C_drew ?_) | exact HR262.out)) hb)
                   have n10_ := Aside0.mk (below_step (uB HB.out) hb)
                   clear HO_4
                   clear HO_6
                   clear HO_7
                   clear HL250_0
                   clear HL258_0
                   clear HR250_0
                   clear HR254
                   clear HR258_0
                   clear HR262
                   clear HB
                   have HO_4 := n0_
                   have HO_6 := n1_
                   have HO_7 := n2_
                   have HL250_0 := n3_
                   have HL258_0 := n4_
                   have HO257 := n5_
                   have HR250_0 := n6_
                   have HR254 := n7_
                   have HR258_0 := n8_
                   have HR262 := n9_
                   have HB := n10_
                   clear n0_ n1_ n2_ n3_ n4_ n5_ n6_ n7_ n8_ n9_ n10_
                   (try clear hb)
                   (try clear hb2)
                   (try clear hk)
                   (try clear hi)
                   (try clear ho0)
                   refine hK.out _ _ ⟨HS0_, HS1_⟩ (fun hHeld => ?_)
                   clear hK K
                   refine norm_ (a' := ?_) ?_ ?_
                   rotate_left
                   ·show Act.put _ (some 52) _ = _
                    simp only [Act.put, pt_]
                    rfl
                   refine one_ (i := 19) (N := some 61) (bs_ 23 1048575) rfl rfl (one_of HT_.out (by kernel_rfl)) (by decide) (fun K hK => ?_)
                   refine Kd.R_append_rows_step (Kd.int .i64) (w0 := w) w.heap.size (by rfl) (.tmp 52) (.tmp 60) 34 3 (.int .i64 0) 8 rfl Try.underlying34 info3 rfl (by decide) (by omega) v256 t255 y259 _ _ _ (fun k_ => some k_ ≠ (.slice Ao33 t245.length co33 : Value).ownBlock ∧ some k_ ≠ (.slice A250_0 ((rd_T42 t242 x32_2).f0).length c250_0 : Value).ownBlock ∧ some k_ ≠ (.slice A258_0 ((rd_T42 t242 t249).f0).length c258_0 : Value).ownBlock) (fun _ => False) rfl rfl ?aO ?aR (fun _ _ h => h) (fun _ h => h.elim) ?aF ?aB ?aS ?aL ?_
                   (case aR => repeat (first | exact (by repeat (first | (with_reducible exact HR262.out) | (with_reducible refine Kd.C_alloc ?_ _) | (with_reducible refine Kd.C_drewN ?_ _) | (with_reducible refine Kd.C_drew ?_) | exact HR262.out)) | (with_reducible refine Kd.C_alloc ?_ _) | (with_reducible refine Kd.C_drewN ?_ _) | (with_reducible refine Kd.C_drew ?_)))
                   (case aB => exact (uB HB.out))
                   (case aF => exact (fun k_ hk => ⟨Kd.fresh' (Kd.R_lt (uR HO_7.out)) k_ hk, Kd.fresh' (Kd.R_lt (uR HL250_0.out)) k_ hk, Kd.fresh' (Kd.R_lt (uR HL258_0.out)) k_ hk⟩))
                   (case aO => exact (uR (Kd.R_mono HO257.out (fun _ hk => ⟨hk.1.1.2, ⟨hk.1.2, hk.2⟩⟩))))
                   (case aS => exact (below_size (uB HB.out)))
                   (case aL => have := LMc30.out; omega)
                   intro v264 w39 ho hb hg hat
                   have HS0_ := grown_off hg (uR HO257.out) (Kd.S_typed (uS HO_6.out)) (by decide) (hHeld.1) (by first | rfl | (rw [add_block]))
                   have HS1_ := grown_off hg (uR HO257.out) (Kd.S_typed (uS HO_6.out)) (by decide) (hHeld.2) (by first | rfl | (rw [add_block]))
                   rw [← Ny263.out] at ho
                   have n0_ := Aside0.mk (Kd.S_after (ok := (fun k_ => some k_ ≠ (.slice (some ad250) t242.length co13 : Value).ownBlock ∧ some k_ ≠ (.slice Ao33 t245.length co33 : Value).ownBlock)) (uS HO_4.out) hg hat)
                   have n1_ := Aside0.mk (Kd.S_after (ok := (fun k_ => some k_ ≠ (.slice Ao11 x4_2.length co11 : Value).ownBlock ∧ some k_ ≠ (.slice Ao33 t245.length co33 : Value).ownBlock)) (uS HO_6.out) hg hat)
                   have n2_ := Aside0.mk (Kd.R_after (ok := (fun _ => True)) (uR HO_7.out) hg hat)
                   have n3_ := Aside0.mk (Kd.R_after (ok := (fun k_ => some k_ ≠ (.slice Ao11 x4_2.length co11 : Value).ownBlock ∧ some k_ ≠ (.slice (some ad250) t242.length co13 : Value).ownBlock ∧ some k_ ≠ (.slice Ao33 t245.length co33 : Value).ownBlock)) (uR (Kd.R_mono HL250_0.out (fun _ hk => ⟨⟨hk.1.1.1, ⟨hk.1.2, hk.1.1.2⟩⟩, hk.2⟩))) hg hat)
                   have n4_ := Aside0.mk (Kd.R_after (ok := (fun k_ => some k_ ≠ (.slice Ao11 x4_2.length co11 : Value).ownBlock ∧ some k_ ≠ (.slice (some ad250) t242.length co13 : Value).ownBlock ∧ some k_ ≠ (.slice Ao33 t245.length co33 : Value).ownBlock)) (uR (Kd.R_mono HL258_0.out (fun _ hk => ⟨⟨hk.1.1.1, ⟨hk.1.2, hk.1.1.2⟩⟩, hk.2⟩))) hg hat)
                   have n5_ := Aside0.mk (hb)
                   have n6_ := Aside0.mk (ho)
                   clear HO_4
                   clear HO_6
                   clear HO_7
                   clear HL250_0
                   clear HL258_0
                   clear HB
                   clear HO257
                   have HO_4 := n0_
                   have HO_6 := n1_
                   have HO_7 := n2_
                   have HL250_0 := n3_
                   have HL258_0 := n4_
                   have HB := n5_
                   have HO265 := n6_
                   clear n0_ n1_ n2_ n3_ n4_ n5_ n6_
                   clear ho hb hg hat
                   have p32 : 0 ≤ (x32_2 : Int) := of_decide_eq_true (by first | (with_reducible assumption) | assumption)
                   have q32 : (x32_2 : Int) < ((x4_2.length : Int) : Int) := of_decide_eq_true (by first | (with_reducible assumption) | assumption)
                   obtain ⟨go32, co32, eo32, gb32, gl32, cl32, HG32⟩ := Kd.S_form HO_4.out (by omega)
                   (first | cases eo32 | (injection eo32 with ea_ en_ ec_; (first | subst ea_ | (injection ea_ with ea_; subst ea_)); subst ec_; clear en_))
                   have GB32 := Aside0.mk gb32
                   have GG32 := Aside0.mk HG32
                   clear gb32 gl32 HG32
                   obtain ⟨_, ce32, hcl32, hM32, hcc32, hfr32, _, _⟩ := Kd.S_elem HO_4.out z42 (x32_2 : Int) p32 q32
                   obtain ⟨ve32_0, rfl, ge32_0⟩ := k42_openM hM32
                   have hx32_0 := hcc32 0 _ rfl
                   have hf32_0 := hfr32 0
                   (try simp only [show (k42).sz = 1 from rfl, Nat.mul_one, Nat.add_zero] at hx32_0)
                   (try simp only [show (k42).sz = 1 from rfl, Nat.mul_one, Nat.add_zero] at hf32_0)
                   clear hcl32 hcc32 hfr32 hM32
                   replace p32 := eq_true p32
                   replace q32 := eq_true q32
                   have HX40 := Aside0.mk (show Kd.S k42 42 _ w.heap.size (fun k_ => ((fun k_ => some k_ ≠ (.slice (some ad250) t242.length co13 : Value).ownBlock ∧ some k_ ≠ (.slice Ao33 t245.length co33 : Value).ownBlock)) k_ ∧ ¬ (fun k_ => some k_ = (v264 : Value).ownBlock) k_) (.slice (some ⟨go32, 0, none⟩) x4_2.length co11) x4_2 from (Kd.S_mono (HO_4.out) (fun k_ hk => ⟨⟨hk.1.1, hk.1.2⟩, fun e_ => (hk.2) e_⟩)))
                   obtain ⟨oki40, ce40, hcl40, hM40, hcc40, hfr40, hoki40, hH40⟩ := Kd.S_elem HX40.out z42 (x32_2 : Int) (of_decide_eq_true (by first | (with_reducible assumption) | assumption)) (by have h_ : (x32_2 : Int) < ((x4_2.length : Int) : Int) := of_decide_eq_true (by first | (with_reducible assumption) | assumption); first | exact h_ | (have e_ := (Kd.S_reads' HO_4.out).1; omega) | simpa using h_)
                   obtain ⟨ve40_0, rfl, ge40_0⟩ := k42_openM hM40
                   have HP40 := (Kd.S_seg hH40 (of_decide_eq_true (by first | (with_reducible assumption) | assumption)) (by have h_ : (x32_2 : Int) < ((x4_2.length : Int) : Int) := of_decide_eq_true (by first | (with_reducible assumption) | assumption); first | exact h_ | (have e_ := (Kd.S_reads' HO_4.out).1; omega) | simpa using h_) (seg := [v264]) (j := 0) (show 1 ≤ 1 from by decide) (x' := (⟨y263⟩ : S42)) (k42_mkM _ _ _ (⟨y263⟩ : S42) (Kd.R_mono (Kd.R_tight rfl (Kd.R_mono (ok' := fun k_ => ((fun k_ => some k_ ≠ (.slice (some ad250) t242.length co13 : Value).ownBlock ∧ some k_ ≠ (.slice Ao33 t245.length co33 : Value).ownBlock)) k_ ∧ k_ ≠ go32) (Kd.R_apart' (Kd.R_apart' (HO265.out) (Kd.S_typed (uS HO_6.out)) (by decide)) (Kd.S_typed (uS HO_4.out)) (by decide)) (fun k_ hk => ⟨⟨hk.1.2, hk.1.1.1⟩, fun e_ => (hk.2) (by rw [e_]; rfl)⟩))) (fun _ h_ => Or.inr (h_)))) (fun _ hk => hk) (fun k_ hk_ => ((Kd.R_mono (ok' := fun k_ => ((fun k_ => some k_ ≠ (.slice (some ad250) t242.length co13 : Value).ownBlock ∧ some k_ ≠ (.slice Ao33 t245.length co33 : Value).ownBlock)) k_ ∧ k_ ≠ go32) (Kd.R_apart' (Kd.R_apart' (HO265.out) (Kd.S_typed (uS HO_6.out)) (by decide)) (Kd.S_typed (uS HO_4.out)) (by decide)) (fun k_ hk => ⟨⟨hk.1.2, hk.1.1.1⟩, fun e_ => (hk.2) (by rw [e_]; rfl)⟩))).1 k_ hk_.symm)).1
                   (try simp only [show (k42).sz = 1 from rfl, Nat.mul_one, Nat.add_zero] at HP40)
                   rw [← Ny266.out] at HP40
                   have HQ40 := Aside0.mk HP40
                   clear hcl40 hcc40 hfr40 hM40 HP40
                   refine hK.out _ _ ⟨HS0_, HS1_⟩ (fun hHeld => ?_)
                   clear hK K
                   refine norm_ (a' := ?_) ?_ ?_
                   rotate_left
                   ·show Act.put _ (some 61) _ = _
                    simp only [Act.put, pt_]
                    rfl
                   refine pu_ 20 62 23 2097151 ?_ HT_ rfl rfl (by kernel_rfl) (fun _ _ _ h => h) (Or.inl ⟨by rfl, ?_⟩) ?_ ?_ ?_; rotate_left; (·intro w'; go_simp; with_reducible rfl); rotate_left; (·simp only [Act.put, pt_]; rfl)
                   refine pu_ 21 63 23 4194303 ?_ HT_ rfl rfl (by kernel_rfl) (fun _ _ _ h => h) (Or.inl ⟨by rfl, ?_⟩) ?_ ?_ ?_; rotate_left; (·intro w'; go_simp; with_reducible rfl); rotate_left; (·simp only [Act.put, pt_]; rfl)
                   refine last_ (i := 22) (N := none) (bs_ 23 8388607) rfl rfl (one_of HT_.out (by kernel_rfl)) (by decide) (fun K hK => ?_)
                   refine skip_ (w1 := ?_) (by rfl) rfl ?_ ?_
                   rotate_left
                   ·(first | (go_simp; rfl) | (obtain ⟨A_, c_, e_⟩ := Kd.R_slice (v := v264) (Aside0.out (by assumption)); rw [e_]; go_simp; (try rw [← e_]); (first | done | rfl)))
                   refine hK.out _ _ ?_
                   clear hK K
                   refine done_ (done_of HT_.out (by kernel_rfl)) ?_
                   try go_wp2
                   (try simp only [← hl4_2])
                   (first | go_roundg k2 | (simp only [add_plain] at *; go_roundg k2))
                   case measure => have := HK1.out; have := HK2.out; omega
                   case rel => exact ⟨(y266), (wrap64 (x32_2 + 1)), (by first | rfl | (simp; done) | (simp [*]; done)), H', ⟨by have := HK1.out; have := HK2.out; omega⟩, ⟨by (try simp only [hl4_2]); (with_reducible repeat (first | apply Kd.S_alloc | apply Kd.S_drewN | apply Kd.S_drew)); exact HQ40.out⟩, ⟨by (try simp only [hl4_2]); (with_reducible repeat (first | apply Kd.S_alloc | apply Kd.S_drewN | apply Kd.S_drew)); exact Kd.S_mono (Kd.S_far (p := ⟨go32, (x32_2 : Int).toNat, none⟩) (Kd.S_mono HO_6.out (fun k_ hk => (⟨hk, fun e_ => hk.1.1 (by rw [e_]; rfl)⟩ : _ ∧ k_ ≠ go32))) (fun _ hk => hk.2) (v264)) (fun _ hk => ⟨hk.1.1.1, hk.1.1.2⟩)⟩, ⟨by (try simp only [hl4_2]); (with_reducible repeat (first | apply Kd.R_alloc | apply Kd.R_drewN | apply Kd.R_drew)); exact Kd.R_mono (Kd.R_far (p := ⟨go32, (x32_2 : Int).toNat, none⟩) (Kd.R_types HO_7.out GG32.out (by decide)) (fun _ hk => hk.2) (v264)) (fun _ hk => trivial)⟩, ⟨by repeat (first | (with_reducible first | exact HB.out | apply below_alloc | apply pw_below_drewN | apply below_drew1 | refine below_set ?_ GB32.out) | exact HB.out)⟩⟩
                  ·rw [if_neg c31] at H
                   exact absurd H (by simp)
                 ·rw [if_neg c30] at H
                  exact absurd H (by simp)
                ·rw [if_neg c29] at H
                 exact absurd H (by simp)
               ·rw [if_neg c27] at H
                exact absurd H (by simp)
              ·rw [if_neg c26] at H
               exact absurd H (by simp)
             ·rw [if_neg c24] at H
              exact absurd H (by simp)
            ·rw [if_neg c23] at H
             exact absurd H (by simp)
           ·rw [if_neg c21] at H
            exact absurd H (by simp)
          ·rw [if_neg c20] at H
           exact absurd H (by simp)
        ·rw [if_neg c15] at H
         have c15b0 : decide (x32_2 < (x4_1.length : Int)) = false := decide_eq_false c15
         have c15b0z := c15b0
         (try simp only [hl4_2] at c15b0z)
         clear c15
         have H' := Aside0.mk H
         clear H
         go_wp2
         (try simp only [← hl4_2])
         (first | go_roundg k2 | (simp only [add_plain] at *; go_roundg k2))
         case measure => have := HK1.out; have := HK2.out; omega
         case rel => exact ⟨(x4_2), (wrap64 (x5_1 + 1)), (by first | rfl | (simp; done) | (simp [*]; done)), H', ⟨by have := HK1.out; have := HK2.out; omega⟩, ⟨by (try simp only [hl4_2]); (with_reducible repeat (first | apply Kd.S_alloc | apply Kd.S_drewN | apply Kd.S_drew)); exact Kd.S_mono HO_4.out (fun _ hk => trivial)⟩, ⟨by repeat (first | (with_reducible first | exact HB.out | apply below_alloc | apply pw_below_drewN | apply below_drew1) | exact HB.out)⟩⟩
     ·rw [if_neg c8] at H
      have c8b0 : decide (x5_1 < (wrap64 ((((rd_T42 l0 0).f0).length : Int) - 1))) = false := decide_eq_false c8
      clear c8
      simp only [Option.some.injEq, Prod.mk.injEq] at H
      obtain ⟨rfl, rfl⟩ := H
      have p241 : 0 ≤ (0 : Int) := (by omega)
      have q241 : 0 < (l0.length : Int) := of_decide_eq_true (by first | (with_reducible assumption) | assumption)
      obtain ⟨ad241, A241_0, c241_0, e241, hx241_0, hl241_0, hi241_0⟩ := at_T42 HR0.out 0 p241 q241
      cases e241
      have qi241 : (0 < l0.length) = True := eq_true (by omega)
      (try rw [show ((0 : Int)).toNat = 0 from rfl] at hx241_0)
      (try rw [Addr.add_zero'] at hx241_0)
      replace hx241_0 := (HB.out.cell (World.block_lt_of_cell? w _ hx241_0)).trans hx241_0
      have HR241_0 := Aside0.mk hi241_0
      have HC241_0 := Aside0.mk hl241_0
      clear hi241_0 hl241_0
      replace p241 := eq_true p241
      replace q241 := eq_true q241
      go_wp2
      go_ret2
      exact ⟨_, by first | rfl | (simp [errW_none, errW_some] <;> rfl) | (simp [*, errW_none, errW_some] <;> rfl), by (with_reducible repeat (first | apply Kd.S_alloc | apply Kd.S_drewN | apply Kd.S_drew)); exact HO_4.out, by repeat (first | (with_reducible first | exact HB.out | apply below_alloc | apply pw_below_drewN | apply below_drew1) | exact HB.out)⟩
    ·rw [if_neg c7] at H
     exact absurd H (by simp)
 ·replace c3 := Bool.eq_false_iff.mpr c3
  subst c3
  have H1 : (some (([] : List (S42)), false)) = some (r1, r2) := by rw [if_neg (show ¬ (false = true) by decide)] at H; exact H
  clear H
  have H := H1
  clear H1
  simp only [Option.some.injEq, Prod.mk.injEq] at H
  obtain ⟨rfl, rfl⟩ := H
  go_enter Try.func29, Try.ntmps29
  go_wp2_with (first | ((with_reducible refine gate_callee (f := 52) rfl ?_); refine goesL_ (some 11) rfl rfl Try.func52 (by kernel_rfl) rfl #[.slice A0 l0.length c0] rfl (by (try simp only [List.map_toArray, List.map_cons, List.map_nil]); first | done | rfl | (simp only [List.length_drop, List.length_take]; rfl)) ?_; (with_reducible refine (impl_areRegular.calls k _ _ l0 false _ ?side1 ?side2 A2.out).mono ?_); (case side1 => exact uC HR0.out); (case side2 => exact HC0.out); rintro e w41 ⟨rfl, hb⟩; refine ⟨_, rfl, ?_⟩; have n0_ := Aside0.mk (below_step (uB HB.out) hb); clear HB; have HB := n0_; clear n0_; (try clear hb); (try clear hb2); (try clear hk); (try clear hi)))
  go_ret2
  exact ⟨_, by first | rfl | (simp [errW_none, errW_some] <;> rfl) | (simp [*, errW_none, errW_some] <;> rfl), by first | exact Kd.S_nil _ _ _ _ _ | exact Kd.N_nil _ _ _ _ _ | exact Kd.V_nil _ _ _ _ _ | exact Kd.Q_nil _ _ _ _ _ | exact Kd.R_nil _ _ _ _ _, by repeat (first | (with_reducible first | exact HB.out | apply below_alloc | apply pw_below_drewN | apply below_drew1) | exact HB.out)⟩

/-! ### laws_markIntS: function 35 -/
def laws_markIntS.l0 : Nat → List Int → Int → Int → Option (Int × List Int)
 | 0, _, _, _ => none
 | k + 1, x0, x1, x5 => if x5 < (x0.length : Int) then (if 0 ≤ x5 then (laws_markIntS.l0 k (x0.set (x5 : Int).toNat x1) (wrap64 (x1 + 1)) (wrap64 (x5 + 1))) else (none)) else (some (x1, x0))
def laws_markIntS.f (k : Nat) (l0 : List Int) (a1 : Int) : Option (Int × List Int) := laws_markIntS.l0 k l0 a1 0
set_option maxHeartbeats 8000000 in
set_option maxRecDepth 100000 in
theorem laws_markIntS.calls (k : Nat) (P0_ : Nat → Prop) (u9000_ : Value) (l0 : List Int) (a1 : Int) (r1 : Int) (r2 : List Int) (w0 w : World) (hB : Below w0.heap.size w0 w) (ho0 : Kd.R (Kd.int .i64) 3 w w0.heap.size P0_ u9000_ l0) (h : laws_markIntS.f k l0 a1 = some (r1, r2)) :
  Calls Try.prog 35 #[u9000_, .int .i64 a1] w fun e w' => e = .returned (.int .i64 r1) ∧ Kd.R (Kd.int .i64) 3 w' w0.heap.size (fun k_ => (P0_ k_ ∨ w.heap.size ≤ k_)) u9000_ r2 ∧ Below w0.heap.size w0 w' ∧ Kept w w' (fun k_ => P0_ k_) := by
 have HO0 := Aside0.mk (show Kd.R (Kd.int .i64) 3 w w0.heap.size (fun k_ => (P0_ k_ ∨ w.heap.size ≤ k_)) u9000_ l0 from Kd.R_mono ho0 (fun k_ hk => (.inl hk)))
 have HK := Aside0.mk (Kept.refl w (fun k_ => P0_ k_))
 have HW0 := Aside0.mk hB.size
 have HB := Aside0.mk hB
 clear hB
 have H : (laws_markIntS.l0 k l0 a1 0) = some (r1, r2) := h
 clear h
 have H' := Aside0.mk H
 clear H
 go_enter Try.func35, Try.ntmps35
 go_wp2
 go_loopg [1, 5] k (fun kq v1 v5 w' => ∃ (x0_1 : List Int) (x1_1 : Int) (x5_1 : Int), v1 = .int .i64 x1_1 ∧ v5 = .int .i64 x5_1 ∧ Aside0 (laws_markIntS.l0 kq x0_1 x1_1 x5_1 = some (r1, r2)) ∧ Aside0 (kq ≤ k) ∧ Aside0 (Kd.R (Kd.int .i64) 3 w' w0.heap.size (fun k_ => (P0_ k_ ∨ w.heap.size ≤ k_)) u9000_ x0_1) ∧ Aside0 (Kept w w' (fun k_ => P0_ k_)) ∧ Aside0 (Below w0.heap.size w0 w'))
 case atStart => exact ⟨(l0), (a1), (0), (by first | rfl | (simp; done) | (simp [*]; done)), (by first | rfl | (simp; done) | (simp [*]; done)), H', ⟨Nat.le_refl _⟩, ⟨by (with_reducible repeat (first | apply Kd.R_alloc | apply Kd.R_drewN | apply Kd.R_drew)); exact HO0.out⟩, ⟨by repeat (first | (with_reducible first | exact HK.out | apply Kept.alloc | apply Kept.drewN | apply Kept.drew) | exact HK.out)⟩, ⟨by repeat (first | (with_reducible first | exact HB.out | apply below_alloc | apply pw_below_drewN | apply below_drew1) | exact HB.out)⟩⟩
 case round =>
  clear H'
  try clear p2
  obtain ⟨x0_1, x1_1, x5_1, rfl, rfl, HA, HK1, HO_0, HK, HB⟩ := hrel
  cases gk with
  | zero => exact absurd HA.out (by simp [laws_markIntS.l0])
  | succ k1 =>
   have H := HA.out
   clear HA
   simp only [laws_markIntS.l0] at H
   by_cases c3 : x5_1 < (x0_1.length : Int)
   ·rw [if_pos c3] at H
    have c3b0 : decide (x5_1 < (x0_1.length : Int)) = true := decide_eq_true c3
    clear c3
    by_cases c4 : 0 ≤ x5_1
    ·rw [if_pos c4] at H
     have c4b0 : decide (0 ≤ x5_1) = true := decide_eq_true c4
     clear c4
     obtain ⟨y267, hy267⟩ : ∃ y_ : List Int, y_ = (x0_1.set (x5_1 : Int).toNat x1_1) := ⟨_, rfl⟩
     replace H : (laws_markIntS.l0 k1 y267 (wrap64 (x1_1 + 1)) (wrap64 (x5_1 + 1))) = some (r1, r2) := by first | (rw [hy267]; with_reducible exact H) | (have H2_ := (Option.bind_some _ _).symm.trans H; rw [hy267]; with_reducible exact H2_) | (have H2_ := (Option.bind_some _ _).symm.trans H; with_reducible exact H2_) | with_reducible exact H | (rw [hy267]; exact H) | exact H
     have Ny267 := Aside0.mk hy267
     clear hy267
     have H' := Aside0.mk H
     clear H
     obtain ⟨Ao6, co6, eo6⟩ := Kd.R_slice HO_0.out
     subst eo6
     have p5 : 0 ≤ (x5_1 : Int) := of_decide_eq_true (by first | (with_reducible assumption) | assumption)
     have q5 : (x5_1 : Int) < ((x0_1.length : Int) : Int) := of_decide_eq_true (by first | (with_reducible assumption) | assumption)
     obtain ⟨go5, co5, eo5, gb5, gl5, cl5, HG5⟩ := Kd.R_form HO_0.out (by omega)
     (first | cases eo5 | (injection eo5 with ea_ en_ ec_; (first | subst ea_ | (injection ea_ with ea_; subst ea_)); subst ec_; clear en_))
     have GB5 := Aside0.mk gb5
     have GG5 := Aside0.mk HG5
     clear gb5 gl5 HG5
     have HMgo5 := Aside0.mk (show (P0_ go5 ∨ w.heap.size ≤ go5) from (HO_0.out.1 _ rfl))
     obtain ⟨hx5_0, hf5_0⟩ := Kd.R_celln 0 HO_0.out (x5_1 : Int) p5 q5
     replace p5 := eq_true p5
     replace q5 := eq_true q5
     have HP7 := Kd.R_putg HO_0.out (x5_1 : Int) x1_1
     go_wp2_with (first | ((with_reducible refine gate_store (t := 3) (p := 15) rfl ?_); refine store_event (t := 3) (p := 15) (v := ?vo_w8) (w1 := (wr.setCell ⟨go5, (x5_1 : Int).toNat, none⟩ (.int .i64 x1_1))) ?hg ?ho ?hn ?hr ?_; (case ho => rfl); (case hg => rfl); (case hn => rfl); (case hr => first | (go_simp; done) | (go_simp; rfl)); intro w8 hw; have hg : wr.grownBy w8 (some go5) := (by rw [hw]; exact HP7.2); have hp_ : Kd.R (Kd.int .i64) 3 w8 w0.heap.size (fun k_ => (P0_ k_ ∨ w.heap.size ≤ k_)) (.slice (some ⟨go5, 0, none⟩) x0_1.length co6) y267 := (by rw [hw, Ny267.out]; exact HP7.1); clear HP7; have n0_ := Aside0.mk (hp_); have n1_ := Aside0.mk ((by rw [hw]; exact below_set (HB.out) GB5.out : Below w0.heap.size w0 w8)); have n2_ := Aside0.mk (Kept.of_grown (S := (fun k_ => P0_ k_)) hg (by repeat (first | (with_reducible first | exact HK.out | apply Kept.alloc | apply Kept.drewN | apply Kept.drew) | exact HK.out)) (fun k_ e_ => (HO_0.out.1 k_ e_))); clear HO_0; clear HB; clear HK; have HO_0 := n0_; have HB := n1_; have HK := n2_; clear n0_ n1_ n2_; clear hg hw hp_))
     (first | go_roundg k1 | (simp only [add_plain] at *; go_roundg k1))
     case measure => have := HK1.out; omega
     case rel => exact ⟨(y267), (wrap64 (x1_1 + 1)), (wrap64 (x5_1 + 1)), (by first | rfl | (simp; done) | (simp [*]; done)), (by first | rfl | (simp; done) | (simp [*]; done)), H', ⟨by have := HK1.out; omega⟩, ⟨by (with_reducible repeat (first | apply Kd.R_alloc | apply Kd.R_drewN | apply Kd.R_drew)); exact HO_0.out⟩, ⟨by repeat (first | (with_reducible first | exact HK.out | apply Kept.alloc | apply Kept.drewN | apply Kept.drew) | exact HK.out)⟩, ⟨by repeat (first | (with_reducible first | exact HB.out | apply below_alloc | apply pw_below_drewN | apply below_drew1) | exact HB.out)⟩⟩
    ·rw [if_neg c4] at H
     exact absurd H (by simp)
   ·rw [if_neg c3] at H
    have c3b0 : decide (x5_1 < (x0_1.length : Int)) = false := decide_eq_false c3
    clear c3
    simp only [Option.some.injEq, Prod.mk.injEq] at H
    obtain ⟨rfl, rfl⟩ := H
    obtain ⟨Ao9, co9, eo9⟩ := Kd.R_slice HO_0.out
    subst eo9
    go_wp2
    go_ret
    exact ⟨by first | rfl | (simp [errW_none, errW_some] <;> rfl) | (simp [*, errW_none, errW_some] <;> rfl), by (with_reducible repeat (first | apply Kd.R_alloc | apply Kd.R_drewN | apply Kd.R_drew)); exact HO_0.out, by repeat (first | (with_reducible first | exact HB.out | apply below_alloc | apply pw_below_drewN | apply below_drew1) | exact HB.out), by repeat (first | (with_reducible first | exact HK.out | apply Kept.alloc | apply Kept.drewN | apply Kept.drew) | exact HK.out)⟩

/-! ### laws_markWayS: function 30 -/
/-! ### markWayS: the cells of paths that are the call's own, and lie apart, are marked one after the other -/
def iotaQ (m : Int) : Nat → List Int
  | 0 => []
  | d + 1 => m :: iotaQ (m + 1) d
theorem iotaQ_length : ∀ (m : Int) (d : Nat), (iotaQ m d).length = d
  | _, 0 => rfl
  | m, d + 1 => by simp [iotaQ, iotaQ_length (m + 1) d]
theorem markIntQ_l0 : ∀ (d i k : Nat) (l : List Int) (m : Int), i + d = l.length → l.length ≤ 9223372036854775807 → 0 ≤ m → m + d ≤ 9223372036854775807 → d < k →
    laws_markIntS.l0 k l m (i : Int) = some (m + d, l.take i ++ iotaQ m d)
  | 0, i, k, l, m, hi, hn, h0, hm, hk => by
    obtain ⟨k, rfl⟩ : ∃ m, k = m + 1 := ⟨k - 1, by omega⟩
    simp only [laws_markIntS.l0]
    rw [if_neg (by omega), List.take_of_length_le (by omega)]
    simp [iotaQ]
  | d + 1, i, k, l, m, hi, hn, h0, hm, hk => by
    obtain ⟨k, rfl⟩ : ∃ m, k = m + 1 := ⟨k - 1, by omega⟩
    simp only [laws_markIntS.l0]
    rw [if_pos (by omega), if_pos (by omega), show wrap64 (m + 1) = m + 1 by unfold wrap64; omega, show wrap64 ((i : Int) + 1) = ((i + 1 : Nat) : Int) by unfold wrap64; omega, Int.toNat_natCast,
      markIntQ_l0 d (i + 1) k _ (m + 1) (by simp; omega) (by simpa using hn) (by omega) (by omega) (by omega)]
    have ht : (l.set i m).take (i + 1) = l.take i ++ [m] := by
      rw [List.take_succ_eq_append_getElem (by simp; omega)]
      simp [List.take_set_of_le]
    rw [ht, List.append_assoc]
    congr 1
    refine Prod.ext ?_ rfl
    show m + 1 + (d : Int) = m + ((d + 1 : Nat) : Int)
    omega
theorem markIntQ (l : List Int) (m : Int) (hn : l.length ≤ 9223372036854775807) (h0 : 0 ≤ m) (hm : m + l.length ≤ 9223372036854775807) : laws_markIntS.f (l.length + 1) l m = some (m + l.length, iotaQ m l.length) := by
  have := markIntQ_l0 l.length 0 (l.length + 1) l m (by omega) hn h0 hm (by omega)
  simpa [laws_markIntS.f] using this
def waysLen (l : List S42) : Nat := (l.map fun x => x.f0.length).sum
def waysMark : List S42 → Int → List S42
  | [], _ => []
  | x :: xs, m => ⟨iotaQ m x.f0.length⟩ :: waysMark xs (m + (x.f0.length : Int))
def laws_markWayS.f (l0 : List S42) (a1 : Int) : Option (Int × List S42) := if 0 ≤ a1 ∧ a1 + (waysLen l0 : Int) ≤ 9223372036854775807 then some (a1 + (waysLen l0 : Int), waysMark l0 a1) else none
theorem waysLen_take (l : List S42) (i : Nat) (h : i < l.length) : waysLen (l.take (i + 1)) = waysLen (l.take i) + (l[i]).f0.length := by
  unfold waysLen
  rw [List.take_succ_eq_append_getElem h, List.map_append, List.sum_append]
  simp only [List.map_cons, List.map_nil, List.sum_cons, List.sum_nil]
  omega
theorem waysLen_le (l : List S42) (i : Nat) : waysLen (l.take i) ≤ waysLen l := by
  unfold waysLen
  conv => rhs; rw [← List.take_append_drop i l, List.map_append, List.sum_append]
  omega
theorem waysMark_length : ∀ (l : List S42) (m : Int), (waysMark l m).length = l.length
  | [], _ => rfl
  | x :: xs, m => by simp [waysMark, waysMark_length xs]
theorem waysMark_get : ∀ (l : List S42) (m : Int) (i : Nat) (h : i < l.length), (waysMark l m)[i]? = some ⟨iotaQ (m + (waysLen (l.take i) : Int)) (l[i]).f0.length⟩
  | [], _, _, h => absurd h (by simp)
  | x :: xs, m, 0, _ => by simp [waysMark, waysLen]
  | x :: xs, m, i + 1, h => by
    have := waysMark_get xs (m + (x.f0.length : Int)) i (by simpa using h)
    simp only [waysMark, List.getElem?_cons_succ, List.take_succ_cons, List.getElem_cons_succ]
    rw [this]
    congr 3
    unfold waysLen
    simp only [List.map_cons, List.sum_cons]
    omega
set_option maxHeartbeats 8000000 in
set_option maxRecDepth 100000 in
theorem laws_markWayS.calls (P0_ : Nat → Prop) (u9000_ : Value) (l0 : List S42) (a1 : Int) (r1 : Int) (r2 : List S42) (w0 w : World) (hB : Below w0.heap.size w0 w) (ho0 : Kd.S k42 42 w w0.heap.size P0_ u9000_ l0) (h : laws_markWayS.f l0 a1 = some (r1, r2)) :
    Calls Try.prog 30 #[u9000_, .int .i64 a1] w fun e w' => e = .returned (.int .i64 r1) ∧ Kd.S k42 42 w' w0.heap.size (fun k_ => P0_ k_) u9000_ r2 ∧ Below w0.heap.size w0 w' ∧ Kept w w' (fun k_ => P0_ k_) := by
  have hu := Try.underlying42
  unfold laws_markWayS.f at h
  by_cases hc : 0 ≤ a1 ∧ a1 + (waysLen l0 : Int) ≤ 9223372036854775807
  · rw [if_pos hc] at h
    obtain ⟨h1, h2⟩ := Prod.mk.inj (Option.some.inj h)
    subst h1
    subst h2
    obtain ⟨A, c, rfl⟩ := Kd.R_slice (Kd.S_R ho0)
    have hn : l0.length ≤ 9223372036854775807 := (Kd.R_reads' (Kd.S_R ho0)).2.2.2.1
    have HLEN : Aside0 (∀ i, (hi : i < l0.length) → (l0[i]).f0.length ≤ 9223372036854775807) := ⟨fun i hi => by
      have := waysLen_take l0 i hi
      have := waysLen_le l0 (i + 1)
      omega⟩
    have HO := Aside0.mk ho0
    have HB := Aside0.mk hB
    have HC := Aside0.mk hc
    clear ho0 hB h hc
    go_enter Try.func30, Try.ntmps30
    go_wp2
    go_loopg [1, 5] l0.length (fun gg v1 v5 w' => ∃ (i : Nat) (cur : List S42), v1 = .int .i64 (a1 + (waysLen (l0.take i) : Int)) ∧ v5 = .int .i64 i ∧ i ≤ l0.length ∧ l0.length - i ≤ gg ∧ cur.length = l0.length ∧ Aside0 (cur.take i = (waysMark l0 a1).take i) ∧ Aside0 (cur.drop i = l0.drop i) ∧ Aside0 (Kd.S k42 42 w' w0.heap.size P0_ (.slice A l0.length c) cur) ∧ Aside0 (Below w0.heap.size w0 w') ∧ Aside0 (Kept w w' P0_))
    case atStart => exact ⟨0, l0, by simp [waysLen], rfl, by omega, by omega, rfl, ⟨rfl⟩, ⟨rfl⟩, HO, HB, ⟨Kept.refl _ _⟩⟩
    case round =>
      obtain ⟨i, cur, rfl, rfl, hin, hg, hcl, HT, HD, HS, HBr, HK⟩ := hrel
      clear HO HB
      by_cases hlt : i < l0.length
      · have hltz : (i : Int) < (l0.length : Int) := by omega
        have hxi : cur.getD (i : Int).toNat z42 = l0[i] := by
          have h := congrArg (fun z => z[0]?) HD.out
          simp only [List.getElem?_drop, Nat.add_zero] at h
          rw [List.getElem?_eq_getElem (by omega), List.getElem?_eq_getElem hlt] at h
          rw [Int.toNat_natCast, List.getD_eq_getElem?_getD, List.getElem?_eq_getElem (by omega)]
          exact Option.some.inj h
        have hpos : 0 < cur.length := by omega
        obtain ⟨g, cap, ev, hge, _, _⟩ := Kd.R_form (Kd.S_R HS.out) hpos
        rw [hcl] at ev
        injection ev with ea en ec
        subst ea
        subst ec
        obtain ⟨oki, cs, hcs, hM, hcell, hoki, hH⟩ := Kd.S_lend HS.out z42 (i : Int) (by omega) (by omega)
        rw [hxi] at hM
        obtain ⟨v0, rfl, hR⟩ := k42_openM hM
        obtain ⟨A0, c0, rfl⟩ := Kd.R_slice hR
        have hx := hcell 0 _ rfl
        rw [Int.toNat_natCast, show k42.sz = 1 from rfl, Nat.mul_one, Nat.add_zero] at hx
        have hwl := waysLen_take l0 i hlt
        have hwl2 := waysLen_le l0 (i + 1)
        have hmk := markIntQ (l0[i]).f0 (a1 + (waysLen (l0.take i) : Int)) (HLEN.out i hlt) (by have := HC.out; omega) (by have := HC.out; omega)
        have HCALL := Aside0.mk (laws_markIntS.calls ((l0[i]).f0.length + 1) oki (.slice A0 (l0[i]).f0.length c0) (l0[i]).f0 (a1 + (waysLen (l0.take i) : Int)) _ _ w0 wr HBr.out hR hmk)
        have HNEW : Aside0 ((waysMark l0 a1).take (i + 1) = (waysMark l0 a1).take i ++ [⟨iotaQ (a1 + (waysLen (l0.take i) : Int)) (l0[i]).f0.length⟩]) := ⟨by
          have hl : i < (waysMark l0 a1).length := by rw [waysMark_length]; exact hlt
          have := waysMark_get l0 a1 i hlt
          rw [List.getElem?_eq_getElem hl] at this
          rw [List.take_succ_eq_append_getElem hl, Option.some.inj this]⟩
        have HDn : Aside0 (cur.drop (i + 1) = l0.drop (i + 1)) := ⟨by have := congrArg (List.drop 1) HD.out; rwa [List.drop_drop, List.drop_drop] at this⟩
        have HW := Aside0.mk hwl
        have HH := Aside0.mk hH
        have HOKI := Aside0.mk hoki
        have HROK := Aside0.mk hR.1
        clear hcell hoki hH hM hR hmk hwl hwl2 hxi hpos hcs HLEN HC
        generalize iotaQ (a1 + (waysLen (l0.take i) : Int)) (l0[i]).f0.length = rl at HCALL HNEW
        generalize (l0[i]).f0.length = m at hx HCALL HW HH HROK
        generalize waysLen (l0.take i) = u at HCALL HW
        go_wp2_with (go_at_call 35; refine HCALL.out.mono ?_; rintro e w2 ⟨rfl, hy, hb, hk⟩; have HY := Aside0.mk hy; have HB2 := Aside0.mk hb; have HKM := Aside0.mk hk; clear hy hb hk)
        have HS2 := Aside0.mk (Kd.H_back (Kd.H_kept HH.out HKM.out (fun k _ hn => hn)) (k42_mkM w2 w0.heap.size oki ⟨rl⟩ (Kd.R_reok rfl HY.out HROK.out)) (fun _ h => h))
        have HK2 := Aside0.mk (HK.out.then_ HKM.out (fun k hk => .inl (HOKI.out k hk).1))
        rw [Int.toNat_natCast] at HS2
        go_roundg (l0.length - (i + 1))
        case measure => omega
        case rel => exact ⟨i + 1, cur.set i ⟨rl⟩, by rw [HW.out]; congr 1; omega, by go_num, by omega, by omega, by simpa using hcl, ⟨by rw [List.take_succ_eq_append_getElem (by simp; omega), HNEW.out, ← HT.out]; simp [List.take_set_of_le]⟩, ⟨by rw [List.drop_set_of_lt (by omega)]; exact HDn.out⟩, HS2, HB2, HK2⟩
      · have hltz : ¬ (i : Int) < (l0.length : Int) := by omega
        have hi : i = l0.length := by omega
        subst hi
        have HT2 : Aside0 (cur = waysMark l0 a1) := ⟨by
          have := HT.out
          rwa [List.take_of_length_le (by omega), List.take_of_length_le (by rw [waysMark_length]; omega)] at this⟩
        rw [List.take_length]
        clear HT HD
        go_wp2
        go_ret
        exact ⟨rfl, by rw [← HT2.out]; exact HS.out, HBr.out, HK.out⟩
  · rw [if_neg hc] at h
    cases h


/-! ### laws_heldIntS: function 36 -/
def laws_heldIntS.l0 : Nat → List Int → Int → Int → Option (Int)
 | 0, _, _, _ => none
 | k + 1, x0, x1, x5 => if x5 < (x0.length : Int) then (if 0 ≤ x5 then (if (rd x0 x5) = x1 then (laws_heldIntS.l0 k x0 (wrap64 (x1 + 1)) (wrap64 (x5 + 1))) else (some (-1))) else (none)) else (some x1)
def laws_heldIntS.f (k : Nat) (l0 : List Int) (a1 : Int) : Option (Int) := laws_heldIntS.l0 k l0 a1 0
set_option maxHeartbeats 8000000 in
set_option maxRecDepth 100000 in
theorem laws_heldIntS.calls (k : Nat) (A0 : Option Addr) (c0 : Nat) (l0 : List Int) (a1 : Int) (r : Int) (w : World) (hr0 : Kd.C (Kd.int .i64) w A0 l0.length l0) (hc0 : l0.length ≤ c0) (h : laws_heldIntS.f k l0 a1 = some r) :
  Calls Try.prog 36 #[.slice A0 l0.length c0, .int .i64 a1] w fun e w' => e = .returned (.int .i64 r) ∧ Drawn0 w w' := by
 have HR0 := Aside0.mk hr0
 have HC0 := Aside0.mk hc0
 clear hr0 hc0
 have H : (laws_heldIntS.l0 k l0 a1 0) = some r := h
 clear h
 have H' := Aside0.mk H
 clear H
 go_enter Try.func36, Try.ntmps36
 go_wp2
 go_loopg [1, 5] k (fun kq v1 v5 w' => ∃ (x1_1 : Int) (x5_1 : Int), v1 = .int .i64 x1_1 ∧ v5 = .int .i64 x5_1 ∧ Aside0 (laws_heldIntS.l0 kq l0 x1_1 x5_1 = some r) ∧ Aside0 (kq ≤ k) ∧ Drawn0 w w')
 case atStart => exact ⟨(a1), (0), (by first | rfl | (simp; done) | (simp [*]; done)), (by first | rfl | (simp; done) | (simp [*]; done)), H', ⟨Nat.le_refl _⟩, by repeat (first | exact Drawn0.refl _ | apply Drawn0.step)⟩
 case round =>
  clear H'
  try clear p2
  obtain ⟨x1_1, x5_1, rfl, rfl, HA, HK1, ⟨m1, rfl⟩⟩ := hrel
  cases gk with
  | zero => exact absurd HA.out (by simp [laws_heldIntS.l0])
  | succ k1 =>
   have H := HA.out
   clear HA
   simp only [laws_heldIntS.l0] at H
   by_cases c3 : x5_1 < (l0.length : Int)
   ·rw [if_pos c3] at H
    have c3b0 : decide (x5_1 < (l0.length : Int)) = true := decide_eq_true c3
    clear c3
    by_cases c4 : 0 ≤ x5_1
    ·rw [if_pos c4] at H
     have c4b0 : decide (0 ≤ x5_1) = true := decide_eq_true c4
     clear c4
     by_cases c5 : (rd l0 x5_1) = x1_1
     ·rw [if_pos c5] at H
      have c5b0 : ((rd l0 x5_1) == x1_1) = true := beq_iff_eq.mpr c5
      have c5b1 : ((rd l0 x5_1) != x1_1) = false := bne_eq_false_iff_eq.mpr c5
      clear c5
      have H' := Aside0.mk H
      clear H
      have p268 : 0 ≤ (x5_1 : Int) := of_decide_eq_true (by first | (with_reducible assumption) | assumption)
      have q268 : x5_1 < (l0.length : Int) := of_decide_eq_true (by first | (with_reducible assumption) | assumption)
      obtain ⟨ad268, e268, hx268_0⟩ := Kd.at_int HR0.out x5_1 p268 q268
      cases e268
      replace p268 := eq_true p268
      replace q268 := eq_true q268
      go_wp2
      go_roundg k1
      case measure => have := HK1.out; omega
      case rel => exact ⟨(wrap64 (x1_1 + 1)), (wrap64 (x5_1 + 1)), (by first | rfl | (simp; done) | (simp [*]; done)), (by first | rfl | (simp; done) | (simp [*]; done)), H', ⟨by have := HK1.out; omega⟩, by repeat (first | exact Drawn0.refl _ | apply Drawn0.step)⟩
     ·rw [if_neg c5] at H
      have c5b0 : ((rd l0 x5_1) == x1_1) = false := beq_eq_false_iff_ne.mpr c5
      have c5b1 : ((rd l0 x5_1) != x1_1) = true := bne_iff_ne.mpr c5
      obtain rfl := Option.some.inj H
      have p268 : 0 ≤ (x5_1 : Int) := of_decide_eq_true (by first | (with_reducible assumption) | assumption)
      have q268 : x5_1 < (l0.length : Int) := of_decide_eq_true (by first | (with_reducible assumption) | assumption)
      obtain ⟨ad268, e268, hx268_0⟩ := Kd.at_int HR0.out x5_1 p268 q268
      cases e268
      replace p268 := eq_true p268
      replace q268 := eq_true q268
      go_wp2
      go_ret
      exact ⟨by first | rfl | (simp; done) | (simp [*]; done), by repeat (first | exact Drawn0.refl _ | apply Drawn0.step)⟩
    ·rw [if_neg c4] at H
     exact absurd H (by simp)
   ·rw [if_neg c3] at H
    have c3b0 : decide (x5_1 < (l0.length : Int)) = false := decide_eq_false c3
    clear c3
    obtain rfl := Option.some.inj H
    go_wp2
    go_ret
    exact ⟨by first | rfl | (simp; done) | (simp [*]; done), by repeat (first | exact Drawn0.refl _ | apply Drawn0.step)⟩

end Go.Proofs.Ytbcljfbpkmlgpaa.Q
