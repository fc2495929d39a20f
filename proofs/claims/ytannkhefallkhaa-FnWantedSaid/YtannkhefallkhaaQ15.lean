-- Written by a session's own program (wip/tools/myprint.py) over the kit's printer, out of the translation. Not trusted: Lean checks it.
import Derived.Test.YtannkhefallkhaaQ0
import Derived.Test.YtannkhefallkhaaQ7
import Derived.Test.YtannkhefallkhaaQ8
import Derived.Test.YtannkhefallkhaaQ11
import Derived.Test.YtannkhefallkhaaQ12
import Derived.Test.YtannkhefallkhaaQ14
namespace Go.Proofs.Ytannkhefallkhaa.Q
open Go.RowKit Go.Proofs.YtannkhefallkhaaW.PrintWords Go.Proofs.YtannkhefallkhaaW.PrintLast Go.Proofs.YtannkhefallkhaaW.PrintMore
attribute [local go_sem] max2_int min2_int max_two min_two max_three min_three max_four min_four   -- for this text's walks alone
set_option linter.unusedVariables false
set_option linter.unusedSimpArgs false

/-! ### laws_FnWanted: function 4 -/
mutual
def laws_FnWanted.l0 : Nat → List Int → List Int → Int → List Int → List Int → Bool → Int → Int → Int → Int → ByteArray → Option (Bool)
 | 0, _, _, _, _, _, _, _, _, _, _, _ => none
 | k + 1, x4, x6, x7, x8, x9, x10, x11, x12, x572000, x572001, x572002 => if x12 < 6 then (if 0 ≤ x12 then (if x12 < (x6.length : Int) then (if (rd x6 x12) > 0 then (if x12 < (x8.length : Int) then (laws_FnWanted.l0 k x4 x6 x7 x8 x9 x10 (wrap64 (x11 + (rd x8 x12))) (wrap64 (x12 + 1)) x572000 x572001 x572002) else (none)) else (laws_FnWanted.l0 k x4 x6 x7 x8 x9 x10 x11 (wrap64 (x12 + 1)) x572000 x572001 x572002)) else (none)) else (none)) else (if x7 < x11 then (laws_FnWanted.j1 k x4 x6 x9 x10 x7 x572000 x572001 x572002) else (laws_FnWanted.j1 k x4 x6 x9 x10 x11 x572000 x572001 x572002))
def laws_FnWanted.j1 : Nat → List Int → List Int → List Int → Bool → Int → Int → Int → ByteArray → Option (Bool)
 | 0, _, _, _, _, _, _, _, _ => none
 | k + 1, x4, x6, x9, x10, x11, x572000, x572001, x572002 => if (x10 != (decide (x11 > 0))) = true then (laws_FnWanted.j2 k x4 x6 x9 true x572000 x572001 x572002) else (laws_FnWanted.j2 k x4 x6 x9 ((x9.length : Int) != x11) x572000 x572001 x572002)
def laws_FnWanted.j2 : Nat → List Int → List Int → List Int → Bool → Int → Int → ByteArray → Option (Bool)
 | 0, _, _, _, _, _, _, _ => none
 | k + 1, x4, x6, x9, x97, x572000, x572001, x572002 => if x97 = true then (some false) else (laws_FnWanted.l1 k x4 x6 x9 0 x572000 x572001 x572002)
def laws_FnWanted.l1 : Nat → List Int → List Int → List Int → Int → Int → Int → ByteArray → Option (Bool)
 | 0, _, _, _, _, _, _, _ => none
 | k + 1, x4, x6, x9, x13, x572000, x572001, x572002 => if x13 < (x9.length : Int) then (if 0 ≤ x13 then ((impl_ZoneOf.f k x572000 x572001 x572002 (rd x9 x13)).bind fun t612 => ((impl_ParkAt.f k x572000 x572001 x572002 (rd x9 x13)).bind fun t614 => (if t614 = true then ((laws_has.f k x4 (rd x9 x13)).bind fun t616 => (if t616 = true then (some false) else (if t612 < 0 then (some false) else (if 0 ≤ t612 then (if t612 < (x6.length : Int) then (if (rd x6 t612) = 0 then (some false) else (if x13 > 0 then (if 0 ≤ (wrap64 (x13 - 1)) then (if (wrap64 (x13 - 1)) < (x9.length : Int) then (if (rd x9 (wrap64 (x13 - 1))) ≥ (rd x9 x13) then (some false) else (laws_FnWanted.l1 k x4 x6 x9 (wrap64 (x13 + 1)) x572000 x572001 x572002)) else (none)) else (none)) else (laws_FnWanted.l1 k x4 x6 x9 (wrap64 (x13 + 1)) x572000 x572001 x572002))) else (none)) else (none))))) else (some false)))) else (none)) else (some true)
end
def laws_FnWanted.f (k : Nat) (l0 : List Int) : Option (Bool) := (laws_big.f l0).bind fun t564 => (if t564 = true then (some true) else ((spec_DrawSome.f k l0).bind fun bt565 => ((spec_DrawPlaces.f k l0).bind fun t572 => (if 0 < (t572.length : Int) then (if 1 < (t572.length : Int) then (if 2 < (t572.length : Int) then (if 3 < (t572.length : Int) then (if 4 < (t572.length : Int) then ((some (([Int.tmod (rd t572 0) 5, Int.tmod (rd t572 1) 3, Int.tmod (rd t572 2) 2, 0, Int.tmod (rd t572 3) 4, Int.tmod (rd t572 4) 2] : List Int) : List Int)).bind fun y580 => (if 5 < (t572.length : Int) then ((some (([] : List Int) : List Int)).bind fun y584 => (if y584.length + bt565.2.2.2.length < 17592186044416 then ((impl_RoomsOf.f k bt565.1 bt565.2.1 bt565.2.2.1 (y584 ++ bt565.2.2.2)).bind fun t590 => ((some (([] : List Int) : List Int)).bind fun y593 => (if y593.length + bt565.2.2.2.length < 17592186044416 then ((some (([] : List Int) : List Int)).bind fun y599 => (if y599.length + y580.length < 17592186044416 then ((impl_WantedOf.f k bt565.1 bt565.2.1 bt565.2.2.1 (y593 ++ bt565.2.2.2) (y599 ++ y580) (Int.tmod (rd t572 5) 7)).bind fun bt605 => (if (t590.length : Int) = 6 then (laws_FnWanted.l0 k bt565.2.2.2 y580 (Int.tmod (rd t572 5) 7) t590 bt605.1 bt605.2 0 0 bt565.1 bt565.2.1 bt565.2.2.1) else (some false))) else (none))) else (none)))) else (none))) else (none))) else (none)) else (none)) else (none)) else (none)) else (none)))))
def laws_FnWanted.T5 : Bool × List (List Nat × List Nat) := (true, [([], []), ([0], [0]), ([1], [1]), ([2], [2]), ([], []), ([4], [4]), ([5], [5]), ([6], [6]), ([], []), ([8], [8]), ([9], [9]), ([10], [10]), ([], []), ([12], [12]), ([13], [13]), ([14], [14]), ([], []), ([16], [16]), ([17], [17]), ([18], [18]), ([3, 7, 11, 15, 19], [3, 7, 11, 15, 19]), ([20, 0, 1, 2, 3, 4, 5, 6, 7, 8, 9, 10, 11, 12, 13, 14, 15, 16, 17, 18, 19, 20], [20])])
def laws_FnWanted.B5 : List Nat := [0, 1, 3, 7, 0, 16, 48, 112, 0, 256, 768, 1792, 0, 4096, 12288, 28672, 0, 65536, 196608, 458752, 1048575, 2097151]
theorem laws_FnWanted.tab5 : rtab .any (opsOf Try.f4 5) = laws_FnWanted.T5 := by kernel_rfl
theorem laws_FnWanted.bits5 : waitsOk laws_FnWanted.T5.2 laws_FnWanted.B5 = true := by kernel_rfl
def laws_FnWanted.T8 : Bool × List (List Nat × List Nat) := (true, [([], []), ([], []), ([], []), ([1, 2], [1, 2]), ([], []), ([], []), ([4, 5, 3], [4, 5]), ([], []), ([0, 3, 6, 7, 6], [0, 3, 6, 7]), ([8], [8]), ([9], [9]), ([9], [9]), ([10, 8, 0, 1, 2, 3, 4, 5, 6, 7, 8, 9, 10], [10]), ([11, 12, 0, 1, 2, 3, 4, 5, 6, 7, 8, 9, 10, 11, 12], [11])])
def laws_FnWanted.B8 : List Nat := [0, 0, 0, 6, 0, 0, 62, 0, 255, 511, 1023, 1023, 2047, 8191]
theorem laws_FnWanted.tab8 : rtab .any (opsOf Try.f4 8) = laws_FnWanted.T8 := by kernel_rfl
theorem laws_FnWanted.bits8 : waitsOk laws_FnWanted.T8.2 laws_FnWanted.B8 = true := by kernel_rfl
def laws_FnWanted.T25 : Bool × List (List Nat × List Nat) := (true, [([], []), ([], []), ([], []), ([1, 2], [1, 2]), ([3], [3]), ([0, 4], [0, 4]), ([5], [5]), ([6, 5], [6]), ([7], [7]), ([7], [7]), ([7], [7]), ([9, 10, 7], [7, 9, 10]), ([11, 7], [7, 11]), ([8, 12, 7, 7], [7, 8, 12]), ([7, 13], [7, 13]), ([14, 13], [14]), ([15], [15]), ([16, 15], [15, 16]), ([15, 17], [15, 17]), ([18, 15], [18]), ([19], [19]), ([19], [19]), ([20, 21, 19], [19, 20, 21]), ([22, 19], [19, 22]), ([23, 19], [19, 23]), ([19, 24], [19, 24]), ([25, 19], [25]), ([26], [26]), ([27, 26], [26, 27]), ([28, 26, 26], [26, 28]), ([29], [29]), ([29], [29]), ([31, 29], [29, 31]), ([30, 32, 29], [29, 30, 32]), ([33, 29], [29, 33]), ([29], [29]), ([29], [29]), ([35, 36, 29], [29, 35, 36]), ([37, 29], [29, 37]), ([34, 38, 29], [29, 34, 38]), ([29, 39, 26], [26, 29, 39]), ([26, 40], [26, 40])])
def laws_FnWanted.B25 : List Nat := [0, 0, 0, 6, 14, 31, 63, 127, 255, 255, 255, 1791, 3839, 8191, 16383, 32767, 65535, 131071, 262143, 524287, 1048575, 1048575, 4194303, 8388607, 16777215, 33554431, 67108863, 134217727, 268435455, 536870911, 1073741823, 1073741823, 3221225471, 8589934591, 17179869183, 1073741823, 1073741823, 104152956927, 241591910399, 549755813887, 1099511627775, 2199023255551]
theorem laws_FnWanted.tab25 : rtab .any (opsOf Try.f4 25) = laws_FnWanted.T25 := by kernel_rfl
theorem laws_FnWanted.bits25 : waitsOk laws_FnWanted.T25.2 laws_FnWanted.B25 = true := by kernel_rfl
set_option maxHeartbeats 8000000 in
set_option maxRecDepth 100000 in
theorem laws_FnWanted.calls (k : Nat) (A0 : Option Addr) (c0 : Nat) (l0 : List Int) (r : Bool) (w : World) (hr0 : Kd.C (Kd.int .u8) w A0 l0.length l0) (hc0 : l0.length ≤ c0) (hr_ : r = true) (h : laws_FnWanted.f k l0 = some r) :
  Calls Try.prog 4 #[.slice A0 l0.length c0] w fun e w' => e = .returned (.bool r) ∧ Below w.heap.size w w' := by
 have hu28 := Try.underlying28
 have HR0 := Aside0.mk hr0
 have HC0 := Aside0.mk hc0
 clear hr0 hc0
 have HB := Aside0.mk (Below.refl w.heap.size w)
 have H : ((laws_big.f l0).bind fun t564 => (if t564 = true then (some true) else ((spec_DrawSome.f k l0).bind fun bt565 => ((spec_DrawPlaces.f k l0).bind fun t572 => (if 0 < (t572.length : Int) then (if 1 < (t572.length : Int) then (if 2 < (t572.length : Int) then (if 3 < (t572.length : Int) then (if 4 < (t572.length : Int) then ((some (([Int.tmod (rd t572 0) 5, Int.tmod (rd t572 1) 3, Int.tmod (rd t572 2) 2, 0, Int.tmod (rd t572 3) 4, Int.tmod (rd t572 4) 2] : List Int) : List Int)).bind fun y580 => (if 5 < (t572.length : Int) then ((some (([] : List Int) : List Int)).bind fun y584 => (if y584.length + bt565.2.2.2.length < 17592186044416 then ((impl_RoomsOf.f k bt565.1 bt565.2.1 bt565.2.2.1 (y584 ++ bt565.2.2.2)).bind fun t590 => ((some (([] : List Int) : List Int)).bind fun y593 => (if y593.length + bt565.2.2.2.length < 17592186044416 then ((some (([] : List Int) : List Int)).bind fun y599 => (if y599.length + y580.length < 17592186044416 then ((impl_WantedOf.f k bt565.1 bt565.2.1 bt565.2.2.1 (y593 ++ bt565.2.2.2) (y599 ++ y580) (Int.tmod (rd t572 5) 7)).bind fun bt605 => (if (t590.length : Int) = 6 then (laws_FnWanted.l0 k bt565.2.2.2 y580 (Int.tmod (rd t572 5) 7) t590 bt605.1 bt605.2 0 0 bt565.1 bt565.2.1 bt565.2.2.1) else (some false))) else (none))) else (none)))) else (none))) else (none))) else (none)) else (none)) else (none)) else (none)) else (none)))))) = some r := h
 clear h
 replace H := Option.bind_eq_some_iff.mp H
 obtain ⟨t564, A20, H⟩ := H
 replace H : (if t564 = true then (some true) else ((spec_DrawSome.f k l0).bind fun bt565 => ((spec_DrawPlaces.f k l0).bind fun t572 => (if 0 < (t572.length : Int) then (if 1 < (t572.length : Int) then (if 2 < (t572.length : Int) then (if 3 < (t572.length : Int) then (if 4 < (t572.length : Int) then ((some (([Int.tmod (rd t572 0) 5, Int.tmod (rd t572 1) 3, Int.tmod (rd t572 2) 2, 0, Int.tmod (rd t572 3) 4, Int.tmod (rd t572 4) 2] : List Int) : List Int)).bind fun y580 => (if 5 < (t572.length : Int) then ((some (([] : List Int) : List Int)).bind fun y584 => (if y584.length + bt565.2.2.2.length < 17592186044416 then ((impl_RoomsOf.f k bt565.1 bt565.2.1 bt565.2.2.1 (y584 ++ bt565.2.2.2)).bind fun t590 => ((some (([] : List Int) : List Int)).bind fun y593 => (if y593.length + bt565.2.2.2.length < 17592186044416 then ((some (([] : List Int) : List Int)).bind fun y599 => (if y599.length + y580.length < 17592186044416 then ((impl_WantedOf.f k bt565.1 bt565.2.1 bt565.2.2.1 (y593 ++ bt565.2.2.2) (y599 ++ y580) (Int.tmod (rd t572 5) 7)).bind fun bt605 => (if (t590.length : Int) = 6 then (laws_FnWanted.l0 k bt565.2.2.2 y580 (Int.tmod (rd t572 5) 7) t590 bt605.1 bt605.2 0 0 bt565.1 bt565.2.1 bt565.2.2.1) else (some false))) else (none))) else (none)))) else (none))) else (none))) else (none)) else (none)) else (none)) else (none)) else (none))))) = some r := H
 have A2 := Aside0.mk A20
 clear A20
 by_cases c3 : t564 = true
 ·subst c3
  have H1 : (some true) = some r := by rw [if_pos rfl] at H; exact H
  clear H
  have H := H1
  clear H1
  obtain rfl := Option.some.inj H
  go_enter Try.func4, Try.ntmps4
  go_wp2_with (first | ((with_reducible refine gate_callee (f := 13) rfl ?_); refine goesL_ (some 16) rfl rfl Try.func13 (by kernel_rfl) rfl #[.slice A0 l0.length c0] rfl (by (try simp only [List.map_toArray, List.map_cons, List.map_nil]); first | done | rfl | (simp only [List.length_drop, List.length_take]; rfl)) ?_; (with_reducible refine (laws_big.calls _ _ l0 true _ ?side1 ?side2 A2.out).mono ?_); (case side1 => exact uC HR0.out); (case side2 => exact HC0.out); rintro e w' ⟨rfl, ⟨nd, rfl⟩⟩; refine ⟨_, rfl, ?_⟩))
  go_ret
  exact ⟨by first | rfl | (simp [errW_none, errW_some] <;> rfl) | (simp [*, errW_none, errW_some] <;> rfl), by repeat (first | (with_reducible first | exact HB.out | apply below_alloc | apply pw_below_drewN | apply below_drew1) | exact HB.out)⟩
 ·replace c3 := Bool.eq_false_iff.mpr c3
  subst c3
  have H1 : ((spec_DrawSome.f k l0).bind fun bt565 => ((spec_DrawPlaces.f k l0).bind fun t572 => (if 0 < (t572.length : Int) then (if 1 < (t572.length : Int) then (if 2 < (t572.length : Int) then (if 3 < (t572.length : Int) then (if 4 < (t572.length : Int) then ((some (([Int.tmod (rd t572 0) 5, Int.tmod (rd t572 1) 3, Int.tmod (rd t572 2) 2, 0, Int.tmod (rd t572 3) 4, Int.tmod (rd t572 4) 2] : List Int) : List Int)).bind fun y580 => (if 5 < (t572.length : Int) then ((some (([] : List Int) : List Int)).bind fun y584 => (if y584.length + bt565.2.2.2.length < 17592186044416 then ((impl_RoomsOf.f k bt565.1 bt565.2.1 bt565.2.2.1 (y584 ++ bt565.2.2.2)).bind fun t590 => ((some (([] : List Int) : List Int)).bind fun y593 => (if y593.length + bt565.2.2.2.length < 17592186044416 then ((some (([] : List Int) : List Int)).bind fun y599 => (if y599.length + y580.length < 17592186044416 then ((impl_WantedOf.f k bt565.1 bt565.2.1 bt565.2.2.1 (y593 ++ bt565.2.2.2) (y599 ++ y580) (Int.tmod (rd t572 5) 7)).bind fun bt605 => (if (t590.length : Int) = 6 then (laws_FnWanted.l0 k bt565.2.2.2 y580 (Int.tmod (rd t572 5) 7) t590 bt605.1 bt605.2 0 0 bt565.1 bt565.2.1 bt565.2.2.1) else (some false))) else (none))) else (none)))) else (none))) else (none))) else (none)) else (none)) else (none)) else (none)) else (none)))) = some r := by rw [if_neg (show ¬ (false = true) by decide)] at H; exact H
  clear H
  have H := H1
  clear H1
  replace H := Option.bind_eq_some_iff.mp H
  obtain ⟨⟨t565, t566, t567, t568⟩, A40, H⟩ := H
  replace H : ((spec_DrawPlaces.f k l0).bind fun t572 => (if 0 < (t572.length : Int) then (if 1 < (t572.length : Int) then (if 2 < (t572.length : Int) then (if 3 < (t572.length : Int) then (if 4 < (t572.length : Int) then ((some (([Int.tmod (rd t572 0) 5, Int.tmod (rd t572 1) 3, Int.tmod (rd t572 2) 2, 0, Int.tmod (rd t572 3) 4, Int.tmod (rd t572 4) 2] : List Int) : List Int)).bind fun y580 => (if 5 < (t572.length : Int) then ((some (([] : List Int) : List Int)).bind fun y584 => (if y584.length + t568.length < 17592186044416 then ((impl_RoomsOf.f k t565 t566 t567 (y584 ++ t568)).bind fun t590 => ((some (([] : List Int) : List Int)).bind fun y593 => (if y593.length + t568.length < 17592186044416 then ((some (([] : List Int) : List Int)).bind fun y599 => (if y599.length + y580.length < 17592186044416 then ((impl_WantedOf.f k t565 t566 t567 (y593 ++ t568) (y599 ++ y580) (Int.tmod (rd t572 5) 7)).bind fun bt605 => (if (t590.length : Int) = 6 then (laws_FnWanted.l0 k t568 y580 (Int.tmod (rd t572 5) 7) t590 bt605.1 bt605.2 0 0 t565 t566 t567) else (some false))) else (none))) else (none)))) else (none))) else (none))) else (none)) else (none)) else (none)) else (none)) else (none))) = some r := H
  have A4 := Aside0.mk A40
  clear A40
  replace H := Option.bind_eq_some_iff.mp H
  obtain ⟨t572, A50, H⟩ := H
  replace H : (if 0 < (t572.length : Int) then (if 1 < (t572.length : Int) then (if 2 < (t572.length : Int) then (if 3 < (t572.length : Int) then (if 4 < (t572.length : Int) then ((some (([Int.tmod (rd t572 0) 5, Int.tmod (rd t572 1) 3, Int.tmod (rd t572 2) 2, 0, Int.tmod (rd t572 3) 4, Int.tmod (rd t572 4) 2] : List Int) : List Int)).bind fun y580 => (if 5 < (t572.length : Int) then ((some (([] : List Int) : List Int)).bind fun y584 => (if y584.length + t568.length < 17592186044416 then ((impl_RoomsOf.f k t565 t566 t567 (y584 ++ t568)).bind fun t590 => ((some (([] : List Int) : List Int)).bind fun y593 => (if y593.length + t568.length < 17592186044416 then ((some (([] : List Int) : List Int)).bind fun y599 => (if y599.length + y580.length < 17592186044416 then ((impl_WantedOf.f k t565 t566 t567 (y593 ++ t568) (y599 ++ y580) (Int.tmod (rd t572 5) 7)).bind fun bt605 => (if (t590.length : Int) = 6 then (laws_FnWanted.l0 k t568 y580 (Int.tmod (rd t572 5) 7) t590 bt605.1 bt605.2 0 0 t565 t566 t567) else (some false))) else (none))) else (none)))) else (none))) else (none))) else (none)) else (none)) else (none)) else (none)) else (none)) = some r := H
  have A5 := Aside0.mk A50
  clear A50
  by_cases c6 : 0 < (t572.length : Int)
  ·rw [if_pos c6] at H
   have c6b0 : decide (0 < (t572.length : Int)) = true := decide_eq_true c6
   have c6b1 : decide (0 < t572.length) = true := decide_eq_true (by omega)
   clear c6
   by_cases c7 : 1 < (t572.length : Int)
   ·rw [if_pos c7] at H
    have c7b0 : decide (1 < (t572.length : Int)) = true := decide_eq_true c7
    have c7b1 : decide (1 < t572.length) = true := decide_eq_true (by omega)
    clear c7
    by_cases c8 : 2 < (t572.length : Int)
    ·rw [if_pos c8] at H
     have c8b0 : decide (2 < (t572.length : Int)) = true := decide_eq_true c8
     have c8b1 : decide (2 < t572.length) = true := decide_eq_true (by omega)
     clear c8
     by_cases c9 : 3 < (t572.length : Int)
     ·rw [if_pos c9] at H
      have c9b0 : decide (3 < (t572.length : Int)) = true := decide_eq_true c9
      have c9b1 : decide (3 < t572.length) = true := decide_eq_true (by omega)
      clear c9
      by_cases c10 : 4 < (t572.length : Int)
      ·rw [if_pos c10] at H
       have c10b0 : decide (4 < (t572.length : Int)) = true := decide_eq_true c10
       have c10b1 : decide (4 < t572.length) = true := decide_eq_true (by omega)
       clear c10
       obtain ⟨y580, hy580⟩ : ∃ y_ : List Int, y_ = (([Int.tmod (rd t572 0) 5, Int.tmod (rd t572 1) 3, Int.tmod (rd t572 2) 2, 0, Int.tmod (rd t572 3) 4, Int.tmod (rd t572 4) 2] : List Int)) := ⟨_, rfl⟩
       replace H : (if 5 < (t572.length : Int) then ((some (([] : List Int) : List Int)).bind fun y584 => (if y584.length + t568.length < 17592186044416 then ((impl_RoomsOf.f k t565 t566 t567 (y584 ++ t568)).bind fun t590 => ((some (([] : List Int) : List Int)).bind fun y593 => (if y593.length + t568.length < 17592186044416 then ((some (([] : List Int) : List Int)).bind fun y599 => (if y599.length + y580.length < 17592186044416 then ((impl_WantedOf.f k t565 t566 t567 (y593 ++ t568) (y599 ++ y580) (Int.tmod (rd t572 5) 7)).bind fun bt605 => (if (t590.length : Int) = 6 then (laws_FnWanted.l0 k t568 y580 (Int.tmod (rd t572 5) 7) t590 bt605.1 bt605.2 0 0 t565 t566 t567) else (some false))) else (none))) else (none)))) else (none))) else (none)) = some r := by first | (rw [hy580]; with_reducible exact H) | (have H2_ := (Option.bind_some _ _).symm.trans H; rw [hy580]; with_reducible exact H2_) | (have H2_ := (Option.bind_some _ _).symm.trans H; with_reducible exact H2_) | with_reducible exact H | (rw [hy580]; exact H) | exact H
       have Ny580 := Aside0.mk hy580
       clear hy580
       by_cases c11 : 5 < (t572.length : Int)
       ·rw [if_pos c11] at H
        have c11b0 : decide (5 < (t572.length : Int)) = true := decide_eq_true c11
        have c11b1 : decide (5 < t572.length) = true := decide_eq_true (by omega)
        clear c11
        obtain ⟨y584, hy584⟩ : ∃ y_ : List Int, y_ = (([] : List Int)) := ⟨_, rfl⟩
        replace H : (if y584.length + t568.length < 17592186044416 then ((impl_RoomsOf.f k t565 t566 t567 (y584 ++ t568)).bind fun t590 => ((some (([] : List Int) : List Int)).bind fun y593 => (if y593.length + t568.length < 17592186044416 then ((some (([] : List Int) : List Int)).bind fun y599 => (if y599.length + y580.length < 17592186044416 then ((impl_WantedOf.f k t565 t566 t567 (y593 ++ t568) (y599 ++ y580) (Int.tmod (rd t572 5) 7)).bind fun bt605 => (if (t590.length : Int) = 6 then (laws_FnWanted.l0 k t568 y580 (Int.tmod (rd t572 5) 7) t590 bt605.1 bt605.2 0 0 t565 t566 t567) else (some false))) else (none))) else (none)))) else (none)) = some r := by first | (rw [hy584]; with_reducible exact H) | (have H2_ := (Option.bind_some _ _).symm.trans H; rw [hy584]; with_reducible exact H2_) | (have H2_ := (Option.bind_some _ _).symm.trans H; with_reducible exact H2_) | with_reducible exact H | (rw [hy584]; exact H) | exact H
        have Ny584 := Aside0.mk hy584
        clear hy584
        by_cases c12 : y584.length + t568.length < 17592186044416
        ·rw [if_pos c12] at H
         have LMc12 := Aside0.mk c12
         clear c12
         obtain ⟨y587, hy587⟩ : ∃ y_ : List Int, y_ = (y584 ++ t568) := ⟨_, rfl⟩
         replace H : ((impl_RoomsOf.f k t565 t566 t567 y587).bind fun t590 => ((some (([] : List Int) : List Int)).bind fun y593 => (if y593.length + t568.length < 17592186044416 then ((some (([] : List Int) : List Int)).bind fun y599 => (if y599.length + y580.length < 17592186044416 then ((impl_WantedOf.f k t565 t566 t567 (y593 ++ t568) (y599 ++ y580) (Int.tmod (rd t572 5) 7)).bind fun bt605 => (if (t590.length : Int) = 6 then (laws_FnWanted.l0 k t568 y580 (Int.tmod (rd t572 5) 7) t590 bt605.1 bt605.2 0 0 t565 t566 t567) else (some false))) else (none))) else (none)))) = some r := by first | (rw [hy587]; with_reducible exact H) | (have H2_ := (Option.bind_some _ _).symm.trans H; rw [hy587]; with_reducible exact H2_) | (have H2_ := (Option.bind_some _ _).symm.trans H; with_reducible exact H2_) | with_reducible exact H | (rw [hy587]; exact H) | exact H
         have Ny587 := Aside0.mk hy587
         clear hy587
         replace H := Option.bind_eq_some_iff.mp H
         obtain ⟨t590, A130, H⟩ := H
         replace H : ((some (([] : List Int) : List Int)).bind fun y593 => (if y593.length + t568.length < 17592186044416 then ((some (([] : List Int) : List Int)).bind fun y599 => (if y599.length + y580.length < 17592186044416 then ((impl_WantedOf.f k t565 t566 t567 (y593 ++ t568) (y599 ++ y580) (Int.tmod (rd t572 5) 7)).bind fun bt605 => (if (t590.length : Int) = 6 then (laws_FnWanted.l0 k t568 y580 (Int.tmod (rd t572 5) 7) t590 bt605.1 bt605.2 0 0 t565 t566 t567) else (some false))) else (none))) else (none))) = some r := H
         have A13 := Aside0.mk A130
         clear A130
         obtain ⟨y593, hy593⟩ : ∃ y_ : List Int, y_ = (([] : List Int)) := ⟨_, rfl⟩
         replace H : (if y593.length + t568.length < 17592186044416 then ((some (([] : List Int) : List Int)).bind fun y599 => (if y599.length + y580.length < 17592186044416 then ((impl_WantedOf.f k t565 t566 t567 (y593 ++ t568) (y599 ++ y580) (Int.tmod (rd t572 5) 7)).bind fun bt605 => (if (t590.length : Int) = 6 then (laws_FnWanted.l0 k t568 y580 (Int.tmod (rd t572 5) 7) t590 bt605.1 bt605.2 0 0 t565 t566 t567) else (some false))) else (none))) else (none)) = some r := by first | (rw [hy593]; with_reducible exact H) | (have H2_ := (Option.bind_some _ _).symm.trans H; rw [hy593]; with_reducible exact H2_) | (have H2_ := (Option.bind_some _ _).symm.trans H; with_reducible exact H2_) | with_reducible exact H | (rw [hy593]; exact H) | exact H
         have Ny593 := Aside0.mk hy593
         clear hy593
         by_cases c14 : y593.length + t568.length < 17592186044416
         ·rw [if_pos c14] at H
          have LMc14 := Aside0.mk c14
          clear c14
          obtain ⟨y596, hy596⟩ : ∃ y_ : List Int, y_ = (y593 ++ t568) := ⟨_, rfl⟩
          replace H : ((some (([] : List Int) : List Int)).bind fun y599 => (if y599.length + y580.length < 17592186044416 then ((impl_WantedOf.f k t565 t566 t567 y596 (y599 ++ y580) (Int.tmod (rd t572 5) 7)).bind fun bt605 => (if (t590.length : Int) = 6 then (laws_FnWanted.l0 k t568 y580 (Int.tmod (rd t572 5) 7) t590 bt605.1 bt605.2 0 0 t565 t566 t567) else (some false))) else (none))) = some r := by first | (rw [hy596]; with_reducible exact H) | (have H2_ := (Option.bind_some _ _).symm.trans H; rw [hy596]; with_reducible exact H2_) | (have H2_ := (Option.bind_some _ _).symm.trans H; with_reducible exact H2_) | with_reducible exact H | (rw [hy596]; exact H) | exact H
          have Ny596 := Aside0.mk hy596
          clear hy596
          obtain ⟨y599, hy599⟩ : ∃ y_ : List Int, y_ = (([] : List Int)) := ⟨_, rfl⟩
          replace H : (if y599.length + y580.length < 17592186044416 then ((impl_WantedOf.f k t565 t566 t567 y596 (y599 ++ y580) (Int.tmod (rd t572 5) 7)).bind fun bt605 => (if (t590.length : Int) = 6 then (laws_FnWanted.l0 k t568 y580 (Int.tmod (rd t572 5) 7) t590 bt605.1 bt605.2 0 0 t565 t566 t567) else (some false))) else (none)) = some r := by first | (rw [hy599]; with_reducible exact H) | (have H2_ := (Option.bind_some _ _).symm.trans H; rw [hy599]; with_reducible exact H2_) | (have H2_ := (Option.bind_some _ _).symm.trans H; with_reducible exact H2_) | with_reducible exact H | (rw [hy599]; exact H) | exact H
          have Ny599 := Aside0.mk hy599
          clear hy599
          by_cases c15 : y599.length + y580.length < 17592186044416
          ·rw [if_pos c15] at H
           have LMc15 := Aside0.mk c15
           clear c15
           obtain ⟨y602, hy602⟩ : ∃ y_ : List Int, y_ = (y599 ++ y580) := ⟨_, rfl⟩
           replace H : ((impl_WantedOf.f k t565 t566 t567 y596 y602 (Int.tmod (rd t572 5) 7)).bind fun bt605 => (if (t590.length : Int) = 6 then (laws_FnWanted.l0 k t568 y580 (Int.tmod (rd t572 5) 7) t590 bt605.1 bt605.2 0 0 t565 t566 t567) else (some false))) = some r := by first | (rw [hy602]; with_reducible exact H) | (have H2_ := (Option.bind_some _ _).symm.trans H; rw [hy602]; with_reducible exact H2_) | (have H2_ := (Option.bind_some _ _).symm.trans H; with_reducible exact H2_) | with_reducible exact H | (rw [hy602]; exact H) | exact H
           have Ny602 := Aside0.mk hy602
           clear hy602
           replace H := Option.bind_eq_some_iff.mp H
           obtain ⟨⟨t605, t608⟩, A160, H⟩ := H
           replace H : (if (t590.length : Int) = 6 then (laws_FnWanted.l0 k t568 y580 (Int.tmod (rd t572 5) 7) t590 t605 t608 0 0 t565 t566 t567) else (some false)) = some r := H
           have A16 := Aside0.mk A160
           clear A160
           by_cases c17 : (t590.length : Int) = 6
           ·rw [if_pos c17] at H
            have c17b0 : ((t590.length : Int) == 6) = true := beq_iff_eq.mpr c17
            have c17b1 : ((t590.length : Int) != 6) = false := bne_eq_false_iff_eq.mpr c17
            clear c17
            have H' := Aside0.mk H
            clear H
            go_enter Try.func4, Try.ntmps4
            try go_wp2_with (first | ((with_reducible refine gate_callee (f := 13) rfl ?_); refine goesL_ (some 16) rfl rfl Try.func13 (by kernel_rfl) rfl #[.slice A0 l0.length c0] rfl (by (try simp only [List.map_toArray, List.map_cons, List.map_nil]); first | done | rfl | (simp only [List.length_drop, List.length_take]; rfl)) ?_; (with_reducible refine (laws_big.calls _ _ l0 false _ ?side1 ?side2 A2.out).mono ?_); (case side1 => exact uC HR0.out); (case side2 => exact HC0.out); rintro e w' ⟨rfl, ⟨nd, rfl⟩⟩; refine ⟨_, rfl, ?_⟩) | ((with_reducible refine gate_callee (f := 14) rfl ?_); refine goesL_ (some 19) rfl rfl Try.func14 (by kernel_rfl) rfl #[.slice A0 l0.length c0] rfl (by (try simp only [List.map_toArray, List.map_cons, List.map_nil]); first | done | rfl | (simp only [List.length_drop, List.length_take]; rfl)) ?_; (with_reducible refine (spec_DrawSome.calls k _ _ l0 t565 t566 t567 t568 _ ?side1 ?side2 A4.out).mono ?_); (case side1 => exact uC HR0.out); (case side2 => exact HC0.out); rintro e w18 ⟨v569, rfl, ho0, hb⟩; refine ⟨_, rfl, ?_⟩; have n0_ := Aside0.mk (Kd.R_lower ho0 (below_size (uB HB.out))); have n1_ := Aside0.mk (below_step (uB HB.out) hb); clear HB; have HO570 := n0_; have HB := n1_; clear n0_ n1_; (try clear hb); (try clear hb2); (try clear hk); (try clear hi); (try clear ho0)) | ((with_reducible refine gate_dst (N := 3) rfl ?_); (try (refine gate_guard (by rfl) ?_; dsimp only)); refine box_event ?hg (N := 3) ?hd (cs := #[.int .i64 0, .int .i64 0, .string (⟨#[]⟩ : ByteArray)]) (t := 28) ?hr ?_; (case hd => rfl); (case hg => rfl); (case hr => first | (go_simp; done) | (go_simp; rfl)); intro gb571 hg w19 hbox hb; have n0_ := Aside0.mk (Kd.R_below (uR HO570.out) hb); have n1_ := Aside0.mk (below_step (uB HB.out) hb); have n2_ := Aside0.mk (hbox); have n3_ := Aside0.mk ((by rw [hg]; exact (below_size (uB HB.out)) : w.heap.size ≤ gb571)); have n4_ := Aside0.mk ((by rw [hg]; exact (below_size (uB HB.out)) : w.heap.size ≤ gb571)); clear HO570; clear HB; have HO570 := n0_; have HB := n1_; have BK571 := n2_; have GW571 := n3_; have GE571 := n4_; clear n0_ n1_ n2_ n3_ n4_; clear hb hbox hg; have hcz20_0 : w19.cell? ⟨gb571, 0, none⟩ = some (.int .i64 0) := (blk_cell BK571.out 0).trans rfl; have hcz20_1 : w19.cell? ⟨gb571, 1, none⟩ = some (.int .i64 0) := (blk_cell BK571.out 1).trans rfl; have hcz20_2 : w19.cell? ⟨gb571, 2, none⟩ = some (.string (⟨#[]⟩ : ByteArray)) := (blk_cell BK571.out 2).trans rfl; have hfz20_0 := blk_frozen BK571.out 0; have hfz20_1 := blk_frozen BK571.out 1; have hfz20_2 := blk_frozen BK571.out 2) | ((with_reducible refine gate_callee (f := 15) rfl ?_); refine goesL_ (some 23) rfl rfl Try.func15 (by kernel_rfl) rfl #[.slice A0 l0.length c0] rfl (by (try simp only [List.map_toArray, List.map_cons, List.map_nil]); first | done | rfl | (simp only [List.length_drop, List.length_take]; rfl)) ?_; (with_reducible refine (spec_DrawPlaces.calls k _ _ l0 t572 _ ?side1 ?side2 A5.out).mono ?_); (case side1 => exact Kd.C_below HR0.out (by repeat (first | (with_reducible first | exact HB.out | apply below_alloc | apply pw_below_drewN | apply below_drew1 | refine below_set ?_ GE571.out) | exact HB.out))); (case side2 => exact HC0.out); rintro e w21 ⟨v573, rfl, ho0, hb⟩; refine ⟨_, rfl, ?_⟩; have n0_ := Aside0.mk (Kd.R_elder' (uR ((Kd.R_mono (Kd.R_far (p := ⟨gb571, 2, none⟩) (Kd.R_far (p := ⟨gb571, 1, none⟩) (Kd.R_far (p := ⟨gb571, 0, none⟩) (Kd.R_types HO570.out BK571.out (by decide)) (fun _ hk => hk.2) (.int .i64 t565)) (fun _ hk => hk.2) (.int .i64 t566)) (fun _ hk => hk.2) (.string t567)) (fun _ h_ => h_.1)))) (Kd.R_base ho0) hb); have n1_ := Aside0.mk (Kd.R_lower (Kd.R_new' ho0 (Kd.R_lt (uR ((Kd.R_mono (Kd.R_far (p := ⟨gb571, 2, none⟩) (Kd.R_far (p := ⟨gb571, 1, none⟩) (Kd.R_far (p := ⟨gb571, 0, none⟩) (Kd.R_types HO570.out BK571.out (by decide)) (fun _ hk => hk.2) (.int .i64 t565)) (fun _ hk => hk.2) (.int .i64 t566)) (fun _ hk => hk.2) (.string t567)) (fun _ h_ => h_.1)))))) (below_size (by repeat (first | (with_reducible first | exact HB.out | apply below_alloc | apply pw_below_drewN | apply below_drew1 | refine below_set ?_ GE571.out) | exact HB.out)))); have n2_ := Aside0.mk (blk_below (g := gb571) (o := .cells #[.int .i64 t565, .int .i64 t566, .string t567] 28 (0, 0)) (by (with_reducible repeat (first | refine blk_drewN ?_ _ | refine blk_drew ?_ | refine blk_alloc ?_ _)); refine blk_put (cs := #[.int .i64 t565, .int .i64 t566, .string (⟨#[]⟩ : ByteArray)]) ?_ 2 _ rfl; (with_reducible repeat (first | refine blk_drewN ?_ _ | refine blk_drew ?_ | refine blk_alloc ?_ _)); refine blk_put (cs := #[.int .i64 t565, .int .i64 0, .string (⟨#[]⟩ : ByteArray)]) ?_ 1 _ rfl; (with_reducible repeat (first | refine blk_drewN ?_ _ | refine blk_drew ?_ | refine blk_alloc ?_ _)); refine blk_put (cs := #[.int .i64 0, .int .i64 0, .string (⟨#[]⟩ : ByteArray)]) ?_ 0 _ rfl; (with_reducible repeat (first | refine blk_drewN ?_ _ | refine blk_drew ?_ | refine blk_alloc ?_ _)); exact BK571.out) hb); have n3_ := Aside0.mk (below_step (by repeat (first | (with_reducible first | exact HB.out | apply below_alloc | apply pw_below_drewN | apply below_drew1 | refine below_set ?_ GE571.out) | exact HB.out)) hb); clear HO570; clear BK571; clear HB; have HO570 := n0_; have HO574 := n1_; have BK571 := n2_; have HB := n3_; clear n0_ n1_ n2_ n3_; (try clear hb); (try clear hb2); (try clear hk); (try clear hi); (try clear ho0)))
            have n0_ := Aside0.mk (Kd.R_drew HO570.out)
            have n1_ := Aside0.mk (Kd.R_drew HO574.out)
            have n2_ := Aside0.mk (blk_drew BK571.out)
            have n3_ := Aside0.mk (below_drew1 HB.out)
            clear HO570
            clear HO574
            clear BK571
            clear HB
            have HO570 := n0_
            have HO574 := n1_
            have BK571 := n2_
            have HB := n3_
            clear n0_ n1_ n2_ n3_
            obtain ⟨Ao23, co23, eo23⟩ := Kd.R_slice HO574.out
            (first | subst eo23 | (injection eo23 with f1_ f2_ f3_; have f4_ := f1_.symm; have f5_ := f3_.symm; clear f1_ f2_ f3_; subst f4_; subst f5_))
            have p575 : 0 ≤ (0 : Int) := (by omega)
            have q575 : 0 < (t572.length : Int) := of_decide_eq_true (by first | (with_reducible assumption) | assumption)
            obtain ⟨ad575, e575, hx575_0⟩ := Kd.at_int (Kd.R_reads' HO574.out).2.2 0 p575 q575
            cases e575
            have qi575 : (0 < t572.length) = True := eq_true (by omega)
            (try rw [show ((0 : Int)).toNat = 0 from rfl] at hx575_0)
            (try rw [Addr.add_zero'] at hx575_0)
            replace p575 := eq_true p575
            replace q575 := eq_true q575
            have p576 : 0 ≤ (1 : Int) := (by omega)
            have q576 : 1 < (t572.length : Int) := of_decide_eq_true (by first | (with_reducible assumption) | assumption)
            obtain ⟨ad576, e576, hx576_0⟩ := Kd.at_int (Kd.R_reads' HO574.out).2.2 1 p576 q576
            obtain rfl : ad575 = ad576 := (by injection e576)
            (try simp only [show (1 : Int).toNat = 1 from rfl, Nat.reduceMul, Nat.reduceEqDiff, Go.Addr.add, ↓reduceIte] at hx576_0)
            have qi576 : (1 < t572.length) = True := eq_true (by omega)
            (try rw [show ((1 : Int)).toNat = 1 from rfl] at hx576_0)
            replace p576 := eq_true p576
            replace q576 := eq_true q576
            have p577 : 0 ≤ (2 : Int) := (by omega)
            have q577 : 2 < (t572.length : Int) := of_decide_eq_true (by first | (with_reducible assumption) | assumption)
            obtain ⟨ad577, e577, hx577_0⟩ := Kd.at_int (Kd.R_reads' HO574.out).2.2 2 p577 q577
            obtain rfl : ad575 = ad577 := (by injection e577)
            (try simp only [show (2 : Int).toNat = 2 from rfl, Nat.reduceMul, Nat.reduceEqDiff, Go.Addr.add, ↓reduceIte] at hx577_0)
            have qi577 : (2 < t572.length) = True := eq_true (by omega)
            (try rw [show ((2 : Int)).toNat = 2 from rfl] at hx577_0)
            replace p577 := eq_true p577
            replace q577 := eq_true q577
            have p578 : 0 ≤ (3 : Int) := (by omega)
            have q578 : 3 < (t572.length : Int) := of_decide_eq_true (by first | (with_reducible assumption) | assumption)
            obtain ⟨ad578, e578, hx578_0⟩ := Kd.at_int (Kd.R_reads' HO574.out).2.2 3 p578 q578
            obtain rfl : ad575 = ad578 := (by injection e578)
            (try simp only [show (3 : Int).toNat = 3 from rfl, Nat.reduceMul, Nat.reduceEqDiff, Go.Addr.add, ↓reduceIte] at hx578_0)
            have qi578 : (3 < t572.length) = True := eq_true (by omega)
            (try rw [show ((3 : Int)).toNat = 3 from rfl] at hx578_0)
            replace p578 := eq_true p578
            replace q578 := eq_true q578
            have p579 : 0 ≤ (4 : Int) := (by omega)
            have q579 : 4 < (t572.length : Int) := of_decide_eq_true (by first | (with_reducible assumption) | assumption)
            obtain ⟨ad579, e579, hx579_0⟩ := Kd.at_int (Kd.R_reads' HO574.out).2.2 4 p579 q579
            obtain rfl : ad575 = ad579 := (by injection e579)
            (try simp only [show (4 : Int).toNat = 4 from rfl, Nat.reduceMul, Nat.reduceEqDiff, Go.Addr.add, ↓reduceIte] at hx579_0)
            have qi579 : (4 < t572.length) = True := eq_true (by omega)
            (try rw [show ((4 : Int)).toNat = 4 from rfl] at hx579_0)
            replace p579 := eq_true p579
            replace q579 := eq_true q579
            refine start_ (n := 22) (S := fun w' => w'.cell? ad575 = some (.int .i64 (rd t572 0)) ∧ w'.cell? ⟨ad575.block, ad575.off + 1, none⟩ = some (.int .i64 (rd t572 1)) ∧ w'.cell? ⟨ad575.block, ad575.off + 2, none⟩ = some (.int .i64 (rd t572 2)) ∧ w'.cell? ⟨ad575.block, ad575.off + 3, none⟩ = some (.int .i64 (rd t572 3)) ∧ w'.cell? ⟨ad575.block, ad575.off + 4, none⟩ = some (.int .i64 (rd t572 4))) (ds := []) #[false, false, false, false, false, false, false, false, false, false, false, false, false, false, false, false, false, false, false, false, false, false] (by kernel_rfl) rfl rfl ⟨hx575_0, hx576_0, hx577_0, hx578_0, hx579_0⟩ (fun hHeld => ?_); refine with_tabW laws_FnWanted.tab5 laws_FnWanted.bits5 (fun HT_ HW_ => ?_)
            generalize w21.drew = w22 at HO570 HO574 BK571 HB hx575_0 hx576_0 hx577_0 hx578_0 hx579_0 hHeld ⊢
            refine pure_ (i := 0) (N := some 24) (v := ?_) (a' := ?_) #[true, false, false, false, false, false, false, false, false, false, false, false, false, false, false, false, false, false, false, false, false, false] rfl rfl (any_of HT_.out (by kernel_rfl)) (fun _ _ _ h => h) (Or.inl ⟨by rfl, ?_⟩) ?_ ?_
            rotate_left
            ·intro w'
             go_simp
             with_reducible rfl
            rotate_left
            ·simp only [Act.put, List.setIfInBounds_toArray, List.set_cons_zero, List.set_cons_succ, i64_w, i32_w]
             rfl
            refine pure_ (i := 1) (N := some 25) (v := ?_) (a' := ?_) #[true, true, false, false, false, false, false, false, false, false, false, false, false, false, false, false, false, false, false, false, false, false] rfl rfl (any_of HT_.out (by kernel_rfl)) (fun _ _ _ h => h) (Or.inl ⟨by rfl, ?_⟩) ?_ ?_
            rotate_left
            ·intro w'
             go_simp
             with_reducible rfl
            rotate_left
            ·simp only [Act.put, List.setIfInBounds_toArray, List.set_cons_zero, List.set_cons_succ, i64_w, i32_w]
             rfl
            refine pure_ (i := 4) (N := some 28) (v := ?_) (a' := ?_) #[true, true, false, false, true, false, false, false, false, false, false, false, false, false, false, false, false, false, false, false, false, false] rfl rfl (any_of HT_.out (by kernel_rfl)) (fun _ _ _ h => h) (Or.inl ⟨by rfl, ?_⟩) ?_ ?_
            rotate_left
            ·intro w'
             go_simp
             with_reducible rfl
            rotate_left
            ·simp only [Act.put, List.setIfInBounds_toArray, List.set_cons_zero, List.set_cons_succ, i64_w, i32_w]
             rfl
            refine pure_ (i := 5) (N := some 29) (v := ?_) (a' := ?_) #[true, true, false, false, true, true, false, false, false, false, false, false, false, false, false, false, false, false, false, false, false, false] rfl rfl (any_of HT_.out (by kernel_rfl)) (fun _ _ _ h => h) (Or.inl ⟨by rfl, ?_⟩) ?_ ?_
            rotate_left
            ·intro w'
             go_simp
             with_reducible rfl
            rotate_left
            ·simp only [Act.put, List.setIfInBounds_toArray, List.set_cons_zero, List.set_cons_succ, i64_w, i32_w]
             rfl
            refine pure_ (i := 8) (N := some 32) (v := ?_) (a' := ?_) #[true, true, false, false, true, true, false, false, true, false, false, false, false, false, false, false, false, false, false, false, false, false] rfl rfl (any_of HT_.out (by kernel_rfl)) (fun _ _ _ h => h) (Or.inl ⟨by rfl, ?_⟩) ?_ ?_
            rotate_left
            ·intro w'
             go_simp
             with_reducible rfl
            rotate_left
            ·simp only [Act.put, List.setIfInBounds_toArray, List.set_cons_zero, List.set_cons_succ, i64_w, i32_w]
             rfl
            refine pure_ (i := 9) (N := some 33) (v := ?_) (a' := ?_) #[true, true, false, false, true, true, false, false, true, true, false, false, false, false, false, false, false, false, false, false, false, false] rfl rfl (any_of HT_.out (by kernel_rfl)) (fun _ _ _ h => h) (Or.inl ⟨by rfl, ?_⟩) ?_ ?_
            rotate_left
            ·intro w'
             go_simp
             with_reducible rfl
            rotate_left
            ·simp only [Act.put, List.setIfInBounds_toArray, List.set_cons_zero, List.set_cons_succ, i64_w, i32_w]
             rfl
            refine pure_ (i := 12) (N := some 36) (v := ?_) (a' := ?_) #[true, true, false, false, true, true, false, false, true, true, false, false, true, false, false, false, false, false, false, false, false, false] rfl rfl (any_of HT_.out (by kernel_rfl)) (fun _ _ _ h => h) (Or.inl ⟨by rfl, ?_⟩) ?_ ?_
            rotate_left
            ·intro w'
             go_simp
             with_reducible rfl
            rotate_left
            ·simp only [Act.put, List.setIfInBounds_toArray, List.set_cons_zero, List.set_cons_succ, i64_w, i32_w]
             rfl
            refine pure_ (i := 13) (N := some 37) (v := ?_) (a' := ?_) #[true, true, false, false, true, true, false, false, true, true, false, false, true, true, false, false, false, false, false, false, false, false] rfl rfl (any_of HT_.out (by kernel_rfl)) (fun _ _ _ h => h) (Or.inl ⟨by rfl, ?_⟩) ?_ ?_
            rotate_left
            ·intro w'
             go_simp
             with_reducible rfl
            rotate_left
            ·simp only [Act.put, List.setIfInBounds_toArray, List.set_cons_zero, List.set_cons_succ, i64_w, i32_w]
             rfl
            refine pure_ (i := 16) (N := some 40) (v := ?_) (a' := ?_) #[true, true, false, false, true, true, false, false, true, true, false, false, true, true, false, false, true, false, false, false, false, false] rfl rfl (any_of HT_.out (by kernel_rfl)) (fun _ _ _ h => h) (Or.inl ⟨by rfl, ?_⟩) ?_ ?_
            rotate_left
            ·intro w'
             go_simp
             with_reducible rfl
            rotate_left
            ·simp only [Act.put, List.setIfInBounds_toArray, List.set_cons_zero, List.set_cons_succ, i64_w, i32_w]
             rfl
            refine pure_ (i := 17) (N := some 41) (v := ?_) (a' := ?_) #[true, true, false, false, true, true, false, false, true, true, false, false, true, true, false, false, true, true, false, false, false, false] rfl rfl (any_of HT_.out (by kernel_rfl)) (fun _ _ _ h => h) (Or.inl ⟨by rfl, ?_⟩) ?_ ?_
            rotate_left
            ·intro w'
             go_simp
             with_reducible rfl
            rotate_left
            ·simp only [Act.put, List.setIfInBounds_toArray, List.set_cons_zero, List.set_cons_succ, i64_w, i32_w]
             rfl
            refine take_ (i := 2) (N := some 26) (v := ?_) (a' := ?_) #[true, true, true, false, true, true, false, false, true, true, false, false, true, true, false, false, true, true, false, false, false, false] rfl rfl (take_ofW HT_.out HW_.out (by kernel_rfl)) (fun _ _ _ h => h) (Or.inl ⟨by rfl, ?_⟩) hHeld ?_ ?_
            rotate_left
            ·rintro w' ⟨s0, s1, s2, s3, s4⟩
             go_simp
             with_reducible rfl
            rotate_left
            ·simp only [Act.put, List.setIfInBounds_toArray, List.set_cons_zero, List.set_cons_succ, i64_w, i32_w]
             rfl
            refine pure_ (i := 3) (N := some 27) (v := ?_) (a' := ?_) #[true, true, true, true, true, true, false, false, true, true, false, false, true, true, false, false, true, true, false, false, false, false] rfl rfl (any_of HT_.out (by kernel_rfl)) (fun _ _ _ h => h) (Or.inl ⟨by rfl, ?_⟩) ?_ ?_
            rotate_left
            ·intro w'
             go_simp
             with_reducible rfl
            rotate_left
            ·simp only [Act.put, List.setIfInBounds_toArray, List.set_cons_zero, List.set_cons_succ, i64_w, i32_w]
             rfl
            refine take_ (i := 6) (N := some 30) (v := ?_) (a' := ?_) #[true, true, true, true, true, true, true, false, true, true, false, false, true, true, false, false, true, true, false, false, false, false] rfl rfl (take_ofW HT_.out HW_.out (by kernel_rfl)) (fun _ _ _ h => h) (Or.inl ⟨by rfl, ?_⟩) hHeld ?_ ?_
            rotate_left
            ·rintro w' ⟨s0, s1, s2, s3, s4⟩
             go_simp
             with_reducible rfl
            rotate_left
            ·simp only [Act.put, List.setIfInBounds_toArray, List.set_cons_zero, List.set_cons_succ, i64_w, i32_w]
             rfl
            refine pure_ (i := 7) (N := some 31) (v := ?_) (a' := ?_) #[true, true, true, true, true, true, true, true, true, true, false, false, true, true, false, false, true, true, false, false, false, false] rfl rfl (any_of HT_.out (by kernel_rfl)) (fun _ _ _ h => h) (Or.inl ⟨by rfl, ?_⟩) ?_ ?_
            rotate_left
            ·intro w'
             go_simp
             with_reducible rfl
            rotate_left
            ·simp only [Act.put, List.setIfInBounds_toArray, List.set_cons_zero, List.set_cons_succ, i64_w, i32_w]
             rfl
            refine take_ (i := 10) (N := some 34) (v := ?_) (a' := ?_) #[true, true, true, true, true, true, true, true, true, true, true, false, true, true, false, false, true, true, false, false, false, false] rfl rfl (take_ofW HT_.out HW_.out (by kernel_rfl)) (fun _ _ _ h => h) (Or.inl ⟨by rfl, ?_⟩) hHeld ?_ ?_
            rotate_left
            ·rintro w' ⟨s0, s1, s2, s3, s4⟩
             go_simp
             with_reducible rfl
            rotate_left
            ·simp only [Act.put, List.setIfInBounds_toArray, List.set_cons_zero, List.set_cons_succ, i64_w, i32_w]
             rfl
            refine pure_ (i := 11) (N := some 35) (v := ?_) (a' := ?_) #[true, true, true, true, true, true, true, true, true, true, true, true, true, true, false, false, true, true, false, false, false, false] rfl rfl (any_of HT_.out (by kernel_rfl)) (fun _ _ _ h => h) (Or.inl ⟨by rfl, ?_⟩) ?_ ?_
            rotate_left
            ·intro w'
             go_simp
             with_reducible rfl
            rotate_left
            ·simp only [Act.put, List.setIfInBounds_toArray, List.set_cons_zero, List.set_cons_succ, i64_w, i32_w]
             rfl
            refine take_ (i := 14) (N := some 38) (v := ?_) (a' := ?_) #[true, true, true, true, true, true, true, true, true, true, true, true, true, true, true, false, true, true, false, false, false, false] rfl rfl (take_ofW HT_.out HW_.out (by kernel_rfl)) (fun _ _ _ h => h) (Or.inl ⟨by rfl, ?_⟩) hHeld ?_ ?_
            rotate_left
            ·rintro w' ⟨s0, s1, s2, s3, s4⟩
             go_simp
             with_reducible rfl
            rotate_left
            ·simp only [Act.put, List.setIfInBounds_toArray, List.set_cons_zero, List.set_cons_succ, i64_w, i32_w]
             rfl
            refine pure_ (i := 15) (N := some 39) (v := ?_) (a' := ?_) #[true, true, true, true, true, true, true, true, true, true, true, true, true, true, true, true, true, true, false, false, false, false] rfl rfl (any_of HT_.out (by kernel_rfl)) (fun _ _ _ h => h) (Or.inl ⟨by rfl, ?_⟩) ?_ ?_
            rotate_left
            ·intro w'
             go_simp
             with_reducible rfl
            rotate_left
            ·simp only [Act.put, List.setIfInBounds_toArray, List.set_cons_zero, List.set_cons_succ, i64_w, i32_w]
             rfl
            refine take_ (i := 18) (N := some 42) (v := ?_) (a' := ?_) #[true, true, true, true, true, true, true, true, true, true, true, true, true, true, true, true, true, true, true, false, false, false] rfl rfl (take_ofW HT_.out HW_.out (by kernel_rfl)) (fun _ _ _ h => h) (Or.inl ⟨by rfl, ?_⟩) hHeld ?_ ?_
            rotate_left
            ·rintro w' ⟨s0, s1, s2, s3, s4⟩
             go_simp
             with_reducible rfl
            rotate_left
            ·simp only [Act.put, List.setIfInBounds_toArray, List.set_cons_zero, List.set_cons_succ, i64_w, i32_w]
             rfl
            refine pure_ (i := 19) (N := some 43) (v := ?_) (a' := ?_) #[true, true, true, true, true, true, true, true, true, true, true, true, true, true, true, true, true, true, true, true, false, false] rfl rfl (any_of HT_.out (by kernel_rfl)) (fun _ _ _ h => h) (Or.inl ⟨by rfl, ?_⟩) ?_ ?_
            rotate_left
            ·intro w'
             go_simp
             with_reducible rfl
            rotate_left
            ·simp only [Act.put, List.setIfInBounds_toArray, List.set_cons_zero, List.set_cons_succ, i64_w, i32_w]
             rfl
            refine one_ (i := 20) (N := some 44) #[true, true, true, true, true, true, true, true, true, true, true, true, true, true, true, true, true, true, true, true, true, false] rfl rfl (one_of HT_.out (by kernel_rfl)) (by decide) (fun K hK => ?_)
            refine Kd.R_lit_step (Kd.int .i64) _ 3 ?hg (N := 44) ?hd (xs := ([Int.tmod (rd t572 0) 5, Int.tmod (rd t572 1) 3, Int.tmod (rd t572 2) 2, 0, Int.tmod (rd t572 3) 4, Int.tmod (rd t572 4) 2] : List Int)) (inner := [.int .i64 (Int.tmod (rd t572 0) 5), .int .i64 (Int.tmod (rd t572 1) 3), .int .i64 (Int.tmod (rd t572 2) 2), .int .i64 0, .int .i64 (Int.tmod (rd t572 3) 4), .int .i64 (Int.tmod (rd t572 4) 2)]) (ok := fun _ => True) (okp := fun _ => True) ?hr ?hp (fun _ hk => hk) trivial (Below.refl _ _) (Nat.le_refl _) (by simp) ?_; (case hd => rfl); (case hg => rfl); (case hr => first | (go_simp; done) | (go_simp; rfl)); (case hp => exact (Reps.one (show Kd.M (Kd.int .i64) _ _ _ (Int.tmod (rd t572 0) 5) [.int .i64 (Int.tmod (rd t572 0) 5)] from rfl) (Reps.one (show Kd.M (Kd.int .i64) _ _ _ (Int.tmod (rd t572 1) 3) [.int .i64 (Int.tmod (rd t572 1) 3)] from rfl) (Reps.one (show Kd.M (Kd.int .i64) _ _ _ (Int.tmod (rd t572 2) 2) [.int .i64 (Int.tmod (rd t572 2) 2)] from rfl) (Reps.one (show Kd.M (Kd.int .i64) _ _ _ 0 [.int .i64 0] from rfl) (Reps.one (show Kd.M (Kd.int .i64) _ _ _ (Int.tmod (rd t572 3) 4) [.int .i64 (Int.tmod (rd t572 3) 4)] from rfl) (Reps.one (show Kd.M (Kd.int .i64) _ _ _ (Int.tmod (rd t572 4) 2) [.int .i64 (Int.tmod (rd t572 4) 2)] from rfl) (Reps.none _ _))))))))
            intro v581 w24 ho25 hb hg_ hnew_
            have HS0_ := (hb.cell (World.block_lt_of_cell? _ _ (hHeld.1))).trans (hHeld.1)
            have HS1_ := (hb.cell (World.block_lt_of_cell? _ _ (hHeld.2.1))).trans (hHeld.2.1)
            have HS2_ := (hb.cell (World.block_lt_of_cell? _ _ (hHeld.2.2.1))).trans (hHeld.2.2.1)
            have HS3_ := (hb.cell (World.block_lt_of_cell? _ _ (hHeld.2.2.2.1))).trans (hHeld.2.2.2.1)
            have HS4_ := (hb.cell (World.block_lt_of_cell? _ _ (hHeld.2.2.2.2))).trans (hHeld.2.2.2.2)
            clear hg_ hnew_
            (first | rw [← Ny580.out] at ho25 | (simp only [Int.reduceToNat] at ho25; rw [← Ny580.out] at ho25))
            have n0_ := Aside0.mk (Kd.R_elder' (uR HO570.out) (Kd.R_base ho25) hb)
            have n1_ := Aside0.mk (Kd.R_elder' (uR HO574.out) (Kd.R_base ho25) hb)
            have n2_ := Aside0.mk (Kd.R_lower (Kd.R_new' (Kd.R_new' ho25 (Kd.R_lt (uR HO570.out))) (Kd.R_lt (uR HO574.out))) (below_size (by repeat (first | (with_reducible first | exact HB.out | apply below_alloc | apply pw_below_drewN | apply below_drew1 | refine below_set ?_ GE571.out) | exact HB.out))))
            have n3_ := Aside0.mk (blk_below (g := gb571) (o := .cells #[.int .i64 t565, .int .i64 t566, .string t567] 28 (0, 0)) (by (with_reducible repeat (first | refine blk_drewN ?_ _ | refine blk_drew ?_ | refine blk_alloc ?_ _)); exact BK571.out) hb)
            have n4_ := Aside0.mk (below_step (by repeat (first | (with_reducible first | exact HB.out | apply below_alloc | apply pw_below_drewN | apply below_drew1 | refine below_set ?_ GE571.out) | exact HB.out)) hb)
            clear HO570
            clear HO574
            clear BK571
            clear HB
            have HO570 := n0_
            have HO574 := n1_
            have HO582 := n2_
            have BK571 := n3_
            have HB := n4_
            clear n0_ n1_ n2_ n3_ n4_
            clear hb ho25
            refine hK.out _ _ ⟨HS0_, HS1_, HS2_, HS3_, HS4_⟩ (fun hHeld => ?_)
            clear hK K
            refine norm_ (a' := ?_) ?_ ?_
            rotate_left
            ·show Act.put _ (some 44) _ = _
             simp only [Act.put, List.setIfInBounds_toArray, List.set_cons_zero, List.set_cons_succ, i64_w, i32_w]
             rfl
            refine pure_ (i := 21) (N := some 6) (v := ?_) (a' := ?_) #[true, true, true, true, true, true, true, true, true, true, true, true, true, true, true, true, true, true, true, true, true, true] rfl rfl (any_of HT_.out (by kernel_rfl)) (fun _ _ _ h => h) (Or.inl ⟨by rfl, ?_⟩) ?_ ?_
            rotate_left
            ·intro w'
             go_simp
             with_reducible rfl
            rotate_left
            ·simp only [Act.put, List.setIfInBounds_toArray, List.set_cons_zero, List.set_cons_succ, i64_w, i32_w]
             rfl
            refine done_ (done_of HT_.out (by kernel_rfl)) ?_
            have p583 : 0 ≤ (5 : Int) := (by omega)
            have q583 : 5 < (t572.length : Int) := of_decide_eq_true (by first | (with_reducible assumption) | assumption)
            obtain ⟨ad583, e583, hx583_0⟩ := Kd.at_int (Kd.R_reads' HO574.out).2.2 5 p583 q583
            obtain rfl : ad575 = ad583 := (by injection e583)
            (try simp only [show (5 : Int).toNat = 5 from rfl, Nat.reduceMul, Nat.reduceEqDiff, Go.Addr.add, ↓reduceIte] at hx583_0)
            have qi583 : (5 < t572.length) = True := eq_true (by omega)
            (try rw [show ((5 : Int)).toNat = 5 from rfl] at hx583_0)
            replace p583 := eq_true p583
            replace q583 := eq_true q583
            try go_wp2
            have n0_ := Aside0.mk (Kd.R_drew HO570.out)
            have n1_ := Aside0.mk (Kd.R_drew HO574.out)
            have n2_ := Aside0.mk (Kd.R_drew HO582.out)
            have n3_ := Aside0.mk (blk_drew BK571.out)
            have n4_ := Aside0.mk (below_drew1 HB.out)
            clear HO570
            clear HO574
            clear HO582
            clear BK571
            clear HB
            have HO570 := n0_
            have HO574 := n1_
            have HO582 := n2_
            have BK571 := n3_
            have HB := n4_
            clear n0_ n1_ n2_ n3_ n4_
            refine start_ (n := 6) (S := fun w' => w'.cell? ⟨gb571, 0, none⟩ = some (.int .i64 t565) ∧ w'.cell? ⟨gb571, 1, none⟩ = some (.int .i64 t566) ∧ w'.cell? ⟨gb571, 2, none⟩ = some (.string t567)) (ds := []) #[false, false, false, false, false, false] (by kernel_rfl) rfl rfl ⟨(blk_cell BK571.out 0).trans rfl, (blk_cell BK571.out 1).trans rfl, (blk_cell BK571.out 2).trans rfl⟩ (fun hHeld => ?_)
            generalize w24.drew = w26 at HO570 HO574 HO582 BK571 HB hHeld ⊢
            refine pure_ (i := 2) (N := some 51) (v := ?_) (a' := ?_) #[false, false, true, false, false, false] rfl rfl (by kernel_rfl) (fun _ _ _ h => h) (Or.inl ⟨by rfl, ?_⟩) ?_ ?_
            rotate_left
            ·intro w'
             go_simp
             with_reducible rfl
            rotate_left
            ·simp only [Act.put, List.setIfInBounds_toArray, List.set_cons_zero, List.set_cons_succ, i64_w, i32_w]
             rfl
            refine take_ (i := 0) (N := some 49) (v := ?_) (a' := ?_) #[true, false, true, false, false, false] rfl rfl (by kernel_rfl) (fun _ _ _ h => h) (Or.inl ⟨by rfl, ?_⟩) hHeld ?_ ?_
            rotate_left
            ·rintro w' ⟨s0, s1, s2⟩
             go_simp
             with_reducible rfl
            rotate_left
            ·simp only [Act.put, List.setIfInBounds_toArray, List.set_cons_zero, List.set_cons_succ, i64_w, i32_w]
             rfl
            refine one_ (i := 1) (N := some 50) #[true, true, true, false, false, false] rfl rfl (by kernel_rfl) (by decide) (fun K hK => ?_)
            refine Kd.R_lit_step (Kd.int .i64) _ 3 ?hg (N := 50) ?hd (xs := ([] : List Int)) (inner := []) (ok := fun _ => True) (okp := fun _ => True) ?hr ?hp (fun _ hk => hk) trivial (Below.refl _ _) (Nat.le_refl _) (by simp) ?_; (case hd => rfl); (case hg => rfl); (case hr => first | (go_simp; done) | (go_simp; rfl)); (case hp => exact (Reps.none _ _))
            intro v585 w27 ho28 hb hg_ hnew_
            clear hg_ hnew_
            (first | rw [← Ny584.out] at ho28 | (simp only [Int.reduceToNat] at ho28; rw [← Ny584.out] at ho28))
            have n0_ := Aside0.mk (Kd.R_elder' (uR HO570.out) (Kd.R_base ho28) hb)
            have n1_ := Aside0.mk (Kd.R_elder' (uR HO574.out) (Kd.R_base ho28) hb)
            have n2_ := Aside0.mk (Kd.R_elder' (uR HO582.out) (Kd.R_base ho28) hb)
            have n3_ := Aside0.mk (Kd.R_lower (Kd.R_new' (Kd.R_new' (Kd.R_new' ho28 (Kd.R_lt (uR HO570.out))) (Kd.R_lt (uR HO574.out))) (Kd.R_lt (uR HO582.out))) (below_size (by repeat (first | (with_reducible first | exact HB.out | apply below_alloc | apply pw_below_drewN | apply below_drew1 | refine below_set ?_ GE571.out) | exact HB.out))))
            have n4_ := Aside0.mk (blk_below (g := gb571) (o := .cells #[.int .i64 t565, .int .i64 t566, .string t567] 28 (0, 0)) (by (with_reducible repeat (first | refine blk_drewN ?_ _ | refine blk_drew ?_ | refine blk_alloc ?_ _)); exact BK571.out) hb)
            have n5_ := Aside0.mk (below_step (by repeat (first | (with_reducible first | exact HB.out | apply below_alloc | apply pw_below_drewN | apply below_drew1 | refine below_set ?_ GE571.out) | exact HB.out)) hb)
            clear HO570
            clear HO574
            clear HO582
            clear BK571
            clear HB
            have HO570 := n0_
            have HO574 := n1_
            have HO582 := n2_
            have HO586 := n3_
            have BK571 := n4_
            have HB := n5_
            clear n0_ n1_ n2_ n3_ n4_ n5_
            clear hb ho28
            obtain ⟨Ao30, co30, eo30⟩ := Kd.R_slice HO570.out
            (first | subst eo30 | (injection eo30 with f1_ f2_ f3_; have f4_ := f1_.symm; have f5_ := f3_.symm; clear f1_ f2_ f3_; subst f4_; subst f5_))
            refine hK.out _ _ ⟨(blk_cell BK571.out 0).trans rfl, (blk_cell BK571.out 1).trans rfl, (blk_cell BK571.out 2).trans rfl⟩ (fun hHeld => ?_)
            clear hK K
            refine norm_ (a' := ?_) ?_ ?_
            rotate_left
            ·show Act.put _ (some 50) _ = _
             simp only [Act.put, List.setIfInBounds_toArray, List.set_cons_zero, List.set_cons_succ, i64_w, i32_w]
             rfl
            refine one_ (i := 3) (N := some 52) #[true, true, true, true, false, false] rfl rfl (by kernel_rfl) (by decide) (fun K hK => ?_)
            refine Kd.R_append_rows_step (Kd.int .i64) (w0 := w) w.heap.size (by rfl) (.tmp 50) (.tmp 51) 24 3 (.int .i64 0) 8 rfl Try.underlying24 info3 rfl (by decide) (by omega) v585 y584 t568 _ _ _ (fun k_ => some k_ ≠ (.slice Ao30 t568.length co30 : Value).ownBlock ∧ some k_ ≠ (.slice (some ad575) t572.length co23 : Value).ownBlock ∧ some k_ ≠ (v581 : Value).ownBlock) (fun _ => False) rfl rfl ?aO ?aR (fun _ _ h => h) (fun _ h => h.elim) ?aF ?aB ?aS ?aL ?_
            (case aR => exact uC (Kd.R_reads' HO570.out).2.2)
            (case aB => exact (by repeat (first | (with_reducible first | exact HB.out | apply below_alloc | apply pw_below_drewN | apply below_drew1 | refine below_set ?_ GE571.out) | exact HB.out)))
            (case aF => exact (fun k_ hk => ⟨Kd.fresh' (Kd.R_lt (uR HO570.out)) k_ hk, Kd.fresh' (Kd.R_lt (uR HO574.out)) k_ hk, Kd.fresh' (Kd.R_lt (uR HO582.out)) k_ hk⟩))
            (case aO => exact (uR (Kd.R_mono HO586.out (fun _ hk => ⟨hk.1.1.2, ⟨hk.1.2, hk.2⟩⟩))))
            (case aS => exact (below_size (by repeat (first | (with_reducible first | exact HB.out | apply below_alloc | apply pw_below_drewN | apply below_drew1 | refine below_set ?_ GE571.out) | exact HB.out))))
            (case aL => have := LMc12.out; omega)
            intro v588 w29 ho hb hg hat
            rw [← Ny587.out] at ho
            have n0_ := Aside0.mk (Kd.R_after (ok := (fun k_ => some k_ ≠ (.slice (some ad575) t572.length co23 : Value).ownBlock ∧ some k_ ≠ (v581 : Value).ownBlock)) (uR (Kd.R_mono HO570.out (fun _ hk => ⟨⟨hk.1.1.2, hk.1.2⟩, hk.2⟩))) hg hat)
            have n1_ := Aside0.mk (blk_grown (g := gb571) (o := .cells #[.int .i64 t565, .int .i64 t566, .string t567] 28 (0, 0)) (by (with_reducible repeat (first | refine blk_drewN ?_ _ | refine blk_drew ?_ | refine blk_alloc ?_ _)); exact BK571.out) hg (Kd.R_ne HO586.out BK571.out (by decide)))
            have n2_ := Aside0.mk (Kd.R_after (ok := (fun k_ => some k_ ≠ (.slice Ao30 t568.length co30 : Value).ownBlock ∧ some k_ ≠ (v581 : Value).ownBlock)) (uR (Kd.R_mono HO574.out (fun _ hk => ⟨⟨hk.1.1.2, hk.1.2⟩, hk.2⟩))) hg hat)
            have n3_ := Aside0.mk (Kd.R_after (ok := (fun k_ => some k_ ≠ (.slice Ao30 t568.length co30 : Value).ownBlock ∧ some k_ ≠ (.slice (some ad575) t572.length co23 : Value).ownBlock)) (uR (Kd.R_mono HO582.out (fun _ hk => ⟨⟨hk.1.1.2, hk.1.2⟩, hk.2⟩))) hg hat)
            have n4_ := Aside0.mk (hb)
            have n5_ := Aside0.mk (ho)
            clear HO570
            clear BK571
            clear HO574
            clear HO582
            clear HB
            clear HO586
            have HO570 := n0_
            have BK571 := n1_
            have HO574 := n2_
            have HO582 := n3_
            have HB := n4_
            have HO589 := n5_
            clear n0_ n1_ n2_ n3_ n4_ n5_
            clear ho hb hg hat
            obtain ⟨Ao31, co31, eo31⟩ := Kd.R_slice HO589.out
            (first | subst eo31 | (injection eo31 with f1_ f2_ f3_; have f4_ := f1_.symm; have f5_ := f3_.symm; clear f1_ f2_ f3_; subst f4_; subst f5_))
            refine hK.out _ _ ⟨(blk_cell BK571.out 0).trans rfl, (blk_cell BK571.out 1).trans rfl, (blk_cell BK571.out 2).trans rfl⟩ (fun hHeld => ?_)
            clear hK K
            refine norm_ (a' := ?_) ?_ ?_
            rotate_left
            ·show Act.put _ (some 52) _ = _
             simp only [Act.put, List.setIfInBounds_toArray, List.set_cons_zero, List.set_cons_succ, i64_w, i32_w]
             rfl
            refine one_ (i := 4) (N := some 53) #[true, true, true, true, true, false] rfl rfl (by kernel_rfl) (by decide) (fun K hK => ?_)
            refine goes_ Try.func16 (by kernel_rfl) rfl #[.agg #[.int .i64 t565, .int .i64 t566, .string t567], .slice Ao31 y587.length co31] (by rfl) rfl rfl (by (try simp only [List.map_toArray, List.map_cons, List.map_nil]); first | done | rfl | (simp only [List.length_drop, List.length_take]; rfl)) ?_
            with_reducible refine (impl_RoomsOf.calls k t565 t566 t567 _ _ y587 t590 _ ?side1 ?side2 A13.out).mono ?_
            (case side1 => exact uC (Kd.R_reads' HO589.out).2.2)
            (case side2 => exact (Kd.R_reads' HO589.out).2.1)
            rintro e w32 ⟨v591, rfl, ho0, hb⟩
            refine ⟨_, rfl, ?_⟩
            have n0_ := Aside0.mk (Kd.R_elder' (uR HO570.out) (Kd.R_base ho0) hb)
            have n1_ := Aside0.mk (Kd.R_elder' (uR HO574.out) (Kd.R_base ho0) hb)
            have n2_ := Aside0.mk (Kd.R_elder' (uR HO582.out) (Kd.R_base ho0) hb)
            have n3_ := Aside0.mk (Kd.R_elder' (uR HO589.out) (Kd.R_base ho0) hb)
            have n4_ := Aside0.mk (Kd.R_lower (Kd.R_new' (Kd.R_new' (Kd.R_new' (Kd.R_new' ho0 (Kd.R_lt (uR HO570.out))) (Kd.R_lt (uR HO574.out))) (Kd.R_lt (uR HO582.out))) (Kd.R_lt (uR HO589.out))) (below_size (by repeat (first | (with_reducible first | exact HB.out | apply below_alloc | apply pw_below_drewN | apply below_drew1 | refine below_set ?_ GE571.out) | exact HB.out))))
            have n5_ := Aside0.mk (blk_below (g := gb571) (o := .cells #[.int .i64 t565, .int .i64 t566, .string t567] 28 (0, 0)) (by (with_reducible repeat (first | refine blk_drewN ?_ _ | refine blk_drew ?_ | refine blk_alloc ?_ _)); exact BK571.out) hb)
            have n6_ := Aside0.mk (below_step (by repeat (first | (with_reducible first | exact HB.out | apply below_alloc | apply pw_below_drewN | apply below_drew1 | refine below_set ?_ GE571.out) | exact HB.out)) hb)
            clear HO570
            clear HO574
            clear HO582
            clear HO589
            clear BK571
            clear HB
            have HO570 := n0_
            have HO574 := n1_
            have HO582 := n2_
            have HO589 := n3_
            have HO592 := n4_
            have BK571 := n5_
            have HB := n6_
            clear n0_ n1_ n2_ n3_ n4_ n5_ n6_
            (try clear hb)
            (try clear hb2)
            (try clear hk)
            (try clear hi)
            (try clear ho0)
            refine hK.out _ _ ⟨(blk_cell BK571.out 0).trans rfl, (blk_cell BK571.out 1).trans rfl, (blk_cell BK571.out 2).trans rfl⟩ (fun hHeld => ?_)
            clear hK K
            refine norm_ (a' := ?_) ?_ ?_
            rotate_left
            ·show Act.put _ (some 53) _ = _
             simp only [Act.put, List.setIfInBounds_toArray, List.set_cons_zero, List.set_cons_succ, i64_w, i32_w]
             rfl
            refine pure_ (i := 5) (N := some 8) (v := ?_) (a' := ?_) #[true, true, true, true, true, true] rfl rfl (by kernel_rfl) (fun _ _ _ h => h) (Or.inl ⟨by rfl, ?_⟩) ?_ ?_
            rotate_left
            ·intro w'
             go_simp
             with_reducible rfl
            rotate_left
            ·simp only [Act.put, List.setIfInBounds_toArray, List.set_cons_zero, List.set_cons_succ, i64_w, i32_w]
             rfl
            refine done_ (by kernel_rfl) ?_
            obtain ⟨Ao33, co33, eo33⟩ := Kd.R_slice HO582.out
            subst eo33
            try go_wp2
            have n0_ := Aside0.mk (Kd.R_drew HO570.out)
            have n1_ := Aside0.mk (Kd.R_drew HO574.out)
            have n2_ := Aside0.mk (Kd.R_drew HO582.out)
            have n3_ := Aside0.mk (Kd.R_drew HO589.out)
            have n4_ := Aside0.mk (Kd.R_drew HO592.out)
            have n5_ := Aside0.mk (blk_drew BK571.out)
            have n6_ := Aside0.mk (below_drew1 HB.out)
            clear HO570
            clear HO574
            clear HO582
            clear HO589
            clear HO592
            clear BK571
            clear HB
            have HO570 := n0_
            have HO574 := n1_
            have HO582 := n2_
            have HO589 := n3_
            have HO592 := n4_
            have BK571 := n5_
            have HB := n6_
            clear n0_ n1_ n2_ n3_ n4_ n5_ n6_
            refine start_ (n := 14) (S := fun w' => w'.cell? ⟨gb571, 0, none⟩ = some (.int .i64 t565) ∧ w'.cell? ⟨gb571, 1, none⟩ = some (.int .i64 t566) ∧ w'.cell? ⟨gb571, 2, none⟩ = some (.string t567)) (ds := []) #[false, false, false, false, false, false, false, false, false, false, false, false, false, false] (by kernel_rfl) rfl rfl ⟨(blk_cell BK571.out 0).trans rfl, (blk_cell BK571.out 1).trans rfl, (blk_cell BK571.out 2).trans rfl⟩ (fun hHeld => ?_); refine with_tabW laws_FnWanted.tab8 laws_FnWanted.bits8 (fun HT_ HW_ => ?_)
            generalize w32.drew = w34 at HO570 HO574 HO582 HO589 HO592 BK571 HB hHeld ⊢
            refine pure_ (i := 2) (N := some 57) (v := ?_) (a' := ?_) #[false, false, true, false, false, false, false, false, false, false, false, false, false, false] rfl rfl (any_of HT_.out (by kernel_rfl)) (fun _ _ _ h => h) (Or.inl ⟨by rfl, ?_⟩) ?_ ?_
            rotate_left
            ·intro w'
             go_simp
             with_reducible rfl
            rotate_left
            ·simp only [Act.put, List.setIfInBounds_toArray, List.set_cons_zero, List.set_cons_succ, i64_w, i32_w]
             rfl
            refine pure_ (i := 5) (N := some 60) (v := ?_) (a' := ?_) #[false, false, true, false, false, true, false, false, false, false, false, false, false, false] rfl rfl (any_of HT_.out (by kernel_rfl)) (fun _ _ _ h => h) (Or.inl ⟨by rfl, ?_⟩) ?_ ?_
            rotate_left
            ·intro w'
             go_simp
             with_reducible rfl
            rotate_left
            ·simp only [Act.put, List.setIfInBounds_toArray, List.set_cons_zero, List.set_cons_succ, i64_w, i32_w]
             rfl
            refine pure_ (i := 7) (N := some 62) (v := ?_) (a' := ?_) #[false, false, true, false, false, true, false, true, false, false, false, false, false, false] rfl rfl (any_of HT_.out (by kernel_rfl)) (fun _ _ _ h => h) (Or.inl ⟨by rfl, ?_⟩) ?_ ?_
            rotate_left
            ·intro w'
             go_simp
             with_reducible rfl
            rotate_left
            ·simp only [Act.put, List.setIfInBounds_toArray, List.set_cons_zero, List.set_cons_succ, i64_w, i32_w]
             rfl
            refine take_ (i := 0) (N := some 55) (v := ?_) (a' := ?_) #[true, false, true, false, false, true, false, true, false, false, false, false, false, false] rfl rfl (take_ofW HT_.out HW_.out (by kernel_rfl)) (fun _ _ _ h => h) (Or.inl ⟨by rfl, ?_⟩) hHeld ?_ ?_
            rotate_left
            ·rintro w' ⟨s0, s1, s2⟩
             go_simp
             with_reducible rfl
            rotate_left
            ·simp only [Act.put, List.setIfInBounds_toArray, List.set_cons_zero, List.set_cons_succ, i64_w, i32_w]
             rfl
            refine join_ (σ := Value × Value × Value) 7 #[true, true, true, true, true, true, false, true, false, false, false, false, false, false] (fun s_ => [(56, s_.1), (58, s_.2.1), (59, s_.2.2)]) (fun s_ w' => (w'.cell? ⟨gb571, 0, none⟩ = some (.int .i64 t565) ∧ w'.cell? ⟨gb571, 1, none⟩ = some (.int .i64 t566) ∧ w'.cell? ⟨gb571, 2, none⟩ = some (.string t567)) ∧ (Kd.R (Kd.int .i64) 3 w' w.heap.size (fun k_ => some k_ ≠ (.slice (some ad575) t572.length co23 : Value).ownBlock ∧ some k_ ≠ (.slice Ao33 y580.length co33 : Value).ownBlock ∧ some k_ ≠ (.slice Ao31 y587.length co31 : Value).ownBlock ∧ some k_ ≠ (v591 : Value).ownBlock ∧ some k_ ≠ (s_.2.1 : Value).ownBlock ∧ some k_ ≠ (s_.2.2 : Value).ownBlock) (.slice Ao30 t568.length co30) t568) ∧ (Kd.R (Kd.int .i64) 3 w' w.heap.size (fun k_ => some k_ ≠ (.slice Ao30 t568.length co30 : Value).ownBlock ∧ some k_ ≠ (.slice Ao33 y580.length co33 : Value).ownBlock ∧ some k_ ≠ (.slice Ao31 y587.length co31 : Value).ownBlock ∧ some k_ ≠ (v591 : Value).ownBlock ∧ some k_ ≠ (s_.2.1 : Value).ownBlock ∧ some k_ ≠ (s_.2.2 : Value).ownBlock) (.slice (some ad575) t572.length co23) t572) ∧ (Kd.R (Kd.int .i64) 3 w' w.heap.size (fun k_ => some k_ ≠ (.slice Ao30 t568.length co30 : Value).ownBlock ∧ some k_ ≠ (.slice (some ad575) t572.length co23 : Value).ownBlock ∧ some k_ ≠ (.slice Ao31 y587.length co31 : Value).ownBlock ∧ some k_ ≠ (v591 : Value).ownBlock ∧ some k_ ≠ (s_.2.1 : Value).ownBlock ∧ some k_ ≠ (s_.2.2 : Value).ownBlock) (.slice Ao33 y580.length co33) y580) ∧ (Kd.R (Kd.int .i64) 3 w' w.heap.size (fun k_ => some k_ ≠ (.slice Ao30 t568.length co30 : Value).ownBlock ∧ some k_ ≠ (.slice (some ad575) t572.length co23 : Value).ownBlock ∧ some k_ ≠ (.slice Ao33 y580.length co33 : Value).ownBlock ∧ some k_ ≠ (v591 : Value).ownBlock ∧ some k_ ≠ (s_.2.1 : Value).ownBlock ∧ some k_ ≠ (s_.2.2 : Value).ownBlock) (.slice Ao31 y587.length co31) y587) ∧ (Kd.R (Kd.int .i64) 3 w' w.heap.size (fun k_ => some k_ ≠ (.slice Ao30 t568.length co30 : Value).ownBlock ∧ some k_ ≠ (.slice (some ad575) t572.length co23 : Value).ownBlock ∧ some k_ ≠ (.slice Ao33 y580.length co33 : Value).ownBlock ∧ some k_ ≠ (.slice Ao31 y587.length co31 : Value).ownBlock ∧ some k_ ≠ (s_.2.1 : Value).ownBlock ∧ some k_ ≠ (s_.2.2 : Value).ownBlock) v591 t590) ∧ (Kd.R (Kd.int .i64) 3 w' w.heap.size (fun k_ => some k_ ≠ (.slice Ao30 t568.length co30 : Value).ownBlock ∧ some k_ ≠ (.slice (some ad575) t572.length co23 : Value).ownBlock ∧ some k_ ≠ (.slice Ao33 y580.length co33 : Value).ownBlock ∧ some k_ ≠ (.slice Ao31 y587.length co31 : Value).ownBlock ∧ some k_ ≠ (v591 : Value).ownBlock ∧ some k_ ≠ (s_.2.2 : Value).ownBlock) s_.2.1 y596) ∧ (Kd.R (Kd.int .i64) 3 w' w.heap.size (fun k_ => some k_ ≠ (.slice Ao30 t568.length co30 : Value).ownBlock ∧ some k_ ≠ (.slice (some ad575) t572.length co23 : Value).ownBlock ∧ some k_ ≠ (.slice Ao33 y580.length co33 : Value).ownBlock ∧ some k_ ≠ (.slice Ao31 y587.length co31 : Value).ownBlock ∧ some k_ ≠ (v591 : Value).ownBlock ∧ some k_ ≠ (s_.2.1 : Value).ownBlock) s_.2.2 y599) ∧ (w'.heap[gb571]? = some (.cells #[.int .i64 t565, .int .i64 t566, .string t567] 28 (0, 0))) ∧ (Below w.heap.size w w')) ?_ ?_
            rotate_left
            ·intro hCont
             refine two_ (i := 1) (j := 4) (Ni := some 56) (Nj := some 59) #[true, true, true, false, false, true, false, true, false, false, false, false, false, false] #[true, false, true, false, true, true, false, true, false, false, false, false, false, false] rfl rfl rfl rfl (two_of HT_.out (by kernel_rfl)) (by decide) (by decide) (fun K hK => ?_) (fun K hK => ?_)
             ·skip
              refine Kd.R_lit_step (Kd.int .i64) _ 3 ?hg (N := 56) ?hd (xs := ([] : List Int)) (inner := []) (ok := fun _ => True) (okp := fun _ => True) ?hr ?hp (fun _ hk => hk) trivial (Below.refl _ _) (Nat.le_refl _) (by simp) ?_; (case hd => rfl); (case hg => rfl); (case hr => first | (go_simp; done) | (go_simp; rfl)); (case hp => exact (Reps.none _ _))
              intro v594 w35 ho36 hb hg_ hnew_
              clear hg_ hnew_
              (first | rw [← Ny593.out] at ho36 | (simp only [Int.reduceToNat] at ho36; rw [← Ny593.out] at ho36))
              have n0_ := Aside0.mk (Kd.R_elder' (uR HO570.out) (Kd.R_base ho36) hb)
              have n1_ := Aside0.mk (Kd.R_elder' (uR HO574.out) (Kd.R_base ho36) hb)
              have n2_ := Aside0.mk (Kd.R_elder' (uR HO582.out) (Kd.R_base ho36) hb)
              have n3_ := Aside0.mk (Kd.R_elder' (uR HO589.out) (Kd.R_base ho36) hb)
              have n4_ := Aside0.mk (Kd.R_elder' (uR HO592.out) (Kd.R_base ho36) hb)
              have n5_ := Aside0.mk (Kd.R_lower (Kd.R_new' (Kd.R_new' (Kd.R_new' (Kd.R_new' (Kd.R_new' ho36 (Kd.R_lt (uR HO570.out))) (Kd.R_lt (uR HO574.out))) (Kd.R_lt (uR HO582.out))) (Kd.R_lt (uR HO589.out))) (Kd.R_lt (uR HO592.out))) (below_size (by repeat (first | (with_reducible first | exact HB.out | apply below_alloc | apply pw_below_drewN | apply below_drew1 | refine below_set ?_ GE571.out) | exact HB.out))))
              have n6_ := Aside0.mk (blk_below (g := gb571) (o := .cells #[.int .i64 t565, .int .i64 t566, .string t567] 28 (0, 0)) (by (with_reducible repeat (first | refine blk_drewN ?_ _ | refine blk_drew ?_ | refine blk_alloc ?_ _)); exact BK571.out) hb)
              have n7_ := Aside0.mk (below_step (by repeat (first | (with_reducible first | exact HB.out | apply below_alloc | apply pw_below_drewN | apply below_drew1 | refine below_set ?_ GE571.out) | exact HB.out)) hb)
              clear HO570
              clear HO574
              clear HO582
              clear HO589
              clear HO592
              clear BK571
              clear HB
              have HO570 := n0_
              have HO574 := n1_
              have HO582 := n2_
              have HO589 := n3_
              have HO592 := n4_
              have HO595 := n5_
              have BK571 := n6_
              have HB := n7_
              clear n0_ n1_ n2_ n3_ n4_ n5_ n6_ n7_
              clear hb ho36
              refine hK.out _ _ ⟨(blk_cell BK571.out 0).trans rfl, (blk_cell BK571.out 1).trans rfl, (blk_cell BK571.out 2).trans rfl⟩ (fun hHeld => ?_)
              clear hK K
              refine norm_ (a' := ?_) ?_ ?_
              rotate_left
              ·show Act.put _ (some 56) _ = _
               simp only [Act.put, List.setIfInBounds_toArray, List.set_cons_zero, List.set_cons_succ, i64_w, i32_w]
               rfl
              refine two_ (i := 3) (j := 4) (Ni := some 58) (Nj := some 59) #[true, true, true, true, false, true, false, true, false, false, false, false, false, false] #[true, true, true, false, true, true, false, true, false, false, false, false, false, false] rfl rfl rfl rfl (two_of HT_.out (by kernel_rfl)) (by decide) (by decide) (fun K hK => ?_) (fun K hK => ?_)
              ·skip
               refine Kd.R_append_rows_step (Kd.int .i64) (w0 := w) w.heap.size (by rfl) (.tmp 56) (.tmp 57) 24 3 (.int .i64 0) 8 rfl Try.underlying24 info3 rfl (by decide) (by omega) v594 y593 t568 _ _ _ (fun k_ => some k_ ≠ (.slice Ao30 t568.length co30 : Value).ownBlock ∧ some k_ ≠ (.slice (some ad575) t572.length co23 : Value).ownBlock ∧ some k_ ≠ (.slice Ao33 y580.length co33 : Value).ownBlock ∧ some k_ ≠ (.slice Ao31 y587.length co31 : Value).ownBlock ∧ some k_ ≠ (v591 : Value).ownBlock) (fun _ => False) rfl rfl ?aO ?aR (fun _ _ h => h) (fun _ h => h.elim) ?aF ?aB ?aS ?aL ?_
               (case aR => exact uC (Kd.R_reads' HO570.out).2.2)
               (case aB => exact (by repeat (first | (with_reducible first | exact HB.out | apply below_alloc | apply pw_below_drewN | apply below_drew1 | refine below_set ?_ GE571.out) | exact HB.out)))
               (case aF => exact (fun k_ hk => ⟨Kd.fresh' (Kd.R_lt (uR HO570.out)) k_ hk, Kd.fresh' (Kd.R_lt (uR HO574.out)) k_ hk, Kd.fresh' (Kd.R_lt (uR HO582.out)) k_ hk, Kd.fresh' (Kd.R_lt (uR HO589.out)) k_ hk, Kd.fresh' (Kd.R_lt (uR HO592.out)) k_ hk⟩))
               (case aO => exact (uR (Kd.R_mono HO595.out (fun _ hk => ⟨hk.1.1.1.1.2, ⟨hk.1.1.1.2, ⟨hk.1.1.2, ⟨hk.1.2, hk.2⟩⟩⟩⟩))))
               (case aS => exact (below_size (by repeat (first | (with_reducible first | exact HB.out | apply below_alloc | apply pw_below_drewN | apply below_drew1 | refine below_set ?_ GE571.out) | exact HB.out))))
               (case aL => have := LMc14.out; omega)
               intro v597 w37 ho hb hg hat
               rw [← Ny596.out] at ho
               have n0_ := Aside0.mk (Kd.R_after (ok := (fun k_ => some k_ ≠ (.slice (some ad575) t572.length co23 : Value).ownBlock ∧ some k_ ≠ (.slice Ao33 y580.length co33 : Value).ownBlock ∧ some k_ ≠ (.slice Ao31 y587.length co31 : Value).ownBlock ∧ some k_ ≠ (v591 : Value).ownBlock)) (uR (Kd.R_mono HO570.out (fun _ hk => ⟨⟨hk.1.1.1.1, ⟨hk.1.1.1.2, ⟨hk.1.1.2, hk.1.2⟩⟩⟩, hk.2⟩))) hg hat)
               have n1_ := Aside0.mk (blk_grown (g := gb571) (o := .cells #[.int .i64 t565, .int .i64 t566, .string t567] 28 (0, 0)) (by (with_reducible repeat (first | refine blk_drewN ?_ _ | refine blk_drew ?_ | refine blk_alloc ?_ _)); exact BK571.out) hg (Kd.R_ne HO595.out BK571.out (by decide)))
               have n2_ := Aside0.mk (Kd.R_after (ok := (fun k_ => some k_ ≠ (.slice Ao30 t568.length co30 : Value).ownBlock ∧ some k_ ≠ (.slice Ao33 y580.length co33 : Value).ownBlock ∧ some k_ ≠ (.slice Ao31 y587.length co31 : Value).ownBlock ∧ some k_ ≠ (v591 : Value).ownBlock)) (uR (Kd.R_mono HO574.out (fun _ hk => ⟨⟨hk.1.1.1.1, ⟨hk.1.1.1.2, ⟨hk.1.1.2, hk.1.2⟩⟩⟩, hk.2⟩))) hg hat)
               have n3_ := Aside0.mk (Kd.R_after (ok := (fun k_ => some k_ ≠ (.slice Ao30 t568.length co30 : Value).ownBlock ∧ some k_ ≠ (.slice (some ad575) t572.length co23 : Value).ownBlock ∧ some k_ ≠ (.slice Ao31 y587.length co31 : Value).ownBlock ∧ some k_ ≠ (v591 : Value).ownBlock)) (uR (Kd.R_mono HO582.out (fun _ hk => ⟨⟨hk.1.1.1.1, ⟨hk.1.1.1.2, ⟨hk.1.1.2, hk.1.2⟩⟩⟩, hk.2⟩))) hg hat)
               have n4_ := Aside0.mk (Kd.R_after (ok := (fun k_ => some k_ ≠ (.slice Ao30 t568.length co30 : Value).ownBlock ∧ some k_ ≠ (.slice (some ad575) t572.length co23 : Value).ownBlock ∧ some k_ ≠ (.slice Ao33 y580.length co33 : Value).ownBlock ∧ some k_ ≠ (v591 : Value).ownBlock)) (uR (Kd.R_mono HO589.out (fun _ hk => ⟨⟨hk.1.1.1, ⟨hk.1.1.2.1, ⟨hk.1.1.2.2, hk.1.2⟩⟩⟩, hk.2⟩))) hg hat)
               have n5_ := Aside0.mk (Kd.R_after (ok := (fun k_ => some k_ ≠ (.slice Ao30 t568.length co30 : Value).ownBlock ∧ some k_ ≠ (.slice (some ad575) t572.length co23 : Value).ownBlock ∧ some k_ ≠ (.slice Ao33 y580.length co33 : Value).ownBlock ∧ some k_ ≠ (.slice Ao31 y587.length co31 : Value).ownBlock)) (uR (Kd.R_mono HO592.out (fun _ hk => ⟨⟨hk.1.1.1.1.2, ⟨hk.1.1.1.2, ⟨hk.1.1.2, hk.1.2⟩⟩⟩, hk.2⟩))) hg hat)
               have n6_ := Aside0.mk (hb)
               have n7_ := Aside0.mk (ho)
               clear HO570
               clear BK571
               clear HO574
               clear HO582
               clear HO589
               clear HO592
               clear HB
               clear HO595
               have HO570 := n0_
               have BK571 := n1_
               have HO574 := n2_
               have HO582 := n3_
               have HO589 := n4_
               have HO592 := n5_
               have HB := n6_
               have HO598 := n7_
               clear n0_ n1_ n2_ n3_ n4_ n5_ n6_ n7_
               clear ho hb hg hat
               refine hK.out _ _ ⟨(blk_cell BK571.out 0).trans rfl, (blk_cell BK571.out 1).trans rfl, (blk_cell BK571.out 2).trans rfl⟩ (fun hHeld => ?_)
               clear hK K
               refine norm_ (a' := ?_) ?_ ?_
               rotate_left
               ·show Act.put _ (some 58) _ = _
                simp only [Act.put, List.setIfInBounds_toArray, List.set_cons_zero, List.set_cons_succ, i64_w, i32_w]
                rfl
               refine one_ (i := 4) (N := some 59) #[true, true, true, true, true, true, false, true, false, false, false, false, false, false] rfl rfl (one_of HT_.out (by kernel_rfl)) (by decide) (fun K hK => ?_)
               refine Kd.R_lit_step (Kd.int .i64) _ 3 ?hg (N := 59) ?hd (xs := ([] : List Int)) (inner := []) (ok := fun _ => True) (okp := fun _ => True) ?hr ?hp (fun _ hk => hk) trivial (Below.refl _ _) (Nat.le_refl _) (by simp) ?_; (case hd => rfl); (case hg => rfl); (case hr => first | (go_simp; done) | (go_simp; rfl)); (case hp => exact (Reps.none _ _))
               intro v600 w38 ho39 hb hg_ hnew_
               clear hg_ hnew_
               (first | rw [← Ny599.out] at ho39 | (simp only [Int.reduceToNat] at ho39; rw [← Ny599.out] at ho39))
               have n0_ := Aside0.mk (Kd.R_elder' (uR HO570.out) (Kd.R_base ho39) hb)
               have n1_ := Aside0.mk (Kd.R_elder' (uR HO574.out) (Kd.R_base ho39) hb)
               have n2_ := Aside0.mk (Kd.R_elder' (uR HO582.out) (Kd.R_base ho39) hb)
               have n3_ := Aside0.mk (Kd.R_elder' (uR HO589.out) (Kd.R_base ho39) hb)
               have n4_ := Aside0.mk (Kd.R_elder' (uR HO592.out) (Kd.R_base ho39) hb)
               have n5_ := Aside0.mk (Kd.R_elder' (uR HO598.out) (Kd.R_base ho39) hb)
               have n6_ := Aside0.mk (Kd.R_lower (Kd.R_new' (Kd.R_new' (Kd.R_new' (Kd.R_new' (Kd.R_new' (Kd.R_new' ho39 (Kd.R_lt (uR HO570.out))) (Kd.R_lt (uR HO574.out))) (Kd.R_lt (uR HO582.out))) (Kd.R_lt (uR HO589.out))) (Kd.R_lt (uR HO592.out))) (Kd.R_lt (uR HO598.out))) (below_size (by repeat (first | (with_reducible first | exact HB.out | apply below_alloc | apply pw_below_drewN | apply below_drew1 | refine below_set ?_ GE571.out) | exact HB.out))))
               have n7_ := Aside0.mk (blk_below (g := gb571) (o := .cells #[.int .i64 t565, .int .i64 t566, .string t567] 28 (0, 0)) (by (with_reducible repeat (first | refine blk_drewN ?_ _ | refine blk_drew ?_ | refine blk_alloc ?_ _)); exact BK571.out) hb)
               have n8_ := Aside0.mk (below_step (by repeat (first | (with_reducible first | exact HB.out | apply below_alloc | apply pw_below_drewN | apply below_drew1 | refine below_set ?_ GE571.out) | exact HB.out)) hb)
               clear HO570
               clear HO574
               clear HO582
               clear HO589
               clear HO592
               clear HO598
               clear BK571
               clear HB
               have HO570 := n0_
               have HO574 := n1_
               have HO582 := n2_
               have HO589 := n3_
               have HO592 := n4_
               have HO598 := n5_
               have HO601 := n6_
               have BK571 := n7_
               have HB := n8_
               clear n0_ n1_ n2_ n3_ n4_ n5_ n6_ n7_ n8_
               clear hb ho39
               refine hK.out _ _ ⟨(blk_cell BK571.out 0).trans rfl, (blk_cell BK571.out 1).trans rfl, (blk_cell BK571.out 2).trans rfl⟩ (fun hHeld => ?_)
               clear hK K
               refine norm_ (a' := ?_) ?_ ?_
               rotate_left
               ·show Act.put _ (some 59) _ = _
                simp only [Act.put, List.setIfInBounds_toArray, List.set_cons_zero, List.set_cons_succ, i64_w, i32_w]
                rfl
               exact norm_ (by simp only [putAll, Act.put, List.setIfInBounds_toArray, List.set_cons_zero, List.set_cons_succ]) (hCont (v594, v597, v600) _ ⟨hHeld, (uR (Kd.R_mono HO570.out (fun _ hk => ⟨hk.1.1.1, ⟨hk.1.1.2.1, ⟨hk.1.1.2.2.1, ⟨hk.1.1.2.2.2, ⟨hk.1.2, hk.2⟩⟩⟩⟩⟩))), (uR (Kd.R_mono HO574.out (fun _ hk => ⟨hk.1.1.1, ⟨hk.1.1.2.1, ⟨hk.1.1.2.2.1, ⟨hk.1.1.2.2.2, ⟨hk.1.2, hk.2⟩⟩⟩⟩⟩))), (uR (Kd.R_mono HO582.out (fun _ hk => ⟨hk.1.1.1, ⟨hk.1.1.2.1, ⟨hk.1.1.2.2.1, ⟨hk.1.1.2.2.2, ⟨hk.1.2, hk.2⟩⟩⟩⟩⟩))), (uR (Kd.R_mono HO589.out (fun _ hk => ⟨hk.1.1.1, ⟨hk.1.1.2.1, ⟨hk.1.1.2.2.1, ⟨hk.1.1.2.2.2, ⟨hk.1.2, hk.2⟩⟩⟩⟩⟩))), (uR (Kd.R_mono HO592.out (fun _ hk => ⟨hk.1.1.1, ⟨hk.1.1.2.1, ⟨hk.1.1.2.2.1, ⟨hk.1.1.2.2.2, ⟨hk.1.2, hk.2⟩⟩⟩⟩⟩))), (uR (Kd.R_mono HO598.out (fun _ hk => ⟨hk.1.1, ⟨hk.1.2.1, ⟨hk.1.2.2.1, ⟨hk.1.2.2.2.1, ⟨hk.1.2.2.2.2, hk.2⟩⟩⟩⟩⟩))), (uR (Kd.R_mono HO601.out (fun _ hk => ⟨hk.1.1.1.1.1.2, ⟨hk.1.1.1.1.2, ⟨hk.1.1.1.2, ⟨hk.1.1.2, ⟨hk.1.2, hk.2⟩⟩⟩⟩⟩))), (by (with_reducible repeat (first | refine blk_drewN ?_ _ | refine blk_drew ?_ | refine blk_alloc ?_ _)); exact BK571.out), (by repeat (first | (with_reducible first | exact HB.out | apply below_alloc | apply pw_below_drewN | apply below_drew1 | refine below_set ?_ GE571.out) | exact HB.out))⟩)
              ·skip
               refine Kd.R_lit_step (Kd.int .i64) _ 3 ?hg (N := 59) ?hd (xs := ([] : List Int)) (inner := []) (ok := fun _ => True) (okp := fun _ => True) ?hr ?hp (fun _ hk => hk) trivial (Below.refl _ _) (Nat.le_refl _) (by simp) ?_; (case hd => rfl); (case hg => rfl); (case hr => first | (go_simp; done) | (go_simp; rfl)); (case hp => exact (Reps.none _ _))
               intro v600 w37 ho38 hb hg_ hnew_
               clear hg_ hnew_
               (first | rw [← Ny599.out] at ho38 | (simp only [Int.reduceToNat] at ho38; rw [← Ny599.out] at ho38))
               have n0_ := Aside0.mk (Kd.R_elder' (uR HO570.out) (Kd.R_base ho38) hb)
               have n1_ := Aside0.mk (Kd.R_elder' (uR HO574.out) (Kd.R_base ho38) hb)
               have n2_ := Aside0.mk (Kd.R_elder' (uR HO582.out) (Kd.R_base ho38) hb)
               have n3_ := Aside0.mk (Kd.R_elder' (uR HO589.out) (Kd.R_base ho38) hb)
               have n4_ := Aside0.mk (Kd.R_elder' (uR HO592.out) (Kd.R_base ho38) hb)
               have n5_ := Aside0.mk (Kd.R_elder' (uR HO595.out) (Kd.R_base ho38) hb)
               have n6_ := Aside0.mk (Kd.R_lower (Kd.R_new' (Kd.R_new' (Kd.R_new' (Kd.R_new' (Kd.R_new' (Kd.R_new' ho38 (Kd.R_lt (uR HO570.out))) (Kd.R_lt (uR HO574.out))) (Kd.R_lt (uR HO582.out))) (Kd.R_lt (uR HO589.out))) (Kd.R_lt (uR HO592.out))) (Kd.R_lt (uR HO595.out))) (below_size (by repeat (first | (with_reducible first | exact HB.out | apply below_alloc | apply pw_below_drewN | apply below_drew1 | refine below_set ?_ GE571.out) | exact HB.out))))
               have n7_ := Aside0.mk (blk_below (g := gb571) (o := .cells #[.int .i64 t565, .int .i64 t566, .string t567] 28 (0, 0)) (by (with_reducible repeat (first | refine blk_drewN ?_ _ | refine blk_drew ?_ | refine blk_alloc ?_ _)); exact BK571.out) hb)
               have n8_ := Aside0.mk (below_step (by repeat (first | (with_reducible first | exact HB.out | apply below_alloc | apply pw_below_drewN | apply below_drew1 | refine below_set ?_ GE571.out) | exact HB.out)) hb)
               clear HO570
               clear HO574
               clear HO582
               clear HO589
               clear HO592
               clear HO595
               clear BK571
               clear HB
               have HO570 := n0_
               have HO574 := n1_
               have HO582 := n2_
               have HO589 := n3_
               have HO592 := n4_
               have HO595 := n5_
               have HO601 := n6_
               have BK571 := n7_
               have HB := n8_
               clear n0_ n1_ n2_ n3_ n4_ n5_ n6_ n7_ n8_
               clear hb ho38
               refine hK.out _ _ ⟨(blk_cell BK571.out 0).trans rfl, (blk_cell BK571.out 1).trans rfl, (blk_cell BK571.out 2).trans rfl⟩ (fun hHeld => ?_)
               clear hK K
               refine norm_ (a' := ?_) ?_ ?_
               rotate_left
               ·show Act.put _ (some 59) _ = _
                simp only [Act.put, List.setIfInBounds_toArray, List.set_cons_zero, List.set_cons_succ, i64_w, i32_w]
                rfl
               refine one_ (i := 3) (N := some 58) #[true, true, true, true, true, true, false, true, false, false, false, false, false, false] rfl rfl (one_of HT_.out (by kernel_rfl)) (by decide) (fun K hK => ?_)
               refine Kd.R_append_rows_step (Kd.int .i64) (w0 := w) w.heap.size (by rfl) (.tmp 56) (.tmp 57) 24 3 (.int .i64 0) 8 rfl Try.underlying24 info3 rfl (by decide) (by omega) v594 y593 t568 _ _ _ (fun k_ => some k_ ≠ (.slice Ao30 t568.length co30 : Value).ownBlock ∧ some k_ ≠ (.slice (some ad575) t572.length co23 : Value).ownBlock ∧ some k_ ≠ (.slice Ao33 y580.length co33 : Value).ownBlock ∧ some k_ ≠ (.slice Ao31 y587.length co31 : Value).ownBlock ∧ some k_ ≠ (v591 : Value).ownBlock ∧ some k_ ≠ (v600 : Value).ownBlock) (fun _ => False) rfl rfl ?aO ?aR (fun _ _ h => h) (fun _ h => h.elim) ?aF ?aB ?aS ?aL ?_
               (case aR => exact uC (Kd.R_reads' HO570.out).2.2)
               (case aB => exact (by repeat (first | (with_reducible first | exact HB.out | apply below_alloc | apply pw_below_drewN | apply below_drew1 | refine below_set ?_ GE571.out) | exact HB.out)))
               (case aF => exact (fun k_ hk => ⟨Kd.fresh' (Kd.R_lt (uR HO570.out)) k_ hk, Kd.fresh' (Kd.R_lt (uR HO574.out)) k_ hk, Kd.fresh' (Kd.R_lt (uR HO582.out)) k_ hk, Kd.fresh' (Kd.R_lt (uR HO589.out)) k_ hk, Kd.fresh' (Kd.R_lt (uR HO592.out)) k_ hk, Kd.fresh' (Kd.R_lt (uR HO601.out)) k_ hk⟩))
               (case aO => exact (uR (Kd.R_mono HO595.out (fun _ hk => ⟨hk.1.1.1.1.1.2, ⟨hk.1.1.1.1.2, ⟨hk.1.1.1.2, ⟨hk.1.1.2, ⟨hk.1.2, hk.2⟩⟩⟩⟩⟩))))
               (case aS => exact (below_size (by repeat (first | (with_reducible first | exact HB.out | apply below_alloc | apply pw_below_drewN | apply below_drew1 | refine below_set ?_ GE571.out) | exact HB.out))))
               (case aL => have := LMc14.out; omega)
               intro v597 w39 ho hb hg hat
               rw [← Ny596.out] at ho
               have n0_ := Aside0.mk (Kd.R_after (ok := (fun k_ => some k_ ≠ (.slice (some ad575) t572.length co23 : Value).ownBlock ∧ some k_ ≠ (.slice Ao33 y580.length co33 : Value).ownBlock ∧ some k_ ≠ (.slice Ao31 y587.length co31 : Value).ownBlock ∧ some k_ ≠ (v591 : Value).ownBlock ∧ some k_ ≠ (v600 : Value).ownBlock)) (uR (Kd.R_mono HO570.out (fun _ hk => ⟨⟨hk.1.1.1.1.1, ⟨hk.1.1.1.1.2, ⟨hk.1.1.1.2, ⟨hk.1.1.2, hk.2⟩⟩⟩⟩, hk.1.2⟩))) hg hat)
               have n1_ := Aside0.mk (blk_grown (g := gb571) (o := .cells #[.int .i64 t565, .int .i64 t566, .string t567] 28 (0, 0)) (by (with_reducible repeat (first | refine blk_drewN ?_ _ | refine blk_drew ?_ | refine blk_alloc ?_ _)); exact BK571.out) hg (Kd.R_ne HO595.out BK571.out (by decide)))
               have n2_ := Aside0.mk (Kd.R_after (ok := (fun k_ => some k_ ≠ (.slice Ao30 t568.length co30 : Value).ownBlock ∧ some k_ ≠ (.slice Ao33 y580.length co33 : Value).ownBlock ∧ some k_ ≠ (.slice Ao31 y587.length co31 : Value).ownBlock ∧ some k_ ≠ (v591 : Value).ownBlock ∧ some k_ ≠ (v600 : Value).ownBlock)) (uR (Kd.R_mono HO574.out (fun _ hk => ⟨⟨hk.1.1.1.1.1, ⟨hk.1.1.1.1.2, ⟨hk.1.1.1.2, ⟨hk.1.1.2, hk.2⟩⟩⟩⟩, hk.1.2⟩))) hg hat)
               have n3_ := Aside0.mk (Kd.R_after (ok := (fun k_ => some k_ ≠ (.slice Ao30 t568.length co30 : Value).ownBlock ∧ some k_ ≠ (.slice (some ad575) t572.length co23 : Value).ownBlock ∧ some k_ ≠ (.slice Ao31 y587.length co31 : Value).ownBlock ∧ some k_ ≠ (v591 : Value).ownBlock ∧ some k_ ≠ (v600 : Value).ownBlock)) (uR (Kd.R_mono HO582.out (fun _ hk => ⟨⟨hk.1.1.1.1.1, ⟨hk.1.1.1.1.2, ⟨hk.1.1.1.2, ⟨hk.1.1.2, hk.2⟩⟩⟩⟩, hk.1.2⟩))) hg hat)
               have n4_ := Aside0.mk (Kd.R_after (ok := (fun k_ => some k_ ≠ (.slice Ao30 t568.length co30 : Value).ownBlock ∧ some k_ ≠ (.slice (some ad575) t572.length co23 : Value).ownBlock ∧ some k_ ≠ (.slice Ao33 y580.length co33 : Value).ownBlock ∧ some k_ ≠ (v591 : Value).ownBlock ∧ some k_ ≠ (v600 : Value).ownBlock)) (uR (Kd.R_mono HO589.out (fun _ hk => ⟨⟨hk.1.1.1.1, ⟨hk.1.1.1.2.1, ⟨hk.1.1.1.2.2, ⟨hk.1.1.2, hk.2⟩⟩⟩⟩, hk.1.2⟩))) hg hat)
               have n5_ := Aside0.mk (Kd.R_after (ok := (fun k_ => some k_ ≠ (.slice Ao30 t568.length co30 : Value).ownBlock ∧ some k_ ≠ (.slice (some ad575) t572.length co23 : Value).ownBlock ∧ some k_ ≠ (.slice Ao33 y580.length co33 : Value).ownBlock ∧ some k_ ≠ (.slice Ao31 y587.length co31 : Value).ownBlock ∧ some k_ ≠ (v600 : Value).ownBlock)) (uR (Kd.R_mono HO592.out (fun _ hk => ⟨⟨hk.1.1.1.1.1.2, ⟨hk.1.1.1.1.2, ⟨hk.1.1.1.2, ⟨hk.1.1.2, hk.2⟩⟩⟩⟩, hk.1.2⟩))) hg hat)
               have n6_ := Aside0.mk (Kd.R_after (ok := (fun k_ => some k_ ≠ (.slice Ao30 t568.length co30 : Value).ownBlock ∧ some k_ ≠ (.slice (some ad575) t572.length co23 : Value).ownBlock ∧ some k_ ≠ (.slice Ao33 y580.length co33 : Value).ownBlock ∧ some k_ ≠ (.slice Ao31 y587.length co31 : Value).ownBlock ∧ some k_ ≠ (v591 : Value).ownBlock)) (uR (Kd.R_mono HO601.out (fun _ hk => ⟨⟨hk.1.1.1.1.1.2, ⟨hk.1.1.1.1.2, ⟨hk.1.1.1.2, ⟨hk.1.1.2, hk.1.2⟩⟩⟩⟩, hk.2⟩))) hg hat)
               have n7_ := Aside0.mk (hb)
               have n8_ := Aside0.mk (ho)
               clear HO570
               clear BK571
               clear HO574
               clear HO582
               clear HO589
               clear HO592
               clear HO601
               clear HB
               clear HO595
               have HO570 := n0_
               have BK571 := n1_
               have HO574 := n2_
               have HO582 := n3_
               have HO589 := n4_
               have HO592 := n5_
               have HO601 := n6_
               have HB := n7_
               have HO598 := n8_
               clear n0_ n1_ n2_ n3_ n4_ n5_ n6_ n7_ n8_
               clear ho hb hg hat
               refine hK.out _ _ ⟨(blk_cell BK571.out 0).trans rfl, (blk_cell BK571.out 1).trans rfl, (blk_cell BK571.out 2).trans rfl⟩ (fun hHeld => ?_)
               clear hK K
               refine norm_ (a' := ?_) ?_ ?_
               rotate_left
               ·show Act.put _ (some 58) _ = _
                simp only [Act.put, List.setIfInBounds_toArray, List.set_cons_zero, List.set_cons_succ, i64_w, i32_w]
                rfl
               exact norm_ (by simp only [putAll, Act.put, List.setIfInBounds_toArray, List.set_cons_zero, List.set_cons_succ]) (hCont (v594, v597, v600) _ ⟨hHeld, (uR (Kd.R_mono HO570.out (fun _ hk => ⟨hk.1.1, ⟨hk.1.2.1, ⟨hk.1.2.2.1, ⟨hk.1.2.2.2.1, ⟨hk.2, hk.1.2.2.2.2⟩⟩⟩⟩⟩))), (uR (Kd.R_mono HO574.out (fun _ hk => ⟨hk.1.1, ⟨hk.1.2.1, ⟨hk.1.2.2.1, ⟨hk.1.2.2.2.1, ⟨hk.2, hk.1.2.2.2.2⟩⟩⟩⟩⟩))), (uR (Kd.R_mono HO582.out (fun _ hk => ⟨hk.1.1, ⟨hk.1.2.1, ⟨hk.1.2.2.1, ⟨hk.1.2.2.2.1, ⟨hk.2, hk.1.2.2.2.2⟩⟩⟩⟩⟩))), (uR (Kd.R_mono HO589.out (fun _ hk => ⟨hk.1.1, ⟨hk.1.2.1, ⟨hk.1.2.2.1, ⟨hk.1.2.2.2.1, ⟨hk.2, hk.1.2.2.2.2⟩⟩⟩⟩⟩))), (uR (Kd.R_mono HO592.out (fun _ hk => ⟨hk.1.1, ⟨hk.1.2.1, ⟨hk.1.2.2.1, ⟨hk.1.2.2.2.1, ⟨hk.2, hk.1.2.2.2.2⟩⟩⟩⟩⟩))), (uR HO598.out), (uR (Kd.R_mono HO601.out (fun _ hk => ⟨hk.1.1, ⟨hk.1.2.1, ⟨hk.1.2.2.1, ⟨hk.1.2.2.2.1, ⟨hk.1.2.2.2.2, hk.2⟩⟩⟩⟩⟩))), (by (with_reducible repeat (first | refine blk_drewN ?_ _ | refine blk_drew ?_ | refine blk_alloc ?_ _)); exact BK571.out), (by repeat (first | (with_reducible first | exact HB.out | apply below_alloc | apply pw_below_drewN | apply below_drew1 | refine below_set ?_ GE571.out) | exact HB.out))⟩)
             ·skip
              refine Kd.R_lit_step (Kd.int .i64) _ 3 ?hg (N := 59) ?hd (xs := ([] : List Int)) (inner := []) (ok := fun _ => True) (okp := fun _ => True) ?hr ?hp (fun _ hk => hk) trivial (Below.refl _ _) (Nat.le_refl _) (by simp) ?_; (case hd => rfl); (case hg => rfl); (case hr => first | (go_simp; done) | (go_simp; rfl)); (case hp => exact (Reps.none _ _))
              intro v600 w35 ho36 hb hg_ hnew_
              clear hg_ hnew_
              (first | rw [← Ny599.out] at ho36 | (simp only [Int.reduceToNat] at ho36; rw [← Ny599.out] at ho36))
              have n0_ := Aside0.mk (Kd.R_elder' (uR HO570.out) (Kd.R_base ho36) hb)
              have n1_ := Aside0.mk (Kd.R_elder' (uR HO574.out) (Kd.R_base ho36) hb)
              have n2_ := Aside0.mk (Kd.R_elder' (uR HO582.out) (Kd.R_base ho36) hb)
              have n3_ := Aside0.mk (Kd.R_elder' (uR HO589.out) (Kd.R_base ho36) hb)
              have n4_ := Aside0.mk (Kd.R_elder' (uR HO592.out) (Kd.R_base ho36) hb)
              have n5_ := Aside0.mk (Kd.R_lower (Kd.R_new' (Kd.R_new' (Kd.R_new' (Kd.R_new' (Kd.R_new' ho36 (Kd.R_lt (uR HO570.out))) (Kd.R_lt (uR HO574.out))) (Kd.R_lt (uR HO582.out))) (Kd.R_lt (uR HO589.out))) (Kd.R_lt (uR HO592.out))) (below_size (by repeat (first | (with_reducible first | exact HB.out | apply below_alloc | apply pw_below_drewN | apply below_drew1 | refine below_set ?_ GE571.out) | exact HB.out))))
              have n6_ := Aside0.mk (blk_below (g := gb571) (o := .cells #[.int .i64 t565, .int .i64 t566, .string t567] 28 (0, 0)) (by (with_reducible repeat (first | refine blk_drewN ?_ _ | refine blk_drew ?_ | refine blk_alloc ?_ _)); exact BK571.out) hb)
              have n7_ := Aside0.mk (below_step (by repeat (first | (with_reducible first | exact HB.out | apply below_alloc | apply pw_below_drewN | apply below_drew1 | refine below_set ?_ GE571.out) | exact HB.out)) hb)
              clear HO570
              clear HO574
              clear HO582
              clear HO589
              clear HO592
              clear BK571
              clear HB
              have HO570 := n0_
              have HO574 := n1_
              have HO582 := n2_
              have HO589 := n3_
              have HO592 := n4_
              have HO601 := n5_
              have BK571 := n6_
              have HB := n7_
              clear n0_ n1_ n2_ n3_ n4_ n5_ n6_ n7_
              clear hb ho36
              refine hK.out _ _ ⟨(blk_cell BK571.out 0).trans rfl, (blk_cell BK571.out 1).trans rfl, (blk_cell BK571.out 2).trans rfl⟩ (fun hHeld => ?_)
              clear hK K
              refine norm_ (a' := ?_) ?_ ?_
              rotate_left
              ·show Act.put _ (some 59) _ = _
               simp only [Act.put, List.setIfInBounds_toArray, List.set_cons_zero, List.set_cons_succ, i64_w, i32_w]
               rfl
              refine one_ (i := 1) (N := some 56) #[true, true, true, false, true, true, false, true, false, false, false, false, false, false] rfl rfl (one_of HT_.out (by kernel_rfl)) (by decide) (fun K hK => ?_)
              refine Kd.R_lit_step (Kd.int .i64) _ 3 ?hg (N := 56) ?hd (xs := ([] : List Int)) (inner := []) (ok := fun _ => True) (okp := fun _ => True) ?hr ?hp (fun _ hk => hk) trivial (Below.refl _ _) (Nat.le_refl _) (by simp) ?_; (case hd => rfl); (case hg => rfl); (case hr => first | (go_simp; done) | (go_simp; rfl)); (case hp => exact (Reps.none _ _))
              intro v594 w37 ho38 hb hg_ hnew_
              clear hg_ hnew_
              (first | rw [← Ny593.out] at ho38 | (simp only [Int.reduceToNat] at ho38; rw [← Ny593.out] at ho38))
              have n0_ := Aside0.mk (Kd.R_elder' (uR HO570.out) (Kd.R_base ho38) hb)
              have n1_ := Aside0.mk (Kd.R_elder' (uR HO574.out) (Kd.R_base ho38) hb)
              have n2_ := Aside0.mk (Kd.R_elder' (uR HO582.out) (Kd.R_base ho38) hb)
              have n3_ := Aside0.mk (Kd.R_elder' (uR HO589.out) (Kd.R_base ho38) hb)
              have n4_ := Aside0.mk (Kd.R_elder' (uR HO592.out) (Kd.R_base ho38) hb)
              have n5_ := Aside0.mk (Kd.R_elder' (uR HO601.out) (Kd.R_base ho38) hb)
              have n6_ := Aside0.mk (Kd.R_lower (Kd.R_new' (Kd.R_new' (Kd.R_new' (Kd.R_new' (Kd.R_new' (Kd.R_new' ho38 (Kd.R_lt (uR HO570.out))) (Kd.R_lt (uR HO574.out))) (Kd.R_lt (uR HO582.out))) (Kd.R_lt (uR HO589.out))) (Kd.R_lt (uR HO592.out))) (Kd.R_lt (uR HO601.out))) (below_size (by repeat (first | (with_reducible first | exact HB.out | apply below_alloc | apply pw_below_drewN | apply below_drew1 | refine below_set ?_ GE571.out) | exact HB.out))))
              have n7_ := Aside0.mk (blk_below (g := gb571) (o := .cells #[.int .i64 t565, .int .i64 t566, .string t567] 28 (0, 0)) (by (with_reducible repeat (first | refine blk_drewN ?_ _ | refine blk_drew ?_ | refine blk_alloc ?_ _)); exact BK571.out) hb)
              have n8_ := Aside0.mk (below_step (by repeat (first | (with_reducible first | exact HB.out | apply below_alloc | apply pw_below_drewN | apply below_drew1 | refine below_set ?_ GE571.out) | exact HB.out)) hb)
              clear HO570
              clear HO574
              clear HO582
              clear HO589
              clear HO592
              clear HO601
              clear BK571
              clear HB
              have HO570 := n0_
              have HO574 := n1_
              have HO582 := n2_
              have HO589 := n3_
              have HO592 := n4_
              have HO601 := n5_
              have HO595 := n6_
              have BK571 := n7_
              have HB := n8_
              clear n0_ n1_ n2_ n3_ n4_ n5_ n6_ n7_ n8_
              clear hb ho38
              refine hK.out _ _ ⟨(blk_cell BK571.out 0).trans rfl, (blk_cell BK571.out 1).trans rfl, (blk_cell BK571.out 2).trans rfl⟩ (fun hHeld => ?_)
              clear hK K
              refine norm_ (a' := ?_) ?_ ?_
              rotate_left
              ·show Act.put _ (some 56) _ = _
               simp only [Act.put, List.setIfInBounds_toArray, List.set_cons_zero, List.set_cons_succ, i64_w, i32_w]
               rfl
              refine one_ (i := 3) (N := some 58) #[true, true, true, true, true, true, false, true, false, false, false, false, false, false] rfl rfl (one_of HT_.out (by kernel_rfl)) (by decide) (fun K hK => ?_)
              refine Kd.R_append_rows_step (Kd.int .i64) (w0 := w) w.heap.size (by rfl) (.tmp 56) (.tmp 57) 24 3 (.int .i64 0) 8 rfl Try.underlying24 info3 rfl (by decide) (by omega) v594 y593 t568 _ _ _ (fun k_ => some k_ ≠ (.slice Ao30 t568.length co30 : Value).ownBlock ∧ some k_ ≠ (.slice (some ad575) t572.length co23 : Value).ownBlock ∧ some k_ ≠ (.slice Ao33 y580.length co33 : Value).ownBlock ∧ some k_ ≠ (.slice Ao31 y587.length co31 : Value).ownBlock ∧ some k_ ≠ (v591 : Value).ownBlock ∧ some k_ ≠ (v600 : Value).ownBlock) (fun _ => False) rfl rfl ?aO ?aR (fun _ _ h => h) (fun _ h => h.elim) ?aF ?aB ?aS ?aL ?_
              (case aR => exact uC (Kd.R_reads' HO570.out).2.2)
              (case aB => exact (by repeat (first | (with_reducible first | exact HB.out | apply below_alloc | apply pw_below_drewN | apply below_drew1 | refine below_set ?_ GE571.out) | exact HB.out)))
              (case aF => exact (fun k_ hk => ⟨Kd.fresh' (Kd.R_lt (uR HO570.out)) k_ hk, Kd.fresh' (Kd.R_lt (uR HO574.out)) k_ hk, Kd.fresh' (Kd.R_lt (uR HO582.out)) k_ hk, Kd.fresh' (Kd.R_lt (uR HO589.out)) k_ hk, Kd.fresh' (Kd.R_lt (uR HO592.out)) k_ hk, Kd.fresh' (Kd.R_lt (uR HO601.out)) k_ hk⟩))
              (case aO => exact (uR (Kd.R_mono HO595.out (fun _ hk => ⟨hk.1.1.1.1.1.2, ⟨hk.1.1.1.1.2, ⟨hk.1.1.1.2, ⟨hk.1.1.2, ⟨hk.1.2, hk.2⟩⟩⟩⟩⟩))))
              (case aS => exact (below_size (by repeat (first | (with_reducible first | exact HB.out | apply below_alloc | apply pw_below_drewN | apply below_drew1 | refine below_set ?_ GE571.out) | exact HB.out))))
              (case aL => have := LMc14.out; omega)
              intro v597 w39 ho hb hg hat
              rw [← Ny596.out] at ho
              have n0_ := Aside0.mk (Kd.R_after (ok := (fun k_ => some k_ ≠ (.slice (some ad575) t572.length co23 : Value).ownBlock ∧ some k_ ≠ (.slice Ao33 y580.length co33 : Value).ownBlock ∧ some k_ ≠ (.slice Ao31 y587.length co31 : Value).ownBlock ∧ some k_ ≠ (v591 : Value).ownBlock ∧ some k_ ≠ (v600 : Value).ownBlock)) (uR (Kd.R_mono HO570.out (fun _ hk => ⟨⟨hk.1.1.1.1.1, ⟨hk.1.1.1.1.2, ⟨hk.1.1.1.2, ⟨hk.1.1.2, hk.1.2⟩⟩⟩⟩, hk.2⟩))) hg hat)
              have n1_ := Aside0.mk (blk_grown (g := gb571) (o := .cells #[.int .i64 t565, .int .i64 t566, .string t567] 28 (0, 0)) (by (with_reducible repeat (first | refine blk_drewN ?_ _ | refine blk_drew ?_ | refine blk_alloc ?_ _)); exact BK571.out) hg (Kd.R_ne HO595.out BK571.out (by decide)))
              have n2_ := Aside0.mk (Kd.R_after (ok := (fun k_ => some k_ ≠ (.slice Ao30 t568.length co30 : Value).ownBlock ∧ some k_ ≠ (.slice Ao33 y580.length co33 : Value).ownBlock ∧ some k_ ≠ (.slice Ao31 y587.length co31 : Value).ownBlock ∧ some k_ ≠ (v591 : Value).ownBlock ∧ some k_ ≠ (v600 : Value).ownBlock)) (uR (Kd.R_mono HO574.out (fun _ hk => ⟨⟨hk.1.1.1.1.1, ⟨hk.1.1.1.1.2, ⟨hk.1.1.1.2, ⟨hk.1.1.2, hk.1.2⟩⟩⟩⟩, hk.2⟩))) hg hat)
              have n3_ := Aside0.mk (Kd.R_after (ok := (fun k_ => some k_ ≠ (.slice Ao30 t568.length co30 : Value).ownBlock ∧ some k_ ≠ (.slice (some ad575) t572.length co23 : Value).ownBlock ∧ some k_ ≠ (.slice Ao31 y587.length co31 : Value).ownBlock ∧ some k_ ≠ (v591 : Value).ownBlock ∧ some k_ ≠ (v600 : Value).ownBlock)) (uR (Kd.R_mono HO582.out (fun _ hk => ⟨⟨hk.1.1.1.1.1, ⟨hk.1.1.1.1.2, ⟨hk.1.1.1.2, ⟨hk.1.1.2, hk.1.2⟩⟩⟩⟩, hk.2⟩))) hg hat)
              have n4_ := Aside0.mk (Kd.R_after (ok := (fun k_ => some k_ ≠ (.slice Ao30 t568.length co30 : Value).ownBlock ∧ some k_ ≠ (.slice (some ad575) t572.length co23 : Value).ownBlock ∧ some k_ ≠ (.slice Ao33 y580.length co33 : Value).ownBlock ∧ some k_ ≠ (v591 : Value).ownBlock ∧ some k_ ≠ (v600 : Value).ownBlock)) (uR (Kd.R_mono HO589.out (fun _ hk => ⟨⟨hk.1.1.1.1, ⟨hk.1.1.1.2.1, ⟨hk.1.1.1.2.2, ⟨hk.1.1.2, hk.1.2⟩⟩⟩⟩, hk.2⟩))) hg hat)
              have n5_ := Aside0.mk (Kd.R_after (ok := (fun k_ => some k_ ≠ (.slice Ao30 t568.length co30 : Value).ownBlock ∧ some k_ ≠ (.slice (some ad575) t572.length co23 : Value).ownBlock ∧ some k_ ≠ (.slice Ao33 y580.length co33 : Value).ownBlock ∧ some k_ ≠ (.slice Ao31 y587.length co31 : Value).ownBlock ∧ some k_ ≠ (v600 : Value).ownBlock)) (uR (Kd.R_mono HO592.out (fun _ hk => ⟨⟨hk.1.1.1.1.1.2, ⟨hk.1.1.1.1.2, ⟨hk.1.1.1.2, ⟨hk.1.1.2, hk.1.2⟩⟩⟩⟩, hk.2⟩))) hg hat)
              have n6_ := Aside0.mk (Kd.R_after (ok := (fun k_ => some k_ ≠ (.slice Ao30 t568.length co30 : Value).ownBlock ∧ some k_ ≠ (.slice (some ad575) t572.length co23 : Value).ownBlock ∧ some k_ ≠ (.slice Ao33 y580.length co33 : Value).ownBlock ∧ some k_ ≠ (.slice Ao31 y587.length co31 : Value).ownBlock ∧ some k_ ≠ (v591 : Value).ownBlock)) (uR (Kd.R_mono HO601.out (fun _ hk => ⟨⟨hk.1.1.1.1.1.2, ⟨hk.1.1.1.1.2, ⟨hk.1.1.1.2, ⟨hk.1.1.2, hk.1.2⟩⟩⟩⟩, hk.2⟩))) hg hat)
              have n7_ := Aside0.mk (hb)
              have n8_ := Aside0.mk (ho)
              clear HO570
              clear BK571
              clear HO574
              clear HO582
              clear HO589
              clear HO592
              clear HO601
              clear HB
              clear HO595
              have HO570 := n0_
              have BK571 := n1_
              have HO574 := n2_
              have HO582 := n3_
              have HO589 := n4_
              have HO592 := n5_
              have HO601 := n6_
              have HB := n7_
              have HO598 := n8_
              clear n0_ n1_ n2_ n3_ n4_ n5_ n6_ n7_ n8_
              clear ho hb hg hat
              refine hK.out _ _ ⟨(blk_cell BK571.out 0).trans rfl, (blk_cell BK571.out 1).trans rfl, (blk_cell BK571.out 2).trans rfl⟩ (fun hHeld => ?_)
              clear hK K
              refine norm_ (a' := ?_) ?_ ?_
              rotate_left
              ·show Act.put _ (some 58) _ = _
               simp only [Act.put, List.setIfInBounds_toArray, List.set_cons_zero, List.set_cons_succ, i64_w, i32_w]
               rfl
              exact norm_ (by simp only [putAll, Act.put, List.setIfInBounds_toArray, List.set_cons_zero, List.set_cons_succ]) (hCont (v594, v597, v600) _ ⟨hHeld, (uR (Kd.R_mono HO570.out (fun _ hk => ⟨hk.1.1, ⟨hk.1.2.1, ⟨hk.1.2.2.1, ⟨hk.1.2.2.2.1, ⟨hk.2, hk.1.2.2.2.2⟩⟩⟩⟩⟩))), (uR (Kd.R_mono HO574.out (fun _ hk => ⟨hk.1.1, ⟨hk.1.2.1, ⟨hk.1.2.2.1, ⟨hk.1.2.2.2.1, ⟨hk.2, hk.1.2.2.2.2⟩⟩⟩⟩⟩))), (uR (Kd.R_mono HO582.out (fun _ hk => ⟨hk.1.1, ⟨hk.1.2.1, ⟨hk.1.2.2.1, ⟨hk.1.2.2.2.1, ⟨hk.2, hk.1.2.2.2.2⟩⟩⟩⟩⟩))), (uR (Kd.R_mono HO589.out (fun _ hk => ⟨hk.1.1, ⟨hk.1.2.1, ⟨hk.1.2.2.1, ⟨hk.1.2.2.2.1, ⟨hk.2, hk.1.2.2.2.2⟩⟩⟩⟩⟩))), (uR (Kd.R_mono HO592.out (fun _ hk => ⟨hk.1.1, ⟨hk.1.2.1, ⟨hk.1.2.2.1, ⟨hk.1.2.2.2.1, ⟨hk.2, hk.1.2.2.2.2⟩⟩⟩⟩⟩))), (uR HO598.out), (uR (Kd.R_mono HO601.out (fun _ hk => ⟨hk.1.1, ⟨hk.1.2.1, ⟨hk.1.2.2.1, ⟨hk.1.2.2.2.1, ⟨hk.1.2.2.2.2, hk.2⟩⟩⟩⟩⟩))), (by (with_reducible repeat (first | refine blk_drewN ?_ _ | refine blk_drew ?_ | refine blk_alloc ?_ _)); exact BK571.out), (by repeat (first | (with_reducible first | exact HB.out | apply below_alloc | apply pw_below_drewN | apply below_drew1 | refine below_set ?_ GE571.out) | exact HB.out))⟩)
            rintro ⟨v594, v597, v600⟩ w40 ⟨hS_, h0_, h1_, h2_, h3_, h4_, h5_, h6_, h7_, h8_⟩
            have n0_ : Aside0 (Kd.R (Kd.int .i64) 3 w40 w.heap.size (fun k_ => some k_ ≠ (.slice (some ad575) t572.length co23 : Value).ownBlock ∧ some k_ ≠ (.slice Ao33 y580.length co33 : Value).ownBlock ∧ some k_ ≠ (.slice Ao31 y587.length co31 : Value).ownBlock ∧ some k_ ≠ (v591 : Value).ownBlock ∧ some k_ ≠ (v597 : Value).ownBlock ∧ some k_ ≠ (v600 : Value).ownBlock) (.slice Ao30 t568.length co30) t568) := ⟨h0_⟩
            have n1_ : Aside0 (Kd.R (Kd.int .i64) 3 w40 w.heap.size (fun k_ => some k_ ≠ (.slice Ao30 t568.length co30 : Value).ownBlock ∧ some k_ ≠ (.slice Ao33 y580.length co33 : Value).ownBlock ∧ some k_ ≠ (.slice Ao31 y587.length co31 : Value).ownBlock ∧ some k_ ≠ (v591 : Value).ownBlock ∧ some k_ ≠ (v597 : Value).ownBlock ∧ some k_ ≠ (v600 : Value).ownBlock) (.slice (some ad575) t572.length co23) t572) := ⟨h1_⟩
            have n2_ : Aside0 (Kd.R (Kd.int .i64) 3 w40 w.heap.size (fun k_ => some k_ ≠ (.slice Ao30 t568.length co30 : Value).ownBlock ∧ some k_ ≠ (.slice (some ad575) t572.length co23 : Value).ownBlock ∧ some k_ ≠ (.slice Ao31 y587.length co31 : Value).ownBlock ∧ some k_ ≠ (v591 : Value).ownBlock ∧ some k_ ≠ (v597 : Value).ownBlock ∧ some k_ ≠ (v600 : Value).ownBlock) (.slice Ao33 y580.length co33) y580) := ⟨h2_⟩
            have n3_ : Aside0 (Kd.R (Kd.int .i64) 3 w40 w.heap.size (fun k_ => some k_ ≠ (.slice Ao30 t568.length co30 : Value).ownBlock ∧ some k_ ≠ (.slice (some ad575) t572.length co23 : Value).ownBlock ∧ some k_ ≠ (.slice Ao33 y580.length co33 : Value).ownBlock ∧ some k_ ≠ (v591 : Value).ownBlock ∧ some k_ ≠ (v597 : Value).ownBlock ∧ some k_ ≠ (v600 : Value).ownBlock) (.slice Ao31 y587.length co31) y587) := ⟨h3_⟩
            have n4_ : Aside0 (Kd.R (Kd.int .i64) 3 w40 w.heap.size (fun k_ => some k_ ≠ (.slice Ao30 t568.length co30 : Value).ownBlock ∧ some k_ ≠ (.slice (some ad575) t572.length co23 : Value).ownBlock ∧ some k_ ≠ (.slice Ao33 y580.length co33 : Value).ownBlock ∧ some k_ ≠ (.slice Ao31 y587.length co31 : Value).ownBlock ∧ some k_ ≠ (v597 : Value).ownBlock ∧ some k_ ≠ (v600 : Value).ownBlock) v591 t590) := ⟨h4_⟩
            have n5_ : Aside0 (Kd.R (Kd.int .i64) 3 w40 w.heap.size (fun k_ => some k_ ≠ (.slice Ao30 t568.length co30 : Value).ownBlock ∧ some k_ ≠ (.slice (some ad575) t572.length co23 : Value).ownBlock ∧ some k_ ≠ (.slice Ao33 y580.length co33 : Value).ownBlock ∧ some k_ ≠ (.slice Ao31 y587.length co31 : Value).ownBlock ∧ some k_ ≠ (v591 : Value).ownBlock ∧ some k_ ≠ (v600 : Value).ownBlock) v597 y596) := ⟨h5_⟩
            have n6_ : Aside0 (Kd.R (Kd.int .i64) 3 w40 w.heap.size (fun k_ => some k_ ≠ (.slice Ao30 t568.length co30 : Value).ownBlock ∧ some k_ ≠ (.slice (some ad575) t572.length co23 : Value).ownBlock ∧ some k_ ≠ (.slice Ao33 y580.length co33 : Value).ownBlock ∧ some k_ ≠ (.slice Ao31 y587.length co31 : Value).ownBlock ∧ some k_ ≠ (v591 : Value).ownBlock ∧ some k_ ≠ (v597 : Value).ownBlock) v600 y599) := ⟨h6_⟩
            have n7_ : Aside0 (w40.heap[gb571]? = some (.cells #[.int .i64 t565, .int .i64 t566, .string t567] 28 (0, 0))) := ⟨h7_⟩
            have n8_ : Aside0 (Below w.heap.size w w40) := ⟨h8_⟩
            clear HO570
            clear HO574
            clear HO582
            clear HO589
            clear HO592
            clear BK571
            clear HB
            clear h0_ h1_ h2_ h3_ h4_ h5_ h6_ h7_ h8_
            have HO570 := n0_
            have HO574 := n1_
            have HO582 := n2_
            have HO589 := n3_
            have HO592 := n4_
            have HO598 := n5_
            have HO601 := n6_
            have BK571 := n7_
            have HB := n8_
            clear n0_ n1_ n2_ n3_ n4_ n5_ n6_ n7_ n8_
            have hHeld : w40.cell? ⟨gb571, 0, none⟩ = some (.int .i64 t565) ∧ w40.cell? ⟨gb571, 1, none⟩ = some (.int .i64 t566) ∧ w40.cell? ⟨gb571, 2, none⟩ = some (.string t567) := hS_
            refine norm_ (a' := ?_) ?_ ?_
            rotate_left
            ·simp only [putAll, Act.put, List.setIfInBounds_toArray, List.set_cons_zero, List.set_cons_succ]
             rfl
            refine one_ (i := 6) (N := some 61) #[true, true, true, true, true, true, true, true, false, false, false, false, false, false] rfl rfl (one_of HT_.out (by kernel_rfl)) (by decide) (fun K hK => ?_)
            refine Kd.R_append_rows_step (Kd.int .i64) (w0 := w) w.heap.size (by rfl) (.tmp 59) (.tmp 60) 24 3 (.int .i64 0) 8 rfl Try.underlying24 info3 rfl (by decide) (by omega) v600 y599 y580 _ _ _ (fun k_ => some k_ ≠ (.slice Ao30 t568.length co30 : Value).ownBlock ∧ some k_ ≠ (.slice (some ad575) t572.length co23 : Value).ownBlock ∧ some k_ ≠ (.slice Ao33 y580.length co33 : Value).ownBlock ∧ some k_ ≠ (.slice Ao31 y587.length co31 : Value).ownBlock ∧ some k_ ≠ (v591 : Value).ownBlock ∧ some k_ ≠ (v597 : Value).ownBlock) (fun _ => False) rfl rfl ?aO ?aR (fun _ _ h => h) (fun _ h => h.elim) ?aF ?aB ?aS ?aL ?_
            (case aR => exact uC (Kd.R_reads' HO582.out).2.2)
            (case aB => exact (by repeat (first | (with_reducible first | exact HB.out | apply below_alloc | apply pw_below_drewN | apply below_drew1 | refine below_set ?_ GE571.out) | exact HB.out)))
            (case aF => exact (fun k_ hk => ⟨Kd.fresh' (Kd.R_lt (uR HO570.out)) k_ hk, Kd.fresh' (Kd.R_lt (uR HO574.out)) k_ hk, Kd.fresh' (Kd.R_lt (uR HO582.out)) k_ hk, Kd.fresh' (Kd.R_lt (uR HO589.out)) k_ hk, Kd.fresh' (Kd.R_lt (uR HO592.out)) k_ hk, Kd.fresh' (Kd.R_lt (uR HO598.out)) k_ hk⟩))
            (case aO => exact (uR HO601.out))
            (case aS => exact (below_size (by repeat (first | (with_reducible first | exact HB.out | apply below_alloc | apply pw_below_drewN | apply below_drew1 | refine below_set ?_ GE571.out) | exact HB.out))))
            (case aL => have := LMc15.out; omega)
            intro v603 w41 ho hb hg hat
            rw [← Ny602.out] at ho
            have n0_ := Aside0.mk (Kd.R_after (ok := (fun k_ => some k_ ≠ (.slice (some ad575) t572.length co23 : Value).ownBlock ∧ some k_ ≠ (.slice Ao33 y580.length co33 : Value).ownBlock ∧ some k_ ≠ (.slice Ao31 y587.length co31 : Value).ownBlock ∧ some k_ ≠ (v591 : Value).ownBlock ∧ some k_ ≠ (v597 : Value).ownBlock)) (uR (Kd.R_mono HO570.out (fun _ hk => ⟨⟨hk.1, ⟨hk.2.1, ⟨hk.2.2.1, ⟨hk.2.2.2.1, hk.2.2.2.2.1⟩⟩⟩⟩, hk.2.2.2.2.2⟩))) hg hat)
            have n1_ := Aside0.mk (blk_grown (g := gb571) (o := .cells #[.int .i64 t565, .int .i64 t566, .string t567] 28 (0, 0)) (by (with_reducible repeat (first | refine blk_drewN ?_ _ | refine blk_drew ?_ | refine blk_alloc ?_ _)); exact BK571.out) hg (Kd.R_ne HO601.out BK571.out (by decide)))
            have n2_ := Aside0.mk (Kd.R_after (ok := (fun k_ => some k_ ≠ (.slice Ao30 t568.length co30 : Value).ownBlock ∧ some k_ ≠ (.slice Ao33 y580.length co33 : Value).ownBlock ∧ some k_ ≠ (.slice Ao31 y587.length co31 : Value).ownBlock ∧ some k_ ≠ (v591 : Value).ownBlock ∧ some k_ ≠ (v597 : Value).ownBlock)) (uR (Kd.R_mono HO574.out (fun _ hk => ⟨⟨hk.1, ⟨hk.2.1, ⟨hk.2.2.1, ⟨hk.2.2.2.1, hk.2.2.2.2.1⟩⟩⟩⟩, hk.2.2.2.2.2⟩))) hg hat)
            have n3_ := Aside0.mk (Kd.R_after (ok := (fun k_ => some k_ ≠ (.slice Ao30 t568.length co30 : Value).ownBlock ∧ some k_ ≠ (.slice (some ad575) t572.length co23 : Value).ownBlock ∧ some k_ ≠ (.slice Ao31 y587.length co31 : Value).ownBlock ∧ some k_ ≠ (v591 : Value).ownBlock ∧ some k_ ≠ (v597 : Value).ownBlock)) (uR (Kd.R_mono HO582.out (fun _ hk => ⟨⟨hk.1, ⟨hk.2.1, ⟨hk.2.2.1, ⟨hk.2.2.2.1, hk.2.2.2.2.1⟩⟩⟩⟩, hk.2.2.2.2.2⟩))) hg hat)
            have n4_ := Aside0.mk (Kd.R_after (ok := (fun k_ => some k_ ≠ (.slice Ao30 t568.length co30 : Value).ownBlock ∧ some k_ ≠ (.slice (some ad575) t572.length co23 : Value).ownBlock ∧ some k_ ≠ (.slice Ao33 y580.length co33 : Value).ownBlock ∧ some k_ ≠ (v591 : Value).ownBlock ∧ some k_ ≠ (v597 : Value).ownBlock)) (uR (Kd.R_mono HO589.out (fun _ hk => ⟨⟨hk.1, ⟨hk.2.1, ⟨hk.2.2.1, ⟨hk.2.2.2.1, hk.2.2.2.2.1⟩⟩⟩⟩, hk.2.2.2.2.2⟩))) hg hat)
            have n5_ := Aside0.mk (Kd.R_after (ok := (fun k_ => some k_ ≠ (.slice Ao30 t568.length co30 : Value).ownBlock ∧ some k_ ≠ (.slice (some ad575) t572.length co23 : Value).ownBlock ∧ some k_ ≠ (.slice Ao33 y580.length co33 : Value).ownBlock ∧ some k_ ≠ (.slice Ao31 y587.length co31 : Value).ownBlock ∧ some k_ ≠ (v597 : Value).ownBlock)) (uR (Kd.R_mono HO592.out (fun _ hk => ⟨⟨hk.1, ⟨hk.2.1, ⟨hk.2.2.1, ⟨hk.2.2.2.1, hk.2.2.2.2.1⟩⟩⟩⟩, hk.2.2.2.2.2⟩))) hg hat)
            have n6_ := Aside0.mk (Kd.R_after (ok := (fun k_ => some k_ ≠ (.slice Ao30 t568.length co30 : Value).ownBlock ∧ some k_ ≠ (.slice (some ad575) t572.length co23 : Value).ownBlock ∧ some k_ ≠ (.slice Ao33 y580.length co33 : Value).ownBlock ∧ some k_ ≠ (.slice Ao31 y587.length co31 : Value).ownBlock ∧ some k_ ≠ (v591 : Value).ownBlock)) (uR (Kd.R_mono HO598.out (fun _ hk => ⟨⟨hk.1, ⟨hk.2.1, ⟨hk.2.2.1, ⟨hk.2.2.2.1, hk.2.2.2.2.1⟩⟩⟩⟩, hk.2.2.2.2.2⟩))) hg hat)
            have n7_ := Aside0.mk (hb)
            have n8_ := Aside0.mk (ho)
            clear HO570
            clear BK571
            clear HO574
            clear HO582
            clear HO589
            clear HO592
            clear HO598
            clear HB
            clear HO601
            have HO570 := n0_
            have BK571 := n1_
            have HO574 := n2_
            have HO582 := n3_
            have HO589 := n4_
            have HO592 := n5_
            have HO598 := n6_
            have HB := n7_
            have HO604 := n8_
            clear n0_ n1_ n2_ n3_ n4_ n5_ n6_ n7_ n8_
            clear ho hb hg hat
            obtain ⟨Ao42, co42, eo42⟩ := Kd.R_slice HO598.out
            (first | subst eo42 | (injection eo42 with f1_ f2_ f3_; have f4_ := f1_.symm; have f5_ := f3_.symm; clear f1_ f2_ f3_; subst f4_; subst f5_))
            obtain ⟨Ao43, co43, eo43⟩ := Kd.R_slice HO604.out
            (first | subst eo43 | (injection eo43 with f1_ f2_ f3_; have f4_ := f1_.symm; have f5_ := f3_.symm; clear f1_ f2_ f3_; subst f4_; subst f5_))
            refine hK.out _ _ ⟨(blk_cell BK571.out 0).trans rfl, (blk_cell BK571.out 1).trans rfl, (blk_cell BK571.out 2).trans rfl⟩ (fun hHeld => ?_)
            clear hK K
            refine norm_ (a' := ?_) ?_ ?_
            rotate_left
            ·show Act.put _ (some 61) _ = _
             simp only [Act.put, List.setIfInBounds_toArray, List.set_cons_zero, List.set_cons_succ, i64_w, i32_w]
             rfl
            refine one_ (i := 8) (N := some 63) #[true, true, true, true, true, true, true, true, true, false, false, false, false, false] rfl rfl (one_of HT_.out (by kernel_rfl)) (by decide) (fun K hK => ?_)
            refine goes_ Try.func9 (by kernel_rfl) rfl #[.agg #[.int .i64 t565, .int .i64 t566, .string t567], .slice Ao42 y596.length co42, .slice Ao43 y602.length co43, .int .i64 (Int.tmod (rd t572 5) 7)] (by rfl) rfl rfl (by (try simp only [List.map_toArray, List.map_cons, List.map_nil]); first | done | rfl | (simp only [List.length_drop, List.length_take]; rfl)) ?_
            with_reducible refine (impl_WantedOf.calls k t565 t566 t567 _ _ y596 _ _ y602 (Int.tmod (rd t572 5) 7) t605 t608 _ ?side1 ?side2 ?side3 ?side4 A16.out).mono ?_
            (case side1 => exact uC (Kd.R_reads' HO598.out).2.2)
            (case side2 => exact (Kd.R_reads' HO598.out).2.1)
            (case side3 => exact uC (Kd.R_reads' HO604.out).2.2)
            (case side4 => exact (Kd.R_reads' HO604.out).2.1)
            rintro e w44 ⟨v606, rfl, ho0, hb⟩
            refine ⟨_, rfl, ?_⟩
            have n0_ := Aside0.mk (Kd.R_elder' (uR HO570.out) (Kd.R_base ho0) hb)
            have n1_ := Aside0.mk (Kd.R_elder' (uR HO574.out) (Kd.R_base ho0) hb)
            have n2_ := Aside0.mk (Kd.R_elder' (uR HO582.out) (Kd.R_base ho0) hb)
            have n3_ := Aside0.mk (Kd.R_elder' (uR HO589.out) (Kd.R_base ho0) hb)
            have n4_ := Aside0.mk (Kd.R_elder' (uR HO592.out) (Kd.R_base ho0) hb)
            have n5_ := Aside0.mk (Kd.R_elder' (uR HO598.out) (Kd.R_base ho0) hb)
            have n6_ := Aside0.mk (Kd.R_elder' (uR HO604.out) (Kd.R_base ho0) hb)
            have n7_ := Aside0.mk (Kd.R_lower (Kd.R_new' (Kd.R_new' (Kd.R_new' (Kd.R_new' (Kd.R_new' (Kd.R_new' (Kd.R_new' ho0 (Kd.R_lt (uR HO570.out))) (Kd.R_lt (uR HO574.out))) (Kd.R_lt (uR HO582.out))) (Kd.R_lt (uR HO589.out))) (Kd.R_lt (uR HO592.out))) (Kd.R_lt (uR HO598.out))) (Kd.R_lt (uR HO604.out))) (below_size (by repeat (first | (with_reducible first | exact HB.out | apply below_alloc | apply pw_below_drewN | apply below_drew1 | refine below_set ?_ GE571.out) | exact HB.out))))
            have n8_ := Aside0.mk (blk_below (g := gb571) (o := .cells #[.int .i64 t565, .int .i64 t566, .string t567] 28 (0, 0)) (by (with_reducible repeat (first | refine blk_drewN ?_ _ | refine blk_drew ?_ | refine blk_alloc ?_ _)); exact BK571.out) hb)
            have n9_ := Aside0.mk (below_step (by repeat (first | (with_reducible first | exact HB.out | apply below_alloc | apply pw_below_drewN | apply below_drew1 | refine below_set ?_ GE571.out) | exact HB.out)) hb)
            clear HO570
            clear HO574
            clear HO582
            clear HO589
            clear HO592
            clear HO598
            clear HO604
            clear BK571
            clear HB
            have HO570 := n0_
            have HO574 := n1_
            have HO582 := n2_
            have HO589 := n3_
            have HO592 := n4_
            have HO598 := n5_
            have HO604 := n6_
            have HO607 := n7_
            have BK571 := n8_
            have HB := n9_
            clear n0_ n1_ n2_ n3_ n4_ n5_ n6_ n7_ n8_ n9_
            (try clear hb)
            (try clear hb2)
            (try clear hk)
            (try clear hi)
            (try clear ho0)
            refine hK.out _ _ ⟨(blk_cell BK571.out 0).trans rfl, (blk_cell BK571.out 1).trans rfl, (blk_cell BK571.out 2).trans rfl⟩ (fun hHeld => ?_)
            clear hK K
            refine norm_ (a' := ?_) ?_ ?_
            rotate_left
            ·show Act.put _ (some 63) _ = _
             simp only [Act.put, List.setIfInBounds_toArray, List.set_cons_zero, List.set_cons_succ, i64_w, i32_w]
             rfl
            refine pure_ (i := 9) (N := some 54) (v := ?_) (a' := ?_) #[true, true, true, true, true, true, true, true, true, true, false, false, false, false] rfl rfl (any_of HT_.out (by kernel_rfl)) (fun _ _ _ h => h) (Or.inl ⟨by rfl, ?_⟩) ?_ ?_
            rotate_left
            ·intro w'
             go_simp
             with_reducible rfl
            rotate_left
            ·simp only [Act.put, List.setIfInBounds_toArray, List.set_cons_zero, List.set_cons_succ, i64_w, i32_w]
             rfl
            refine pure_ (i := 10) (N := some 64) (v := ?_) (a' := ?_) #[true, true, true, true, true, true, true, true, true, true, true, false, false, false] rfl rfl (any_of HT_.out (by kernel_rfl)) (fun _ _ _ h => h) (Or.inl ⟨by rfl, ?_⟩) ?_ ?_
            rotate_left
            ·intro w'
             go_simp
             with_reducible rfl
            rotate_left
            ·simp only [Act.put, List.setIfInBounds_toArray, List.set_cons_zero, List.set_cons_succ, i64_w, i32_w]
             rfl
            refine pure_ (i := 11) (N := some 65) (v := ?_) (a' := ?_) #[true, true, true, true, true, true, true, true, true, true, true, true, false, false] rfl rfl (any_of HT_.out (by kernel_rfl)) (fun _ _ _ h => h) (Or.inl ⟨by rfl, ?_⟩) ?_ ?_
            rotate_left
            ·intro w'
             go_simp
             with_reducible rfl
            rotate_left
            ·simp only [Act.put, List.setIfInBounds_toArray, List.set_cons_zero, List.set_cons_succ, i64_w, i32_w]
             rfl
            refine pure_ (i := 12) (N := some 9) (v := ?_) (a' := ?_) #[true, true, true, true, true, true, true, true, true, true, true, true, true, false] rfl rfl (any_of HT_.out (by kernel_rfl)) (fun _ _ _ h => h) (Or.inl ⟨by rfl, ?_⟩) ?_ ?_
            rotate_left
            ·intro w'
             go_simp
             with_reducible rfl
            rotate_left
            ·simp only [Act.put, List.setIfInBounds_toArray, List.set_cons_zero, List.set_cons_succ, i64_w, i32_w]
             rfl
            refine pure_ (i := 13) (N := some 10) (v := ?_) (a' := ?_) #[true, true, true, true, true, true, true, true, true, true, true, true, true, true] rfl rfl (any_of HT_.out (by kernel_rfl)) (fun _ _ _ h => h) (Or.inl ⟨by rfl, ?_⟩) ?_ ?_
            rotate_left
            ·intro w'
             go_simp
             with_reducible rfl
            rotate_left
            ·simp only [Act.put, List.setIfInBounds_toArray, List.set_cons_zero, List.set_cons_succ, i64_w, i32_w]
             rfl
            refine done_ (done_of HT_.out (by kernel_rfl)) ?_
            obtain ⟨Ao45, co45, eo45⟩ := Kd.R_slice HO592.out
            subst eo45
            try go_wp2
            go_loopg [11, 12] k (fun kq v11 v12 w' => ∃ (x11_1 : Int) (x12_1 : Int), v11 = .int .i64 x11_1 ∧ v12 = .int .i64 x12_1 ∧ Aside0 (laws_FnWanted.l0 kq t568 y580 (Int.tmod (rd t572 5) 7) t590 t605 t608 x11_1 x12_1 t565 t566 t567 = some r) ∧ Aside0 (kq ≤ k) ∧ Aside0 (Kd.R (Kd.int .i64) 3 w' w.heap.size (fun k_ => some k_ ≠ ((.slice Ao33 y580.length co33) : Value).ownBlock ∧ some k_ ≠ ((.slice Ao45 t590.length co45) : Value).ownBlock ∧ some k_ ≠ (v606 : Value).ownBlock) (.slice Ao30 t568.length co30) t568) ∧ Aside0 (Kd.R (Kd.int .i64) 3 w' w.heap.size (fun k_ => some k_ ≠ ((.slice Ao30 t568.length co30) : Value).ownBlock ∧ some k_ ≠ ((.slice Ao45 t590.length co45) : Value).ownBlock ∧ some k_ ≠ (v606 : Value).ownBlock) (.slice Ao33 y580.length co33) y580) ∧ Aside0 (Kd.R (Kd.int .i64) 3 w' w.heap.size (fun k_ => some k_ ≠ ((.slice Ao30 t568.length co30) : Value).ownBlock ∧ some k_ ≠ ((.slice Ao33 y580.length co33) : Value).ownBlock ∧ some k_ ≠ (v606 : Value).ownBlock) (.slice Ao45 t590.length co45) t590) ∧ Aside0 (Kd.R (Kd.int .i64) 3 w' w.heap.size (fun k_ => some k_ ≠ ((.slice Ao30 t568.length co30) : Value).ownBlock ∧ some k_ ≠ ((.slice Ao33 y580.length co33) : Value).ownBlock ∧ some k_ ≠ ((.slice Ao45 t590.length co45) : Value).ownBlock) v606 t605) ∧ Aside0 (w'.heap[gb571]? = some (.cells #[.int .i64 t565, .int .i64 t566, .string t567] 28 (0, 0))) ∧ Aside0 (Below w.heap.size w w'))
            case atStart => exact ⟨(0), (0), (by first | rfl | (simp; done) | (simp [*]; done)), (by first | rfl | (simp; done) | (simp [*]; done)), H', ⟨Nat.le_refl _⟩, ⟨by (with_reducible repeat (first | apply Kd.R_alloc | apply Kd.R_drewN | apply Kd.R_drew)); exact Kd.R_mono HO570.out (fun _ hk => ⟨hk.1.1.2.1, ⟨hk.1.1.2.2.2.1, hk.2⟩⟩)⟩, ⟨by (with_reducible repeat (first | apply Kd.R_alloc | apply Kd.R_drewN | apply Kd.R_drew)); exact Kd.R_mono HO582.out (fun _ hk => ⟨hk.1.1.1, ⟨hk.1.1.2.2.2.1, hk.2⟩⟩)⟩, ⟨by (with_reducible repeat (first | apply Kd.R_alloc | apply Kd.R_drewN | apply Kd.R_drew)); exact Kd.R_mono HO592.out (fun _ hk => ⟨hk.1.1.1, ⟨hk.1.1.2.2.1, hk.2⟩⟩)⟩, ⟨by (with_reducible repeat (first | apply Kd.R_alloc | apply Kd.R_drewN | apply Kd.R_drew)); exact Kd.R_mono HO607.out (fun _ hk => ⟨hk.1.1.1.1.1.1.2, ⟨hk.1.1.1.1.2, hk.1.1.2⟩⟩)⟩, ⟨by (with_reducible repeat (first | refine blk_drewN ?_ _ | refine blk_drew ?_ | refine blk_alloc ?_ _)); exact BK571.out⟩, ⟨by repeat (first | (with_reducible first | exact HB.out | apply below_alloc | apply pw_below_drewN | apply below_drew1 | refine below_set ?_ GE571.out) | exact HB.out)⟩⟩
            case round =>
             clear H'
             try clear c1
             try clear p2
             try clear c9
             try clear c14
             try clear c15
             obtain ⟨x11_1, x12_1, rfl, rfl, HA, HK1, HO_4, HO_6, HO_8, HO_9, BK571, HB⟩ := hrel
             cases gk with
             | zero => exact absurd HA.out (by simp [laws_FnWanted.l0])
             | succ k1 =>
              have H := HA.out
              clear HA
              simp only [laws_FnWanted.l0] at H
              by_cases c46 : x12_1 < 6
              ·rw [if_pos c46] at H
               have c46b0 : decide (x12_1 < 6) = true := decide_eq_true c46
               clear c46
               by_cases c47 : 0 ≤ x12_1
               ·rw [if_pos c47] at H
                have c47b0 : decide (0 ≤ x12_1) = true := decide_eq_true c47
                clear c47
                by_cases c48 : x12_1 < (y580.length : Int)
                ·rw [if_pos c48] at H
                 have c48b0 : decide (x12_1 < (y580.length : Int)) = true := decide_eq_true c48
                 clear c48
                 by_cases c49 : (rd y580 x12_1) > 0
                 ·rw [if_pos c49] at H
                  have c49b0 : decide (0 < (rd y580 x12_1)) = true := decide_eq_true c49
                  clear c49
                  by_cases c50 : x12_1 < (t590.length : Int)
                  ·rw [if_pos c50] at H
                   have c50b0 : decide (x12_1 < (t590.length : Int)) = true := decide_eq_true c50
                   clear c50
                   have H' := Aside0.mk H
                   clear H
                   have p609 : 0 ≤ (x12_1 : Int) := of_decide_eq_true (by first | (with_reducible assumption) | assumption)
                   have q609 : x12_1 < (y580.length : Int) := of_decide_eq_true (by first | (with_reducible assumption) | assumption)
                   obtain ⟨ad609, e609, hx609_0⟩ := Kd.at_int (Kd.R_reads' HO_6.out).2.2 x12_1 p609 q609
                   cases e609
                   replace p609 := eq_true p609
                   replace q609 := eq_true q609
                   have p610 : 0 ≤ (x12_1 : Int) := of_decide_eq_true (by first | (with_reducible assumption) | assumption)
                   have q610 : x12_1 < (t590.length : Int) := of_decide_eq_true (by first | (with_reducible assumption) | assumption)
                   obtain ⟨ad610, e610, hx610_0⟩ := Kd.at_int (Kd.R_reads' HO_8.out).2.2 x12_1 p610 q610
                   cases e610
                   replace p610 := eq_true p610
                   replace q610 := eq_true q610
                   go_wp2
                   go_roundg k1
                   case measure => have := HK1.out; omega
                   case rel => exact ⟨(wrap64 (x11_1 + (rd t590 x12_1))), (wrap64 (x12_1 + 1)), (by first | rfl | (simp; done) | (simp [*]; done)), (by first | rfl | (simp; done) | (simp [*]; done)), H', ⟨by have := HK1.out; omega⟩, ⟨by (with_reducible repeat (first | apply Kd.R_alloc | apply Kd.R_drewN | apply Kd.R_drew)); exact HO_4.out⟩, ⟨by (with_reducible repeat (first | apply Kd.R_alloc | apply Kd.R_drewN | apply Kd.R_drew)); exact HO_6.out⟩, ⟨by (with_reducible repeat (first | apply Kd.R_alloc | apply Kd.R_drewN | apply Kd.R_drew)); exact HO_8.out⟩, ⟨by (with_reducible repeat (first | apply Kd.R_alloc | apply Kd.R_drewN | apply Kd.R_drew)); exact HO_9.out⟩, ⟨by (with_reducible repeat (first | refine blk_drewN ?_ _ | refine blk_drew ?_ | refine blk_alloc ?_ _)); exact BK571.out⟩, ⟨by repeat (first | (with_reducible first | exact HB.out | apply below_alloc | apply pw_below_drewN | apply below_drew1 | refine below_set ?_ GE571.out) | exact HB.out)⟩⟩
                  ·rw [if_neg c50] at H
                   exact absurd H (by simp)
                 ·rw [if_neg c49] at H
                  have c49b0 : decide (0 < (rd y580 x12_1)) = false := decide_eq_false c49
                  clear c49
                  have H' := Aside0.mk H
                  clear H
                  have p609 : 0 ≤ (x12_1 : Int) := of_decide_eq_true (by first | (with_reducible assumption) | assumption)
                  have q609 : x12_1 < (y580.length : Int) := of_decide_eq_true (by first | (with_reducible assumption) | assumption)
                  obtain ⟨ad609, e609, hx609_0⟩ := Kd.at_int (Kd.R_reads' HO_6.out).2.2 x12_1 p609 q609
                  cases e609
                  replace p609 := eq_true p609
                  replace q609 := eq_true q609
                  go_wp2
                  go_roundg k1
                  case measure => have := HK1.out; omega
                  case rel => exact ⟨(x11_1), (wrap64 (x12_1 + 1)), (by first | rfl | (simp; done) | (simp [*]; done)), (by first | rfl | (simp; done) | (simp [*]; done)), H', ⟨by have := HK1.out; omega⟩, ⟨by (with_reducible repeat (first | apply Kd.R_alloc | apply Kd.R_drewN | apply Kd.R_drew)); exact HO_4.out⟩, ⟨by (with_reducible repeat (first | apply Kd.R_alloc | apply Kd.R_drewN | apply Kd.R_drew)); exact HO_6.out⟩, ⟨by (with_reducible repeat (first | apply Kd.R_alloc | apply Kd.R_drewN | apply Kd.R_drew)); exact HO_8.out⟩, ⟨by (with_reducible repeat (first | apply Kd.R_alloc | apply Kd.R_drewN | apply Kd.R_drew)); exact HO_9.out⟩, ⟨by (with_reducible repeat (first | refine blk_drewN ?_ _ | refine blk_drew ?_ | refine blk_alloc ?_ _)); exact BK571.out⟩, ⟨by repeat (first | (with_reducible first | exact HB.out | apply below_alloc | apply pw_below_drewN | apply below_drew1 | refine below_set ?_ GE571.out) | exact HB.out)⟩⟩
                ·rw [if_neg c48] at H
                 exact absurd H (by simp)
               ·rw [if_neg c47] at H
                exact absurd H (by simp)
              ·rw [if_neg c46] at H
               have c46b0 : decide (x12_1 < 6) = false := decide_eq_false c46
               clear c46
               have HC51 := Aside0.mk H
               clear H
               go_upto_if 86 with (fail)
               go_cut [11] (fun v11 wc => ∃ (kq : Nat) (x11_50 : Int), v11 = .int .i64 x11_50 ∧ Aside0 (laws_FnWanted.j1 kq t568 y580 t605 t608 x11_50 t565 t566 t567 = some r) ∧ Aside0 (kq ≤ k1) ∧ Aside0 (Kd.R (Kd.int .i64) 3 wc w.heap.size (fun k_ => some k_ ≠ ((.slice Ao33 y580.length co33) : Value).ownBlock ∧ some k_ ≠ (v606 : Value).ownBlock) (.slice Ao30 t568.length co30) t568) ∧ Aside0 (Kd.R (Kd.int .i64) 3 wc w.heap.size (fun k_ => some k_ ≠ ((.slice Ao30 t568.length co30) : Value).ownBlock ∧ some k_ ≠ (v606 : Value).ownBlock) (.slice Ao33 y580.length co33) y580) ∧ Aside0 (Kd.R (Kd.int .i64) 3 wc w.heap.size (fun k_ => some k_ ≠ ((.slice Ao30 t568.length co30) : Value).ownBlock ∧ some k_ ≠ ((.slice Ao33 y580.length co33) : Value).ownBlock) v606 t605) ∧ Aside0 (wc.heap[gb571]? = some (.cells #[.int .i64 t565, .int .i64 t566, .string t567] 28 (0, 0))) ∧ Aside0 (Below w.heap.size w wc))
               case first =>
                have H := HC51.out
                clear HC51
                by_cases c52 : (Int.tmod (rd t572 5) 7) < x11_1
                ·rw [if_pos c52] at H
                 have c52b0 : decide ((Int.tmod (rd t572 5) 7) < x11_1) = true := decide_eq_true c52
                 clear c52
                 (first | rw [c52b0] | (simp only [i64_w, i32_w]; rw [c52b0]) | skip)
                 have H' := Aside0.mk H
                 clear H
                 go_wp2
                 go_meet
                 case rel => exact ⟨_, ((Int.tmod (rd t572 5) 7)), (by first | rfl | (simp; done) | (simp [*]; done)), H', ⟨by have := HK1.out; first | omega | exact Nat.le_refl _⟩, ⟨by (with_reducible repeat (first | apply Kd.R_alloc | apply Kd.R_drewN | apply Kd.R_drew)); exact Kd.R_mono HO_4.out (fun _ hk => ⟨hk.1, hk.2.2⟩)⟩, ⟨by (with_reducible repeat (first | apply Kd.R_alloc | apply Kd.R_drewN | apply Kd.R_drew)); exact Kd.R_mono HO_6.out (fun _ hk => ⟨hk.1, hk.2.2⟩)⟩, ⟨by (with_reducible repeat (first | apply Kd.R_alloc | apply Kd.R_drewN | apply Kd.R_drew)); exact Kd.R_mono HO_9.out (fun _ hk => ⟨hk.1, hk.2.1⟩)⟩, ⟨by (with_reducible repeat (first | refine blk_drewN ?_ _ | refine blk_drew ?_ | refine blk_alloc ?_ _)); exact BK571.out⟩, ⟨by repeat (first | (with_reducible first | exact HB.out | apply below_alloc | apply pw_below_drewN | apply below_drew1 | refine below_set ?_ GE571.out) | exact HB.out)⟩⟩
                ·rw [if_neg c52] at H
                 have c52b0 : decide ((Int.tmod (rd t572 5) 7) < x11_1) = false := decide_eq_false c52
                 clear c52
                 (first | rw [c52b0] | (simp only [i64_w, i32_w]; rw [c52b0]) | skip)
                 have H' := Aside0.mk H
                 clear H
                 go_wp2
                 go_meet
                 case rel => exact ⟨_, (x11_1), (by first | rfl | (simp; done) | (simp [*]; done)), H', ⟨by have := HK1.out; first | omega | exact Nat.le_refl _⟩, ⟨by (with_reducible repeat (first | apply Kd.R_alloc | apply Kd.R_drewN | apply Kd.R_drew)); exact Kd.R_mono HO_4.out (fun _ hk => ⟨hk.1, hk.2.2⟩)⟩, ⟨by (with_reducible repeat (first | apply Kd.R_alloc | apply Kd.R_drewN | apply Kd.R_drew)); exact Kd.R_mono HO_6.out (fun _ hk => ⟨hk.1, hk.2.2⟩)⟩, ⟨by (with_reducible repeat (first | apply Kd.R_alloc | apply Kd.R_drewN | apply Kd.R_drew)); exact Kd.R_mono HO_9.out (fun _ hk => ⟨hk.1, hk.2.1⟩)⟩, ⟨by (with_reducible repeat (first | refine blk_drewN ?_ _ | refine blk_drew ?_ | refine blk_alloc ?_ _)); exact BK571.out⟩, ⟨by repeat (first | (with_reducible first | exact HB.out | apply below_alloc | apply pw_below_drewN | apply below_drew1 | refine below_set ?_ GE571.out) | exact HB.out)⟩⟩
               case rest =>
                clear HC51
                try clear c1
                try clear p2
                try clear c4
                try clear c5
                try clear p6
                try clear q6
                try clear hx6
                try clear c9
                try clear c14
                try clear c15
                try clear c46
                try clear c46b0
                try clear c47
                try clear c47b0
                try clear c48
                try clear c48b0
                try clear c49
                try clear c49b0
                try clear c50
                try clear c50b0
                try clear c52
                try clear c52b0
                try clear hx609_0
                try clear hx610_0
                try clear p2
                try clear p609
                try clear p610
                try clear q609
                try clear q610
                obtain ⟨kq, x11_50, rfl, HA, HJ50, HO_4, HO_6, HO_9, BK571, HB⟩ := hcut
                cases kq with
                | zero => exact absurd HA.out (by simp [laws_FnWanted.j1])
                | succ kj50 =>
                 have H := HA.out
                 clear HA
                 simp only [laws_FnWanted.j1] at H
                 have HC53 := Aside0.mk H
                 clear H
                 go_upto_region 19 with (fail)
                 go_cut [97] (fun v97 wc => ∃ (kq : Nat) (x97_52 : Bool), v97 = .bool x97_52 ∧ Aside0 (laws_FnWanted.j2 kq t568 y580 t605 x97_52 t565 t566 t567 = some r) ∧ Aside0 (kq ≤ kj50) ∧ Aside0 (Kd.R (Kd.int .i64) 3 wc w.heap.size (fun k_ => some k_ ≠ ((.slice Ao33 y580.length co33) : Value).ownBlock ∧ some k_ ≠ (v606 : Value).ownBlock) (.slice Ao30 t568.length co30) t568) ∧ Aside0 (Kd.R (Kd.int .i64) 3 wc w.heap.size (fun k_ => some k_ ≠ ((.slice Ao30 t568.length co30) : Value).ownBlock ∧ some k_ ≠ (v606 : Value).ownBlock) (.slice Ao33 y580.length co33) y580) ∧ Aside0 (Kd.R (Kd.int .i64) 3 wc w.heap.size (fun k_ => some k_ ≠ ((.slice Ao30 t568.length co30) : Value).ownBlock ∧ some k_ ≠ ((.slice Ao33 y580.length co33) : Value).ownBlock) v606 t605) ∧ Aside0 (wc.heap[gb571]? = some (.cells #[.int .i64 t565, .int .i64 t566, .string t567] 28 (0, 0))) ∧ Aside0 (Below w.heap.size w wc))
                 case first =>
                  have H := HC53.out
                  clear HC53
                  by_cases c54 : (t608 != (decide (x11_50 > 0))) = true
                  ·rw [if_pos c54] at H
                   have c54b0 : (t608 != (decide (x11_50 > 0))) = true := c54
                   (try (have c54b1 : decide (t608 = (decide (x11_50 > 0))) = false := by simpa using c54))
                   (try (have c54b2 : (t608 == (decide (x11_50 > 0))) = false := by simpa using c54))
                   (try (have c54b3 : ¬ (t608 = (decide (x11_50 > 0))) := by simpa using c54))
                   clear c54
                   (first | rw [c54b0] | (simp only [i64_w, i32_w]; rw [c54b0]) | skip)
                   have H' := Aside0.mk H
                   clear H
                   go_wp2
                   go_meet
                   case rel => exact ⟨_, (true), (by first | rfl | (simp; done) | (simp [*]; done)), H', ⟨by have := HK1.out; have := HJ50.out; first | omega | exact Nat.le_refl _⟩, ⟨by (with_reducible repeat (first | apply Kd.R_alloc | apply Kd.R_drewN | apply Kd.R_drew)); exact HO_4.out⟩, ⟨by (with_reducible repeat (first | apply Kd.R_alloc | apply Kd.R_drewN | apply Kd.R_drew)); exact HO_6.out⟩, ⟨by (with_reducible repeat (first | apply Kd.R_alloc | apply Kd.R_drewN | apply Kd.R_drew)); exact HO_9.out⟩, ⟨by (with_reducible repeat (first | refine blk_drewN ?_ _ | refine blk_drew ?_ | refine blk_alloc ?_ _)); exact BK571.out⟩, ⟨by repeat (first | (with_reducible first | exact HB.out | apply below_alloc | apply pw_below_drewN | apply below_drew1 | refine below_set ?_ GE571.out) | exact HB.out)⟩⟩
                  ·rw [if_neg c54] at H
                   have c54b0 : (t608 != (decide (x11_50 > 0))) = false := by simpa using c54
                   (try (have c54b1 : decide (t608 = (decide (x11_50 > 0))) = true := by simpa using c54))
                   (try (have c54b2 : (t608 == (decide (x11_50 > 0))) = true := by simpa using c54))
                   clear c54
                   (first | rw [c54b0] | (simp only [i64_w, i32_w]; rw [c54b0]) | skip)
                   have H' := Aside0.mk H
                   clear H
                   obtain ⟨Ao55, co55, eo55⟩ := Kd.R_slice HO_9.out
                   subst eo55
                   go_wp2
                   go_meet
                   case rel => exact ⟨_, (((t605.length : Int) != x11_50)), (by first | rfl | (simp; done) | (simp [*]; done)), H', ⟨by have := HK1.out; have := HJ50.out; first | omega | exact Nat.le_refl _⟩, ⟨by (with_reducible repeat (first | apply Kd.R_alloc | apply Kd.R_drewN | apply Kd.R_drew)); exact HO_4.out⟩, ⟨by (with_reducible repeat (first | apply Kd.R_alloc | apply Kd.R_drewN | apply Kd.R_drew)); exact HO_6.out⟩, ⟨by (with_reducible repeat (first | apply Kd.R_alloc | apply Kd.R_drewN | apply Kd.R_drew)); exact HO_9.out⟩, ⟨by (with_reducible repeat (first | refine blk_drewN ?_ _ | refine blk_drew ?_ | refine blk_alloc ?_ _)); exact BK571.out⟩, ⟨by repeat (first | (with_reducible first | exact HB.out | apply below_alloc | apply pw_below_drewN | apply below_drew1 | refine below_set ?_ GE571.out) | exact HB.out)⟩⟩
                 case rest =>
                  clear HC53
                  try clear c1
                  try clear p2
                  try clear c4
                  try clear c5
                  try clear p6
                  try clear q6
                  try clear hx6
                  try clear c9
                  try clear c14
                  try clear c15
                  try clear c46
                  try clear c46b0
                  try clear c47
                  try clear c47b0
                  try clear c48
                  try clear c48b0
                  try clear c49
                  try clear c49b0
                  try clear c50
                  try clear c50b0
                  try clear c52
                  try clear c52b0
                  try clear c54
                  try clear c54b0
                  try clear c54b1
                  try clear c54b2
                  try clear hx609_0
                  try clear hx610_0
                  try clear p2
                  try clear p6
                  try clear p609
                  try clear p610
                  try clear q6
                  try clear q609
                  try clear q610
                  obtain ⟨kq, x97_52, rfl, HA, HJ52, HO_4, HO_6, HO_9, BK571, HB⟩ := hcut
                  cases kq with
                  | zero => exact absurd HA.out (by simp [laws_FnWanted.j2])
                  | succ kj52 =>
                   have H := HA.out
                   clear HA
                   simp only [laws_FnWanted.j2] at H
                   by_cases c56 : x97_52 = true
                   ·subst c56
                    have H1 : (some false) = some r := by rw [if_pos rfl] at H; exact H
                    clear H
                    have H := H1
                    clear H1
                    exact absurd hr_ (by rw [← Option.some.inj H]; decide)
                   ·replace c56 := Bool.eq_false_iff.mpr c56
                    subst c56
                    have H1 : (laws_FnWanted.l1 kj52 t568 y580 t605 0 t565 t566 t567) = some r := by rw [if_neg (show ¬ (false = true) by decide)] at H; exact H
                    clear H
                    have H := H1
                    clear H1
                    have H' := Aside0.mk H
                    clear H
                    go_wp2
                    go_loopg [13] kj52 (fun kq v13 w' => ∃ (x13_4 : Int), v13 = .int .i64 x13_4 ∧ Aside0 (laws_FnWanted.l1 kq t568 y580 t605 x13_4 t565 t566 t567 = some r) ∧ Aside0 (kq ≤ kj52) ∧ Aside0 (Kd.R (Kd.int .i64) 3 w' w.heap.size (fun k_ => some k_ ≠ ((.slice Ao33 y580.length co33) : Value).ownBlock ∧ some k_ ≠ (v606 : Value).ownBlock) (.slice Ao30 t568.length co30) t568) ∧ Aside0 (Kd.R (Kd.int .i64) 3 w' w.heap.size (fun k_ => some k_ ≠ ((.slice Ao30 t568.length co30) : Value).ownBlock ∧ some k_ ≠ (v606 : Value).ownBlock) (.slice Ao33 y580.length co33) y580) ∧ Aside0 (Kd.R (Kd.int .i64) 3 w' w.heap.size (fun k_ => some k_ ≠ ((.slice Ao30 t568.length co30) : Value).ownBlock ∧ some k_ ≠ ((.slice Ao33 y580.length co33) : Value).ownBlock) v606 t605) ∧ Aside0 (w'.heap[gb571]? = some (.cells #[.int .i64 t565, .int .i64 t566, .string t567] 28 (0, 0))) ∧ Aside0 (Below w.heap.size w w'))
                    case atStart => exact ⟨(0), (by first | rfl | (simp; done) | (simp [*]; done)), H', ⟨Nat.le_refl _⟩, ⟨by (with_reducible repeat (first | apply Kd.R_alloc | apply Kd.R_drewN | apply Kd.R_drew)); exact HO_4.out⟩, ⟨by (with_reducible repeat (first | apply Kd.R_alloc | apply Kd.R_drewN | apply Kd.R_drew)); exact HO_6.out⟩, ⟨by (with_reducible repeat (first | apply Kd.R_alloc | apply Kd.R_drewN | apply Kd.R_drew)); exact HO_9.out⟩, ⟨by (with_reducible repeat (first | refine blk_drewN ?_ _ | refine blk_drew ?_ | refine blk_alloc ?_ _)); exact BK571.out⟩, ⟨by repeat (first | (with_reducible first | exact HB.out | apply below_alloc | apply pw_below_drewN | apply below_drew1 | refine below_set ?_ GE571.out) | exact HB.out)⟩⟩
                    case round =>
                     clear H'
                     try clear c1
                     try clear p2
                     try clear c4
                     try clear c5
                     try clear p6
                     try clear q6
                     try clear hx6
                     try clear c9
                     try clear c14
                     try clear c15
                     try clear c46
                     try clear c46b0
                     try clear c47
                     try clear c47b0
                     try clear c48
                     try clear c48b0
                     try clear c49
                     try clear c49b0
                     try clear c50
                     try clear c50b0
                     try clear c52
                     try clear c52b0
                     try clear c54
                     try clear c54b0
                     try clear c54b1
                     try clear c54b2
                     try clear c56
                     try clear hx609_0
                     try clear hx610_0
                     try clear p2
                     try clear p6
                     try clear p609
                     try clear p610
                     try clear q6
                     try clear q609
                     try clear q610
                     obtain ⟨x13_4, rfl, HA, HK4, HO_4, HO_6, HO_9, BK571, HB⟩ := hrel
                     cases gk with
                     | zero => exact absurd HA.out (by simp [laws_FnWanted.l1])
                     | succ k4 =>
                      have H := HA.out
                      clear HA
                      simp only [laws_FnWanted.l1] at H
                      by_cases c57 : x13_4 < (t605.length : Int)
                      ·rw [if_pos c57] at H
                       have c57b0 : decide (x13_4 < (t605.length : Int)) = true := decide_eq_true c57
                       clear c57
                       by_cases c58 : 0 ≤ x13_4
                       ·rw [if_pos c58] at H
                        have c58b0 : decide (0 ≤ x13_4) = true := decide_eq_true c58
                        clear c58
                        replace H := Option.bind_eq_some_iff.mp H
                        obtain ⟨t612, A590, H⟩ := H
                        replace H : ((impl_ParkAt.f k4 t565 t566 t567 (rd t605 x13_4)).bind fun t614 => (if t614 = true then ((laws_has.f k4 t568 (rd t605 x13_4)).bind fun t616 => (if t616 = true then (some false) else (if t612 < 0 then (some false) else (if 0 ≤ t612 then (if t612 < (y580.length : Int) then (if (rd y580 t612) = 0 then (some false) else (if x13_4 > 0 then (if 0 ≤ (wrap64 (x13_4 - 1)) then (if (wrap64 (x13_4 - 1)) < (t605.length : Int) then (if (rd t605 (wrap64 (x13_4 - 1))) ≥ (rd t605 x13_4) then (some false) else (laws_FnWanted.l1 k4 t568 y580 t605 (wrap64 (x13_4 + 1)) t565 t566 t567)) else (none)) else (none)) else (laws_FnWanted.l1 k4 t568 y580 t605 (wrap64 (x13_4 + 1)) t565 t566 t567))) else (none)) else (none))))) else (some false))) = some r := H
                        have A59 := Aside0.mk A590
                        clear A590
                        replace H := Option.bind_eq_some_iff.mp H
                        obtain ⟨t614, A600, H⟩ := H
                        replace H : (if t614 = true then ((laws_has.f k4 t568 (rd t605 x13_4)).bind fun t616 => (if t616 = true then (some false) else (if t612 < 0 then (some false) else (if 0 ≤ t612 then (if t612 < (y580.length : Int) then (if (rd y580 t612) = 0 then (some false) else (if x13_4 > 0 then (if 0 ≤ (wrap64 (x13_4 - 1)) then (if (wrap64 (x13_4 - 1)) < (t605.length : Int) then (if (rd t605 (wrap64 (x13_4 - 1))) ≥ (rd t605 x13_4) then (some false) else (laws_FnWanted.l1 k4 t568 y580 t605 (wrap64 (x13_4 + 1)) t565 t566 t567)) else (none)) else (none)) else (laws_FnWanted.l1 k4 t568 y580 t605 (wrap64 (x13_4 + 1)) t565 t566 t567))) else (none)) else (none))))) else (some false)) = some r := H
                        have A60 := Aside0.mk A600
                        clear A600
                        by_cases c61 : t614 = true
                        ·subst c61
                         have H1 : ((laws_has.f k4 t568 (rd t605 x13_4)).bind fun t616 => (if t616 = true then (some false) else (if t612 < 0 then (some false) else (if 0 ≤ t612 then (if t612 < (y580.length : Int) then (if (rd y580 t612) = 0 then (some false) else (if x13_4 > 0 then (if 0 ≤ (wrap64 (x13_4 - 1)) then (if (wrap64 (x13_4 - 1)) < (t605.length : Int) then (if (rd t605 (wrap64 (x13_4 - 1))) ≥ (rd t605 x13_4) then (some false) else (laws_FnWanted.l1 k4 t568 y580 t605 (wrap64 (x13_4 + 1)) t565 t566 t567)) else (none)) else (none)) else (laws_FnWanted.l1 k4 t568 y580 t605 (wrap64 (x13_4 + 1)) t565 t566 t567))) else (none)) else (none))))) = some r := by rw [if_pos rfl] at H; exact H
                         clear H
                         have H := H1
                         clear H1
                         replace H := Option.bind_eq_some_iff.mp H
                         obtain ⟨t616, A620, H⟩ := H
                         replace H : (if t616 = true then (some false) else (if t612 < 0 then (some false) else (if 0 ≤ t612 then (if t612 < (y580.length : Int) then (if (rd y580 t612) = 0 then (some false) else (if x13_4 > 0 then (if 0 ≤ (wrap64 (x13_4 - 1)) then (if (wrap64 (x13_4 - 1)) < (t605.length : Int) then (if (rd t605 (wrap64 (x13_4 - 1))) ≥ (rd t605 x13_4) then (some false) else (laws_FnWanted.l1 k4 t568 y580 t605 (wrap64 (x13_4 + 1)) t565 t566 t567)) else (none)) else (none)) else (laws_FnWanted.l1 k4 t568 y580 t605 (wrap64 (x13_4 + 1)) t565 t566 t567))) else (none)) else (none)))) = some r := H
                         have A62 := Aside0.mk A620
                         clear A620
                         by_cases c63 : t616 = true
                         ·subst c63
                          have H1 : (some false) = some r := by rw [if_pos rfl] at H; exact H
                          clear H
                          have H := H1
                          clear H1
                          exact absurd hr_ (by rw [← Option.some.inj H]; decide)
                         ·replace c63 := Bool.eq_false_iff.mpr c63
                          subst c63
                          have H1 : (if t612 < 0 then (some false) else (if 0 ≤ t612 then (if t612 < (y580.length : Int) then (if (rd y580 t612) = 0 then (some false) else (if x13_4 > 0 then (if 0 ≤ (wrap64 (x13_4 - 1)) then (if (wrap64 (x13_4 - 1)) < (t605.length : Int) then (if (rd t605 (wrap64 (x13_4 - 1))) ≥ (rd t605 x13_4) then (some false) else (laws_FnWanted.l1 k4 t568 y580 t605 (wrap64 (x13_4 + 1)) t565 t566 t567)) else (none)) else (none)) else (laws_FnWanted.l1 k4 t568 y580 t605 (wrap64 (x13_4 + 1)) t565 t566 t567))) else (none)) else (none))) = some r := by rw [if_neg (show ¬ (false = true) by decide)] at H; exact H
                          clear H
                          have H := H1
                          clear H1
                          by_cases c64 : t612 < 0
                          ·rw [if_pos c64] at H
                           have c64b0 : decide (t612 < 0) = true := decide_eq_true c64
                           clear c64
                           exact absurd hr_ (by rw [← Option.some.inj H]; decide)
                          ·rw [if_neg c64] at H
                           have c64b0 : decide (t612 < 0) = false := decide_eq_false c64
                           clear c64
                           by_cases c65 : 0 ≤ t612
                           ·rw [if_pos c65] at H
                            have c65b0 : decide (0 ≤ t612) = true := decide_eq_true c65
                            clear c65
                            by_cases c66 : t612 < (y580.length : Int)
                            ·rw [if_pos c66] at H
                             have c66b0 : decide (t612 < (y580.length : Int)) = true := decide_eq_true c66
                             clear c66
                             by_cases c67 : (rd y580 t612) = 0
                             ·rw [if_pos c67] at H
                              have c67b0 : ((rd y580 t612) == 0) = true := beq_iff_eq.mpr c67
                              have c67b1 : ((rd y580 t612) != 0) = false := bne_eq_false_iff_eq.mpr c67
                              clear c67
                              exact absurd hr_ (by rw [← Option.some.inj H]; decide)
                             ·rw [if_neg c67] at H
                              have c67b0 : ((rd y580 t612) == 0) = false := beq_eq_false_iff_ne.mpr c67
                              have c67b1 : ((rd y580 t612) != 0) = true := bne_iff_ne.mpr c67
                              by_cases c68 : x13_4 > 0
                              ·rw [if_pos c68] at H
                               have c68b0 : decide (0 < x13_4) = true := decide_eq_true c68
                               clear c68
                               obtain ⟨ji69, hji69⟩ : ∃ j_ : Int, (wrap64 (x13_4 - 1)) = j_ := ⟨_, rfl⟩
                               replace H : (if 0 ≤ (ji69) then (if (ji69) < (t605.length : Int) then (if (rd t605 (ji69)) ≥ (rd t605 x13_4) then (some false) else (laws_FnWanted.l1 k4 t568 y580 t605 (wrap64 (x13_4 + 1)) t565 t566 t567)) else (none)) else (none)) = some r := by first | (rw [hji69] at H; exact H) | (simp only [hji69] at H ⊢; exact H)
                               (try rw [hji69] at A59)
                               (try rw [hji69] at A60)
                               (try rw [hji69] at A62)
                               have hji69w : (IntKind.i64.wrap (x13_4 - 1)) = ji69 := (i64_w _).trans hji69
                               by_cases c70 : 0 ≤ (ji69)
                               ·rw [if_pos c70] at H
                                have c70b0 : decide (0 ≤ (ji69)) = true := decide_eq_true c70
                                clear c70
                                by_cases c71 : (ji69) < (t605.length : Int)
                                ·rw [if_pos c71] at H
                                 have c71b0 : decide ((ji69) < (t605.length : Int)) = true := decide_eq_true c71
                                 clear c71
                                 by_cases c72 : (rd t605 (ji69)) ≥ (rd t605 x13_4)
                                 ·rw [if_pos c72] at H
                                  have c72b0 : decide ((rd t605 x13_4) ≤ (rd t605 (ji69))) = true := decide_eq_true c72
                                  clear c72
                                  exact absurd hr_ (by rw [← Option.some.inj H]; decide)
                                 ·rw [if_neg c72] at H
                                  have c72b0 : decide ((rd t605 x13_4) ≤ (rd t605 (ji69))) = false := decide_eq_false c72
                                  clear c72
                                  have H' := Aside0.mk H
                                  clear H
                                  obtain ⟨Ao73, co73, eo73⟩ := Kd.R_slice HO_9.out
                                  subst eo73
                                  try go_wp2
                                  have n0_ := Aside0.mk (Kd.R_drew HO_4.out)
                                  have n1_ := Aside0.mk (Kd.R_drew HO_6.out)
                                  have n2_ := Aside0.mk (Kd.R_drew HO_9.out)
                                  have n3_ := Aside0.mk (blk_drew BK571.out)
                                  have n4_ := Aside0.mk (below_drew1 HB.out)
                                  clear HO_4
                                  clear HO_6
                                  clear HO_9
                                  clear BK571
                                  clear HB
                                  have HO_4 := n0_
                                  have HO_6 := n1_
                                  have HO_9 := n2_
                                  have BK571 := n3_
                                  have HB := n4_
                                  clear n0_ n1_ n2_ n3_ n4_
                                  have p611 : 0 ≤ (x13_4 : Int) := of_decide_eq_true (by first | (with_reducible assumption) | assumption)
                                  have q611 : x13_4 < (t605.length : Int) := of_decide_eq_true (by first | (with_reducible assumption) | assumption)
                                  obtain ⟨ad611, e611, hx611_0⟩ := Kd.at_int (Kd.R_reads' HO_9.out).2.2 x13_4 p611 q611
                                  cases e611
                                  replace p611 := eq_true p611
                                  replace q611 := eq_true q611
                                  refine start_ (n := 7) (S := fun w' => w'.cell? ⟨gb571, 0, none⟩ = some (.int .i64 t565) ∧ w'.cell? ⟨gb571, 1, none⟩ = some (.int .i64 t566) ∧ w'.cell? ⟨gb571, 2, none⟩ = some (.string t567) ∧ w'.cell? (ad611.add (x13_4).toNat) = some (.int .i64 (rd t605 x13_4))) (ds := []) #[false, false, false, false, false, false, false] (by kernel_rfl) rfl rfl ⟨(blk_cell BK571.out 0).trans rfl, (blk_cell BK571.out 1).trans rfl, (blk_cell BK571.out 2).trans rfl, hx611_0⟩ (fun hHeld => ?_)
                                  generalize wr.drew = w74 at HO_4 HO_6 HO_9 BK571 HB hx611_0 hHeld ⊢
                                  refine pure_ (i := 1) (N := some 105) (v := ?_) (a' := ?_) #[false, true, false, false, false, false, false] rfl rfl (by kernel_rfl) (fun _ _ _ h => h) (Or.inl ⟨by rfl, ?_⟩) ?_ ?_
                                  rotate_left
                                  ·intro w'
                                   go_simp
                                   with_reducible rfl
                                  rotate_left
                                  ·simp only [Act.put, List.setIfInBounds_toArray, List.set_cons_zero, List.set_cons_succ, i64_w, i32_w]
                                   rfl
                                  refine pure_ (i := 2) (N := some 106) (v := ?_) (a' := ?_) #[false, true, true, false, false, false, false] rfl rfl (by kernel_rfl) (fun _ _ _ h => h) (Or.inl ⟨by rfl, ?_⟩) ?_ ?_
                                  rotate_left
                                  ·intro w'
                                   go_simp
                                   with_reducible rfl
                                  rotate_left
                                  ·simp only [Act.put, List.setIfInBounds_toArray, List.set_cons_zero, List.set_cons_succ, i64_w, i32_w]
                                   rfl
                                  refine pure_ (i := 3) (N := some 107) (v := ?_) (a' := ?_) #[false, true, true, true, false, false, false] rfl rfl (by kernel_rfl) (fun _ _ _ h => h) (Or.inl ⟨by rfl, ?_⟩) ?_ ?_
                                  rotate_left
                                  ·intro w'
                                   go_simp
                                   with_reducible rfl
                                  rotate_left
                                  ·simp only [Act.put, List.setIfInBounds_toArray, List.set_cons_zero, List.set_cons_succ, i64_w, i32_w]
                                   rfl
                                  refine take_ (i := 0) (N := some 104) (v := ?_) (a' := ?_) #[true, true, true, true, false, false, false] rfl rfl (by kernel_rfl) (fun _ _ _ h => h) (Or.inl ⟨by rfl, ?_⟩) hHeld ?_ ?_
                                  rotate_left
                                  ·rintro w' ⟨s0, s1, s2, s3⟩
                                   go_simp
                                   with_reducible rfl
                                  rotate_left
                                  ·simp only [Act.put, List.setIfInBounds_toArray, List.set_cons_zero, List.set_cons_succ, i64_w, i32_w]
                                   rfl
                                  refine take_ (i := 4) (N := some 108) (v := ?_) (a' := ?_) #[true, true, true, true, true, false, false] rfl rfl (by kernel_rfl) (fun _ _ _ h => h) (Or.inl ⟨by rfl, ?_⟩) hHeld ?_ ?_
                                  rotate_left
                                  ·rintro w' ⟨s0, s1, s2, s3⟩
                                   go_simp
                                   with_reducible rfl
                                  rotate_left
                                  ·simp only [Act.put, List.setIfInBounds_toArray, List.set_cons_zero, List.set_cons_succ, i64_w, i32_w]
                                   rfl
                                  refine one_ (i := 5) (N := some 109) #[true, true, true, true, true, true, false] rfl rfl (by kernel_rfl) (by decide) (fun K hK => ?_)
                                  refine goes_ Try.func17 (by kernel_rfl) rfl #[.agg #[.int .i64 t565, .int .i64 t566, .string t567], .int .i64 (rd t605 x13_4)] (by rfl) rfl rfl (by (try simp only [List.map_toArray, List.map_cons, List.map_nil]); first | done | rfl | (simp only [List.length_drop, List.length_take]; rfl)) ?_
                                  with_reducible refine (impl_ZoneOf.calls k4 t565 t566 t567 (rd t605 x13_4) t612 _ A59.out).mono ?_
                                  rintro e w75 ⟨rfl, hb⟩
                                  have HS3_ := (hb.cell (World.block_lt_of_cell? _ _ (hHeld.2.2.2))).trans (hHeld.2.2.2)
                                  refine ⟨_, rfl, ?_⟩
                                  have n0_ := Aside0.mk (Kd.R_below (uR HO_4.out) hb)
                                  have n1_ := Aside0.mk (Kd.R_below (uR HO_6.out) hb)
                                  have n2_ := Aside0.mk (Kd.R_below (uR HO_9.out) hb)
                                  have n3_ := Aside0.mk (blk_below (g := gb571) (o := .cells #[.int .i64 t565, .int .i64 t566, .string t567] 28 (0, 0)) (by (with_reducible repeat (first | refine blk_drewN ?_ _ | refine blk_drew ?_ | refine blk_alloc ?_ _)); exact BK571.out) hb)
                                  have n4_ := Aside0.mk (below_step (by repeat (first | (with_reducible first | exact HB.out | apply below_alloc | apply pw_below_drewN | apply below_drew1 | refine below_set ?_ GE571.out) | exact HB.out)) hb)
                                  clear HO_4
                                  clear HO_6
                                  clear HO_9
                                  clear BK571
                                  clear HB
                                  have HO_4 := n0_
                                  have HO_6 := n1_
                                  have HO_9 := n2_
                                  have BK571 := n3_
                                  have HB := n4_
                                  clear n0_ n1_ n2_ n3_ n4_
                                  (try clear hb)
                                  (try clear hb2)
                                  (try clear hk)
                                  (try clear hi)
                                  refine hK.out _ _ ⟨(blk_cell BK571.out 0).trans rfl, (blk_cell BK571.out 1).trans rfl, (blk_cell BK571.out 2).trans rfl, HS3_⟩ (fun hHeld => ?_)
                                  clear hK K
                                  refine norm_ (a' := ?_) ?_ ?_
                                  rotate_left
                                  ·show Act.put _ (some 109) _ = _
                                   simp only [Act.put, List.setIfInBounds_toArray, List.set_cons_zero, List.set_cons_succ, i64_w, i32_w]
                                   rfl
                                  refine pure_ (i := 6) (N := some 14) (v := ?_) (a' := ?_) #[true, true, true, true, true, true, true] rfl rfl (by kernel_rfl) (fun _ _ _ h => h) (Or.inl ⟨by rfl, ?_⟩) ?_ ?_
                                  rotate_left
                                  ·intro w'
                                   go_simp
                                   with_reducible rfl
                                  rotate_left
                                  ·simp only [Act.put, List.setIfInBounds_toArray, List.set_cons_zero, List.set_cons_succ, i64_w, i32_w]
                                   rfl
                                  refine done_ (by kernel_rfl) ?_
                                  try go_wp2
                                  have n0_ := Aside0.mk (Kd.R_drew HO_4.out)
                                  have n1_ := Aside0.mk (Kd.R_drew HO_6.out)
                                  have n2_ := Aside0.mk (Kd.R_drew HO_9.out)
                                  have n3_ := Aside0.mk (blk_drew BK571.out)
                                  have n4_ := Aside0.mk (below_drew1 HB.out)
                                  clear HO_4
                                  clear HO_6
                                  clear HO_9
                                  clear BK571
                                  clear HB
                                  have HO_4 := n0_
                                  have HO_6 := n1_
                                  have HO_9 := n2_
                                  have BK571 := n3_
                                  have HB := n4_
                                  clear n0_ n1_ n2_ n3_ n4_
                                  have p613 : 0 ≤ (x13_4 : Int) := of_decide_eq_true (by first | (with_reducible assumption) | assumption)
                                  have q613 : x13_4 < (t605.length : Int) := of_decide_eq_true (by first | (with_reducible assumption) | assumption)
                                  obtain ⟨ad613, e613, hx613_0⟩ := Kd.at_int (Kd.R_reads' HO_9.out).2.2 x13_4 p613 q613
                                  obtain rfl : ad611 = ad613 := (by injection e613)
                                  replace p613 := eq_true p613
                                  replace q613 := eq_true q613
                                  have p615 : 0 ≤ (x13_4 : Int) := of_decide_eq_true (by first | (with_reducible assumption) | assumption)
                                  have q615 : x13_4 < (t605.length : Int) := of_decide_eq_true (by first | (with_reducible assumption) | assumption)
                                  obtain ⟨ad615, e615, hx615_0⟩ := Kd.at_int (Kd.R_reads' HO_9.out).2.2 x13_4 p615 q615
                                  obtain rfl : ad611 = ad615 := (by injection e615)
                                  replace p615 := eq_true p615
                                  replace q615 := eq_true q615
                                  have p617 : 0 ≤ (t612 : Int) := of_decide_eq_true (by first | (with_reducible assumption) | assumption)
                                  have q617 : t612 < (y580.length : Int) := of_decide_eq_true (by first | (with_reducible assumption) | assumption)
                                  obtain ⟨ad617, e617, hx617_0⟩ := Kd.at_int (Kd.R_reads' HO_6.out).2.2 t612 p617 q617
                                  cases e617
                                  replace p617 := eq_true p617
                                  replace q617 := eq_true q617
                                  have p618 : 0 ≤ ((ji69) : Int) := of_decide_eq_true (by first | (with_reducible assumption) | assumption)
                                  have q618 : (ji69) < (t605.length : Int) := of_decide_eq_true (by first | (with_reducible assumption) | assumption)
                                  obtain ⟨ad618, e618, hx618_0⟩ := Kd.at_int (Kd.R_reads' HO_9.out).2.2 (ji69) p618 q618
                                  obtain rfl : ad611 = ad618 := (by injection e618)
                                  replace p618 := eq_true p618
                                  replace q618 := eq_true q618
                                  have p619 : 0 ≤ (x13_4 : Int) := of_decide_eq_true (by first | (with_reducible assumption) | assumption)
                                  have q619 : x13_4 < (t605.length : Int) := of_decide_eq_true (by first | (with_reducible assumption) | assumption)
                                  obtain ⟨ad619, e619, hx619_0⟩ := Kd.at_int (Kd.R_reads' HO_9.out).2.2 x13_4 p619 q619
                                  obtain rfl : ad611 = ad619 := (by injection e619)
                                  replace p619 := eq_true p619
                                  replace q619 := eq_true q619
                                  refine start_ (n := 42) (S := fun w' => w'.cell? ⟨gb571, 0, none⟩ = some (.int .i64 t565) ∧ w'.cell? ⟨gb571, 1, none⟩ = some (.int .i64 t566) ∧ w'.cell? ⟨gb571, 2, none⟩ = some (.string t567) ∧ w'.cell? (ad611.add (x13_4).toNat) = some (.int .i64 (rd t605 x13_4)) ∧ w'.cell? (ad611.add (x13_4).toNat) = some (.int .i64 (rd t605 x13_4)) ∧ w'.cell? (ad617.add (t612).toNat) = some (.int .i64 (rd y580 t612)) ∧ w'.cell? (ad611.add ((ji69)).toNat) = some (.int .i64 (rd t605 (ji69))) ∧ w'.cell? (ad611.add (x13_4).toNat) = some (.int .i64 (rd t605 x13_4))) (ds := []) #[false, false, false, false, false, false, false, false, false, false, false, false, false, false, false, false, false, false, false, false, false, false, false, false, false, false, false, false, false, false, false, false, false, false, false, false, false, false, false, false, false, false] (by kernel_rfl) rfl rfl ⟨(blk_cell BK571.out 0).trans rfl, (blk_cell BK571.out 1).trans rfl, (blk_cell BK571.out 2).trans rfl, hx613_0, hx615_0, hx617_0, hx618_0, hx619_0⟩ (fun hHeld => ?_); refine with_tabW laws_FnWanted.tab25 laws_FnWanted.bits25 (fun HT_ HW_ => ?_)
                                  generalize w75.drew = w76 at HO_4 HO_6 HO_9 BK571 HB hx613_0 hx615_0 hx617_0 hx618_0 hx619_0 hHeld ⊢
                                  refine pure_ (i := 1) (N := some 111) (v := ?_) (a' := ?_) #[false, true, false, false, false, false, false, false, false, false, false, false, false, false, false, false, false, false, false, false, false, false, false, false, false, false, false, false, false, false, false, false, false, false, false, false, false, false, false, false, false, false] rfl rfl (any_of HT_.out (by kernel_rfl)) (fun _ _ _ h => h) (Or.inl ⟨by rfl, ?_⟩) ?_ ?_
                                  rotate_left
                                  ·intro w'
                                   go_simp
                                   with_reducible rfl
                                  rotate_left
                                  ·simp only [Act.put, List.setIfInBounds_toArray, List.set_cons_zero, List.set_cons_succ, i64_w, i32_w]
                                   rfl
                                  refine pure_ (i := 2) (N := some 112) (v := ?_) (a' := ?_) #[false, true, true, false, false, false, false, false, false, false, false, false, false, false, false, false, false, false, false, false, false, false, false, false, false, false, false, false, false, false, false, false, false, false, false, false, false, false, false, false, false, false] rfl rfl (any_of HT_.out (by kernel_rfl)) (fun _ _ _ h => h) (Or.inl ⟨by rfl, ?_⟩) ?_ ?_
                                  rotate_left
                                  ·intro w'
                                   go_simp
                                   with_reducible rfl
                                  rotate_left
                                  ·simp only [Act.put, List.setIfInBounds_toArray, List.set_cons_zero, List.set_cons_succ, i64_w, i32_w]
                                   rfl
                                  refine pure_ (i := 3) (N := some 113) (v := ?_) (a' := ?_) #[false, true, true, true, false, false, false, false, false, false, false, false, false, false, false, false, false, false, false, false, false, false, false, false, false, false, false, false, false, false, false, false, false, false, false, false, false, false, false, false, false, false] rfl rfl (any_of HT_.out (by kernel_rfl)) (fun _ _ _ h => h) (Or.inl ⟨by rfl, ?_⟩) ?_ ?_
                                  rotate_left
                                  ·intro w'
                                   go_simp
                                   with_reducible rfl
                                  rotate_left
                                  ·simp only [Act.put, List.setIfInBounds_toArray, List.set_cons_zero, List.set_cons_succ, i64_w, i32_w]
                                   rfl
                                  refine take_ (i := 0) (N := some 110) (v := ?_) (a' := ?_) #[true, true, true, true, false, false, false, false, false, false, false, false, false, false, false, false, false, false, false, false, false, false, false, false, false, false, false, false, false, false, false, false, false, false, false, false, false, false, false, false, false, false] rfl rfl (take_ofW HT_.out HW_.out (by kernel_rfl)) (fun _ _ _ h => h) (Or.inl ⟨by rfl, ?_⟩) hHeld ?_ ?_
                                  rotate_left
                                  ·rintro w' ⟨s0, s1, s2, s3, s4, s5, s6, s7⟩
                                   go_simp
                                   with_reducible rfl
                                  rotate_left
                                  ·simp only [Act.put, List.setIfInBounds_toArray, List.set_cons_zero, List.set_cons_succ, i64_w, i32_w]
                                   rfl
                                  refine take_ (i := 4) (N := some 114) (v := ?_) (a' := ?_) #[true, true, true, true, true, false, false, false, false, false, false, false, false, false, false, false, false, false, false, false, false, false, false, false, false, false, false, false, false, false, false, false, false, false, false, false, false, false, false, false, false, false] rfl rfl (take_ofW HT_.out HW_.out (by kernel_rfl)) (fun _ _ _ h => h) (Or.inl ⟨by rfl, ?_⟩) hHeld ?_ ?_
                                  rotate_left
                                  ·rintro w' ⟨s0, s1, s2, s3, s4, s5, s6, s7⟩
                                   go_simp
                                   with_reducible rfl
                                  rotate_left
                                  ·simp only [Act.put, List.setIfInBounds_toArray, List.set_cons_zero, List.set_cons_succ, i64_w, i32_w]
                                   rfl
                                  refine one_ (i := 5) (N := some 115) #[true, true, true, true, true, true, false, false, false, false, false, false, false, false, false, false, false, false, false, false, false, false, false, false, false, false, false, false, false, false, false, false, false, false, false, false, false, false, false, false, false, false] rfl rfl (one_of HT_.out (by kernel_rfl)) (by decide) (fun K hK => ?_)
                                  refine goes_ Try.func18 (by kernel_rfl) rfl #[.agg #[.int .i64 t565, .int .i64 t566, .string t567], .int .i64 (rd t605 x13_4)] (by rfl) rfl rfl (by (try simp only [List.map_toArray, List.map_cons, List.map_nil]); first | done | rfl | (simp only [List.length_drop, List.length_take]; rfl)) ?_
                                  with_reducible refine (impl_ParkAt.calls k4 t565 t566 t567 (rd t605 x13_4) true _ A60.out).mono ?_
                                  rintro e w77 ⟨rfl, hb⟩
                                  have HS3_ := (hb.cell (World.block_lt_of_cell? _ _ (hHeld.2.2.2.1))).trans (hHeld.2.2.2.1)
                                  have HS4_ := (hb.cell (World.block_lt_of_cell? _ _ (hHeld.2.2.2.2.1))).trans (hHeld.2.2.2.2.1)
                                  have HS5_ := (hb.cell (World.block_lt_of_cell? _ _ (hHeld.2.2.2.2.2.1))).trans (hHeld.2.2.2.2.2.1)
                                  have HS6_ := (hb.cell (World.block_lt_of_cell? _ _ (hHeld.2.2.2.2.2.2.1))).trans (hHeld.2.2.2.2.2.2.1)
                                  have HS7_ := (hb.cell (World.block_lt_of_cell? _ _ (hHeld.2.2.2.2.2.2.2))).trans (hHeld.2.2.2.2.2.2.2)
                                  refine ⟨_, rfl, ?_⟩
                                  have n0_ := Aside0.mk (Kd.R_below (uR HO_4.out) hb)
                                  have n1_ := Aside0.mk (Kd.R_below (uR HO_6.out) hb)
                                  have n2_ := Aside0.mk (Kd.R_below (uR HO_9.out) hb)
                                  have n3_ := Aside0.mk (blk_below (g := gb571) (o := .cells #[.int .i64 t565, .int .i64 t566, .string t567] 28 (0, 0)) (by (with_reducible repeat (first | refine blk_drewN ?_ _ | refine blk_drew ?_ | refine blk_alloc ?_ _)); exact BK571.out) hb)
                                  have n4_ := Aside0.mk (below_step (by repeat (first | (with_reducible first | exact HB.out | apply below_alloc | apply pw_below_drewN | apply below_drew1 | refine below_set ?_ GE571.out) | exact HB.out)) hb)
                                  clear HO_4
                                  clear HO_6
                                  clear HO_9
                                  clear BK571
                                  clear HB
                                  have HO_4 := n0_
                                  have HO_6 := n1_
                                  have HO_9 := n2_
                                  have BK571 := n3_
                                  have HB := n4_
                                  clear n0_ n1_ n2_ n3_ n4_
                                  (try clear hb)
                                  (try clear hb2)
                                  (try clear hk)
                                  (try clear hi)
                                  refine hK.out _ _ ⟨(blk_cell BK571.out 0).trans rfl, (blk_cell BK571.out 1).trans rfl, (blk_cell BK571.out 2).trans rfl, HS3_, HS4_, HS5_, HS6_, HS7_⟩ (fun hHeld => ?_)
                                  clear hK K
                                  refine norm_ (a' := ?_) ?_ ?_
                                  rotate_left
                                  ·show Act.put _ (some 115) _ = _
                                   simp only [Act.put, List.setIfInBounds_toArray, List.set_cons_zero, List.set_cons_succ, i64_w, i32_w]
                                   rfl
                                  refine pure_ (i := 6) (N := some 116) (v := ?_) (a' := ?_) #[true, true, true, true, true, true, true, false, false, false, false, false, false, false, false, false, false, false, false, false, false, false, false, false, false, false, false, false, false, false, false, false, false, false, false, false, false, false, false, false, false, false] rfl rfl (any_of HT_.out (by kernel_rfl)) (fun _ _ _ h => h) (Or.inl ⟨by rfl, ?_⟩) ?_ ?_
                                  rotate_left
                                  ·intro w'
                                   go_simp
                                   with_reducible rfl
                                  rotate_left
                                  ·simp only [Act.put, List.setIfInBounds_toArray, List.set_cons_zero, List.set_cons_succ, i64_w, i32_w]
                                   rfl
                                  refine pure_ (i := 7) (N := some 117) (v := ?_) (a' := ?_) #[true, true, true, true, true, true, true, true, false, false, false, false, false, false, false, false, false, false, false, false, false, false, false, false, false, false, false, false, false, false, false, false, false, false, false, false, false, false, false, false, false, false] rfl rfl (any_of HT_.out (by kernel_rfl)) (fun _ _ _ h => h) (Or.inl ⟨by rfl, ?_⟩) ?_ ?_
                                  rotate_left
                                  ·intro w'
                                   go_simp
                                   with_reducible rfl
                                  rotate_left
                                  ·simp only [Act.put, List.setIfInBounds_toArray, List.set_cons_zero, List.set_cons_succ, i64_w, i32_w]
                                   rfl
                                  refine pure_ (i := 8) (N := some 118) (v := ?_) (a' := ?_) #[true, true, true, true, true, true, true, true, true, false, false, false, false, false, false, false, false, false, false, false, false, false, false, false, false, false, false, false, false, false, false, false, false, false, false, false, false, false, false, false, false, false] rfl rfl (any_of HT_.out (by kernel_rfl)) (fun _ _ _ h => h) (Or.inl ⟨by rfl, ?_⟩) ?_ ?_
                                  rotate_left
                                  ·intro w'
                                   go_simp
                                   with_reducible rfl
                                  rotate_left
                                  ·simp only [Act.put, List.setIfInBounds_toArray, List.set_cons_zero, List.set_cons_succ, i64_w, i32_w]
                                   rfl
                                  refine pure_ (i := 9) (N := some 119) (v := ?_) (a' := ?_) #[true, true, true, true, true, true, true, true, true, true, false, false, false, false, false, false, false, false, false, false, false, false, false, false, false, false, false, false, false, false, false, false, false, false, false, false, false, false, false, false, false, false] rfl rfl (any_of HT_.out (by kernel_rfl)) (fun _ _ _ h => h) (Or.inl ⟨by rfl, ?_⟩) ?_ ?_
                                  rotate_left
                                  ·intro w'
                                   go_simp
                                   with_reducible rfl
                                  rotate_left
                                  ·simp only [Act.put, List.setIfInBounds_toArray, List.set_cons_zero, List.set_cons_succ, i64_w, i32_w]
                                   rfl
                                  refine pure_ (i := 10) (N := some 120) (v := ?_) (a' := ?_) #[true, true, true, true, true, true, true, true, true, true, true, false, false, false, false, false, false, false, false, false, false, false, false, false, false, false, false, false, false, false, false, false, false, false, false, false, false, false, false, false, false, false] rfl rfl (any_of HT_.out (by kernel_rfl)) (fun _ _ _ h => h) (Or.inl ⟨by rfl, ?_⟩) ?_ ?_
                                  rotate_left
                                  ·intro w'
                                   go_simp
                                   with_reducible rfl
                                  rotate_left
                                  ·simp only [Act.put, List.setIfInBounds_toArray, List.set_cons_zero, List.set_cons_succ, i64_w, i32_w]
                                   rfl
                                  refine pure_ (i := 11) (N := some 121) (v := ?_) (a' := ?_) #[true, true, true, true, true, true, true, true, true, true, true, true, false, false, false, false, false, false, false, false, false, false, false, false, false, false, false, false, false, false, false, false, false, false, false, false, false, false, false, false, false, false] rfl rfl (any_of HT_.out (by kernel_rfl)) (fun _ _ _ h => h) (Or.inl ⟨by rfl, ?_⟩) ?_ ?_
                                  rotate_left
                                  ·intro w'
                                   go_simp
                                   with_reducible rfl
                                  rotate_left
                                  ·simp only [Act.put, List.setIfInBounds_toArray, List.set_cons_zero, List.set_cons_succ, i64_w, i32_w]
                                   rfl
                                  refine take_ (i := 12) (N := some 122) (v := ?_) (a' := ?_) #[true, true, true, true, true, true, true, true, true, true, true, true, true, false, false, false, false, false, false, false, false, false, false, false, false, false, false, false, false, false, false, false, false, false, false, false, false, false, false, false, false, false] rfl rfl (take_ofW HT_.out HW_.out (by kernel_rfl)) (fun _ _ _ h => h) (Or.inl ⟨by rfl, ?_⟩) hHeld ?_ ?_
                                  rotate_left
                                  ·rintro w' ⟨s0, s1, s2, s3, s4, s5, s6, s7⟩
                                   go_simp
                                   with_reducible rfl
                                  rotate_left
                                  ·simp only [Act.put, List.setIfInBounds_toArray, List.set_cons_zero, List.set_cons_succ, i64_w, i32_w]
                                   rfl
                                  refine one_ (i := 13) (N := some 123) #[true, true, true, true, true, true, true, true, true, true, true, true, true, true, false, false, false, false, false, false, false, false, false, false, false, false, false, false, false, false, false, false, false, false, false, false, false, false, false, false, false, false] rfl rfl (one_of HT_.out (by kernel_rfl)) (by decide) (fun K hK => ?_)
                                  refine goes_ Try.func19 (by kernel_rfl) rfl #[.slice Ao30 t568.length co30, .int .i64 (rd t605 x13_4)] (by rfl) rfl rfl (by (try simp only [List.map_toArray, List.map_cons, List.map_nil]); first | done | rfl | (simp only [List.length_drop, List.length_take]; rfl)) ?_
                                  with_reducible refine (laws_has.calls k4 _ _ t568 (rd t605 x13_4) false _ ?side1 ?side2 A62.out).mono ?_
                                  (case side1 => exact uC (Kd.R_reads' HO_4.out).2.2)
                                  (case side2 => exact (Kd.R_reads' HO_4.out).2.1)
                                  rintro e w' ⟨rfl, ⟨nd, rfl⟩⟩
                                  refine ⟨_, rfl, ?_⟩
                                  refine hK.out _ _ ⟨(blk_cell BK571.out 0).trans rfl, (blk_cell BK571.out 1).trans rfl, (blk_cell BK571.out 2).trans rfl, hHeld.2.2.2.1, hHeld.2.2.2.2.1, hHeld.2.2.2.2.2.1, hHeld.2.2.2.2.2.2.1, hHeld.2.2.2.2.2.2.2⟩ (fun hHeld => ?_)
                                  clear hK K
                                  refine norm_ (a' := ?_) ?_ ?_
                                  rotate_left
                                  ·show Act.put _ (some 123) _ = _
                                   simp only [Act.put, List.setIfInBounds_toArray, List.set_cons_zero, List.set_cons_succ, i64_w, i32_w]
                                   rfl
                                  refine pure_ (i := 14) (N := some 124) (v := ?_) (a' := ?_) #[true, true, true, true, true, true, true, true, true, true, true, true, true, true, true, false, false, false, false, false, false, false, false, false, false, false, false, false, false, false, false, false, false, false, false, false, false, false, false, false, false, false] rfl rfl (any_of HT_.out (by kernel_rfl)) (fun _ _ _ h => h) (Or.inl ⟨by rfl, ?_⟩) ?_ ?_
                                  rotate_left
                                  ·intro w'
                                   go_simp
                                   with_reducible rfl
                                  rotate_left
                                  ·simp only [Act.put, List.setIfInBounds_toArray, List.set_cons_zero, List.set_cons_succ, i64_w, i32_w]
                                   rfl
                                  refine pure_ (i := 15) (N := some 125) (v := ?_) (a' := ?_) #[true, true, true, true, true, true, true, true, true, true, true, true, true, true, true, true, false, false, false, false, false, false, false, false, false, false, false, false, false, false, false, false, false, false, false, false, false, false, false, false, false, false] rfl rfl (any_of HT_.out (by kernel_rfl)) (fun _ _ _ h => h) (Or.inl ⟨by rfl, ?_⟩) ?_ ?_
                                  rotate_left
                                  ·intro w'
                                   go_simp
                                   with_reducible rfl
                                  rotate_left
                                  ·simp only [Act.put, List.setIfInBounds_toArray, List.set_cons_zero, List.set_cons_succ, i64_w, i32_w]
                                   rfl
                                  refine pure_ (i := 16) (N := some 126) (v := ?_) (a' := ?_) #[true, true, true, true, true, true, true, true, true, true, true, true, true, true, true, true, true, false, false, false, false, false, false, false, false, false, false, false, false, false, false, false, false, false, false, false, false, false, false, false, false, false] rfl rfl (any_of HT_.out (by kernel_rfl)) (fun _ _ _ h => h) (Or.inl ⟨by rfl, ?_⟩) ?_ ?_
                                  rotate_left
                                  ·intro w'
                                   go_simp
                                   with_reducible rfl
                                  rotate_left
                                  ·simp only [Act.put, List.setIfInBounds_toArray, List.set_cons_zero, List.set_cons_succ, i64_w, i32_w]
                                   rfl
                                  refine pure_ (i := 17) (N := some 127) (v := ?_) (a' := ?_) #[true, true, true, true, true, true, true, true, true, true, true, true, true, true, true, true, true, true, false, false, false, false, false, false, false, false, false, false, false, false, false, false, false, false, false, false, false, false, false, false, false, false] rfl rfl (any_of HT_.out (by kernel_rfl)) (fun _ _ _ h => h) (Or.inl ⟨by rfl, ?_⟩) ?_ ?_
                                  rotate_left
                                  ·intro w'
                                   go_simp
                                   with_reducible rfl
                                  rotate_left
                                  ·simp only [Act.put, List.setIfInBounds_toArray, List.set_cons_zero, List.set_cons_succ, i64_w, i32_w]
                                   rfl
                                  refine pure_ (i := 18) (N := some 128) (v := ?_) (a' := ?_) #[true, true, true, true, true, true, true, true, true, true, true, true, true, true, true, true, true, true, true, false, false, false, false, false, false, false, false, false, false, false, false, false, false, false, false, false, false, false, false, false, false, false] rfl rfl (any_of HT_.out (by kernel_rfl)) (fun _ _ _ h => h) (Or.inl ⟨by rfl, ?_⟩) ?_ ?_
                                  rotate_left
                                  ·intro w'
                                   go_simp
                                   with_reducible rfl
                                  rotate_left
                                  ·simp only [Act.put, List.setIfInBounds_toArray, List.set_cons_zero, List.set_cons_succ, i64_w, i32_w]
                                   rfl
                                  refine pure_ (i := 19) (N := some 129) (v := ?_) (a' := ?_) #[true, true, true, true, true, true, true, true, true, true, true, true, true, true, true, true, true, true, true, true, false, false, false, false, false, false, false, false, false, false, false, false, false, false, false, false, false, false, false, false, false, false] rfl rfl (any_of HT_.out (by kernel_rfl)) (fun _ _ _ h => h) (Or.inl ⟨by rfl, ?_⟩) ?_ ?_
                                  rotate_left
                                  ·intro w'
                                   go_simp
                                   with_reducible rfl
                                  rotate_left
                                  ·simp only [Act.put, List.setIfInBounds_toArray, List.set_cons_zero, List.set_cons_succ, i64_w, i32_w]
                                   rfl
                                  refine pure_ (i := 20) (N := some 130) (v := ?_) (a' := ?_) #[true, true, true, true, true, true, true, true, true, true, true, true, true, true, true, true, true, true, true, true, true, false, false, false, false, false, false, false, false, false, false, false, false, false, false, false, false, false, false, false, false, false] rfl rfl (any_of HT_.out (by kernel_rfl)) (fun _ _ _ h => h) (Or.inl ⟨by rfl, ?_⟩) ?_ ?_
                                  rotate_left
                                  ·intro w'
                                   go_simp
                                   with_reducible rfl
                                  rotate_left
                                  ·simp only [Act.put, List.setIfInBounds_toArray, List.set_cons_zero, List.set_cons_succ, i64_w, i32_w]
                                   rfl
                                  refine pure_ (i := 21) (N := some 131) (v := ?_) (a' := ?_) #[true, true, true, true, true, true, true, true, true, true, true, true, true, true, true, true, true, true, true, true, true, true, false, false, false, false, false, false, false, false, false, false, false, false, false, false, false, false, false, false, false, false] rfl rfl (any_of HT_.out (by kernel_rfl)) (fun _ _ _ h => h) (Or.inl ⟨by rfl, ?_⟩) ?_ ?_
                                  rotate_left
                                  ·intro w'
                                   go_simp
                                   with_reducible rfl
                                  rotate_left
                                  ·simp only [Act.put, List.setIfInBounds_toArray, List.set_cons_zero, List.set_cons_succ, i64_w, i32_w]
                                   rfl
                                  refine pure_ (i := 22) (N := some 132) (v := ?_) (a' := ?_) #[true, true, true, true, true, true, true, true, true, true, true, true, true, true, true, true, true, true, true, true, true, true, true, false, false, false, false, false, false, false, false, false, false, false, false, false, false, false, false, false, false, false] rfl rfl (any_of HT_.out (by kernel_rfl)) (fun _ _ _ h => h) (Or.inl ⟨by rfl, ?_⟩) ?_ ?_
                                  rotate_left
                                  ·intro w'
                                   go_simp
                                   with_reducible rfl
                                  rotate_left
                                  ·simp only [Act.put, List.setIfInBounds_toArray, List.set_cons_zero, List.set_cons_succ, i64_w, i32_w]
                                   rfl
                                  refine take_ (i := 23) (N := some 133) (v := ?_) (a' := ?_) #[true, true, true, true, true, true, true, true, true, true, true, true, true, true, true, true, true, true, true, true, true, true, true, true, false, false, false, false, false, false, false, false, false, false, false, false, false, false, false, false, false, false] rfl rfl (take_ofW HT_.out HW_.out (by kernel_rfl)) (fun _ _ _ h => h) (Or.inl ⟨by rfl, ?_⟩) hHeld ?_ ?_
                                  rotate_left
                                  ·rintro w' ⟨s0, s1, s2, s3, s4, s5, s6, s7⟩
                                   go_simp
                                   with_reducible rfl
                                  rotate_left
                                  ·simp only [Act.put, List.setIfInBounds_toArray, List.set_cons_zero, List.set_cons_succ, i64_w, i32_w]
                                   rfl
                                  refine pure_ (i := 24) (N := some 134) (v := ?_) (a' := ?_) #[true, true, true, true, true, true, true, true, true, true, true, true, true, true, true, true, true, true, true, true, true, true, true, true, true, false, false, false, false, false, false, false, false, false, false, false, false, false, false, false, false, false] rfl rfl (any_of HT_.out (by kernel_rfl)) (fun _ _ _ h => h) (Or.inl ⟨by rfl, ?_⟩) ?_ ?_
                                  rotate_left
                                  ·intro w'
                                   go_simp
                                   with_reducible rfl
                                  rotate_left
                                  ·simp only [Act.put, List.setIfInBounds_toArray, List.set_cons_zero, List.set_cons_succ, i64_w, i32_w]
                                   rfl
                                  refine pure_ (i := 25) (N := some 135) (v := ?_) (a' := ?_) #[true, true, true, true, true, true, true, true, true, true, true, true, true, true, true, true, true, true, true, true, true, true, true, true, true, true, false, false, false, false, false, false, false, false, false, false, false, false, false, false, false, false] rfl rfl (any_of HT_.out (by kernel_rfl)) (fun _ _ _ h => h) (Or.inl ⟨by rfl, ?_⟩) ?_ ?_
                                  rotate_left
                                  ·intro w'
                                   go_simp
                                   with_reducible rfl
                                  rotate_left
                                  ·simp only [Act.put, List.setIfInBounds_toArray, List.set_cons_zero, List.set_cons_succ, i64_w, i32_w]
                                   rfl
                                  refine pure_ (i := 26) (N := some 136) (v := ?_) (a' := ?_) #[true, true, true, true, true, true, true, true, true, true, true, true, true, true, true, true, true, true, true, true, true, true, true, true, true, true, true, false, false, false, false, false, false, false, false, false, false, false, false, false, false, false] rfl rfl (any_of HT_.out (by kernel_rfl)) (fun _ _ _ h => h) (Or.inl ⟨by rfl, ?_⟩) ?_ ?_
                                  rotate_left
                                  ·intro w'
                                   go_simp
                                   with_reducible rfl
                                  rotate_left
                                  ·simp only [Act.put, List.setIfInBounds_toArray, List.set_cons_zero, List.set_cons_succ, i64_w, i32_w]
                                   rfl
                                  refine pure_ (i := 27) (N := some 137) (v := ?_) (a' := ?_) #[true, true, true, true, true, true, true, true, true, true, true, true, true, true, true, true, true, true, true, true, true, true, true, true, true, true, true, true, false, false, false, false, false, false, false, false, false, false, false, false, false, false] rfl rfl (any_of HT_.out (by kernel_rfl)) (fun _ _ _ h => h) (Or.inl ⟨by rfl, ?_⟩) ?_ ?_
                                  rotate_left
                                  ·intro w'
                                   go_simp
                                   with_reducible rfl
                                  rotate_left
                                  ·simp only [Act.put, List.setIfInBounds_toArray, List.set_cons_zero, List.set_cons_succ, i64_w, i32_w]
                                   rfl
                                  refine pure_ (i := 28) (N := some 138) (v := ?_) (a' := ?_) #[true, true, true, true, true, true, true, true, true, true, true, true, true, true, true, true, true, true, true, true, true, true, true, true, true, true, true, true, true, false, false, false, false, false, false, false, false, false, false, false, false, false] rfl rfl (any_of HT_.out (by kernel_rfl)) (fun _ _ _ h => h) (Or.inl ⟨by rfl, ?_⟩) ?_ ?_
                                  rotate_left
                                  ·intro w'
                                   go_simp
                                   with_reducible rfl
                                  rotate_left
                                  ·simp only [Act.put, List.setIfInBounds_toArray, List.set_cons_zero, List.set_cons_succ, i64_w, i32_w]
                                   rfl
                                  refine pure_ (i := 29) (N := some 139) (v := ?_) (a' := ?_) #[true, true, true, true, true, true, true, true, true, true, true, true, true, true, true, true, true, true, true, true, true, true, true, true, true, true, true, true, true, true, false, false, false, false, false, false, false, false, false, false, false, false] rfl rfl (any_of HT_.out (by kernel_rfl)) (fun _ _ _ h => h) (Or.inl ⟨by rfl, ?_⟩) ?_ ?_
                                  rotate_left
                                  ·intro w'
                                   go_simp
                                   with_reducible rfl
                                  rotate_left
                                  ·simp only [Act.put, List.setIfInBounds_toArray, List.set_cons_zero, List.set_cons_succ, i64_w, i32_w]
                                   rfl
                                  refine pure_ (i := 30) (N := some 140) (v := ?_) (a' := ?_) #[true, true, true, true, true, true, true, true, true, true, true, true, true, true, true, true, true, true, true, true, true, true, true, true, true, true, true, true, true, true, true, false, false, false, false, false, false, false, false, false, false, false] rfl rfl (any_of HT_.out (by kernel_rfl)) (fun _ _ _ h => h) (Or.inl ⟨by rfl, ?_⟩) ?_ ?_
                                  rotate_left
                                  ·intro w'
                                   go_simp
                                   with_reducible rfl
                                  rotate_left
                                  ·simp only [Act.put, List.setIfInBounds_toArray, List.set_cons_zero, List.set_cons_succ, i64_w, i32_w]
                                   rfl
                                  refine pure_ (i := 31) (N := some 141) (v := ?_) (a' := ?_) #[true, true, true, true, true, true, true, true, true, true, true, true, true, true, true, true, true, true, true, true, true, true, true, true, true, true, true, true, true, true, true, true, false, false, false, false, false, false, false, false, false, false] rfl rfl (any_of HT_.out (by kernel_rfl)) (fun _ _ _ h => h) (Or.inl ⟨by rfl, ?_⟩) ?_ ?_
                                  rotate_left
                                  ·intro w'
                                   go_simp
                                   with_reducible rfl
                                  rotate_left
                                  ·simp only [Act.put, List.setIfInBounds_toArray, List.set_cons_zero, List.set_cons_succ, i64_w, i32_w]
                                   rfl
                                  refine pure_ (i := 32) (N := some 142) (v := ?_) (a' := ?_) #[true, true, true, true, true, true, true, true, true, true, true, true, true, true, true, true, true, true, true, true, true, true, true, true, true, true, true, true, true, true, true, true, true, false, false, false, false, false, false, false, false, false] rfl rfl (any_of HT_.out (by kernel_rfl)) (fun _ _ _ h => h) (Or.inl ⟨by rfl, ?_⟩) ?_ ?_
                                  rotate_left
                                  ·intro w'
                                   go_simp
                                   with_reducible rfl
                                  rotate_left
                                  ·simp only [Act.put, List.setIfInBounds_toArray, List.set_cons_zero, List.set_cons_succ, i64_w, i32_w]
                                   rfl
                                  refine pure_ (i := 33) (N := some 143) (v := ?_) (a' := ?_) #[true, true, true, true, true, true, true, true, true, true, true, true, true, true, true, true, true, true, true, true, true, true, true, true, true, true, true, true, true, true, true, true, true, true, false, false, false, false, false, false, false, false] rfl rfl (any_of HT_.out (by kernel_rfl)) (fun _ _ _ h => h) (Or.inl ⟨by rfl, ?_⟩) ?_ ?_
                                  rotate_left
                                  ·intro w'
                                   go_simp
                                   with_reducible rfl
                                  rotate_left
                                  ·simp only [Act.put, List.setIfInBounds_toArray, List.set_cons_zero, List.set_cons_succ, i64_w, i32_w]
                                   rfl
                                  refine pure_ (i := 35) (N := some 145) (v := ?_) (a' := ?_) #[true, true, true, true, true, true, true, true, true, true, true, true, true, true, true, true, true, true, true, true, true, true, true, true, true, true, true, true, true, true, true, true, true, true, false, true, false, false, false, false, false, false] rfl rfl (any_of HT_.out (by kernel_rfl)) (fun _ _ _ h => h) (Or.inl ⟨by rfl, ?_⟩) ?_ ?_
                                  rotate_left
                                  ·intro w'
                                   go_simp
                                   with_reducible rfl
                                  rotate_left
                                  ·simp only [Act.put, List.setIfInBounds_toArray, List.set_cons_zero, List.set_cons_succ, i64_w, i32_w]
                                   rfl
                                  refine pure_ (i := 36) (N := some 146) (v := ?_) (a' := ?_) #[true, true, true, true, true, true, true, true, true, true, true, true, true, true, true, true, true, true, true, true, true, true, true, true, true, true, true, true, true, true, true, true, true, true, false, true, true, false, false, false, false, false] rfl rfl (any_of HT_.out (by kernel_rfl)) (fun _ _ _ h => h) (Or.inl ⟨by rfl, ?_⟩) ?_ ?_
                                  rotate_left
                                  ·intro w'
                                   go_simp
                                   with_reducible rfl
                                  rotate_left
                                  ·simp only [Act.put, List.setIfInBounds_toArray, List.set_cons_zero, List.set_cons_succ, i64_w, i32_w]
                                   rfl
                                  refine pure_ (i := 37) (N := some 147) (v := ?_) (a' := ?_) #[true, true, true, true, true, true, true, true, true, true, true, true, true, true, true, true, true, true, true, true, true, true, true, true, true, true, true, true, true, true, true, true, true, true, false, true, true, true, false, false, false, false] rfl rfl (any_of HT_.out (by kernel_rfl)) (fun _ _ _ h => h) (Or.inl ⟨by rfl, ?_⟩) ?_ ?_
                                  rotate_left
                                  ·intro w'
                                   go_simp
                                   with_reducible rfl
                                  rotate_left
                                  ·simp only [Act.put, List.setIfInBounds_toArray, List.set_cons_zero, List.set_cons_succ, i64_w, i32_w]
                                   rfl
                                  refine take_ (i := 34) (N := some 144) (v := ?_) (a' := ?_) #[true, true, true, true, true, true, true, true, true, true, true, true, true, true, true, true, true, true, true, true, true, true, true, true, true, true, true, true, true, true, true, true, true, true, true, true, true, true, false, false, false, false] rfl rfl (take_ofW HT_.out HW_.out (by kernel_rfl)) (fun _ _ _ h => h) (Or.inl ⟨by rfl, ?_⟩) hHeld ?_ ?_
                                  rotate_left
                                  ·rintro w' ⟨s0, s1, s2, s3, s4, s5, s6, s7⟩
                                   go_simp
                                   with_reducible rfl
                                  rotate_left
                                  ·simp only [Act.put, List.setIfInBounds_toArray, List.set_cons_zero, List.set_cons_succ, i64_w, i32_w]
                                   rfl
                                  refine take_ (i := 38) (N := some 148) (v := ?_) (a' := ?_) #[true, true, true, true, true, true, true, true, true, true, true, true, true, true, true, true, true, true, true, true, true, true, true, true, true, true, true, true, true, true, true, true, true, true, true, true, true, true, true, false, false, false] rfl rfl (take_ofW HT_.out HW_.out (by kernel_rfl)) (fun _ _ _ h => h) (Or.inl ⟨by rfl, ?_⟩) hHeld ?_ ?_
                                  rotate_left
                                  ·rintro w' ⟨s0, s1, s2, s3, s4, s5, s6, s7⟩
                                   go_simp
                                   with_reducible rfl
                                  rotate_left
                                  ·simp only [Act.put, List.setIfInBounds_toArray, List.set_cons_zero, List.set_cons_succ, i64_w, i32_w]
                                   rfl
                                  refine pure_ (i := 39) (N := some 149) (v := ?_) (a' := ?_) #[true, true, true, true, true, true, true, true, true, true, true, true, true, true, true, true, true, true, true, true, true, true, true, true, true, true, true, true, true, true, true, true, true, true, true, true, true, true, true, true, false, false] rfl rfl (any_of HT_.out (by kernel_rfl)) (fun _ _ _ h => h) (Or.inl ⟨by rfl, ?_⟩) ?_ ?_
                                  rotate_left
                                  ·intro w'
                                   go_simp
                                   with_reducible rfl
                                  rotate_left
                                  ·simp only [Act.put, List.setIfInBounds_toArray, List.set_cons_zero, List.set_cons_succ, i64_w, i32_w]
                                   rfl
                                  refine pure_ (i := 40) (N := some 150) (v := ?_) (a' := ?_) #[true, true, true, true, true, true, true, true, true, true, true, true, true, true, true, true, true, true, true, true, true, true, true, true, true, true, true, true, true, true, true, true, true, true, true, true, true, true, true, true, true, false] rfl rfl (any_of HT_.out (by kernel_rfl)) (fun _ _ _ h => h) (Or.inl ⟨by rfl, ?_⟩) ?_ ?_
                                  rotate_left
                                  ·intro w'
                                   go_simp
                                   with_reducible rfl
                                  rotate_left
                                  ·simp only [Act.put, List.setIfInBounds_toArray, List.set_cons_zero, List.set_cons_succ, i64_w, i32_w]
                                   rfl
                                  refine pure_ (i := 41) (N := some 151) (v := ?_) (a' := ?_) #[true, true, true, true, true, true, true, true, true, true, true, true, true, true, true, true, true, true, true, true, true, true, true, true, true, true, true, true, true, true, true, true, true, true, true, true, true, true, true, true, true, true] rfl rfl (any_of HT_.out (by kernel_rfl)) (fun _ _ _ h => h) (Or.inl ⟨by rfl, ?_⟩) ?_ ?_
                                  rotate_left
                                  ·intro w'
                                   go_simp
                                   with_reducible rfl
                                  rotate_left
                                  ·simp only [Act.put, List.setIfInBounds_toArray, List.set_cons_zero, List.set_cons_succ, i64_w, i32_w]
                                   rfl
                                  refine done_ (done_of HT_.out (by kernel_rfl)) ?_
                                  try go_wp2
                                  go_roundg k4
                                  case measure => have := HK1.out; have := HJ50.out; have := HJ52.out; have := HK4.out; omega
                                  case rel => exact ⟨(wrap64 (x13_4 + 1)), (by first | rfl | (simp; done) | (simp [*]; done)), H', ⟨by have := HK1.out; have := HJ50.out; have := HJ52.out; have := HK4.out; omega⟩, ⟨by (with_reducible repeat (first | apply Kd.R_alloc | apply Kd.R_drewN | apply Kd.R_drew)); exact HO_4.out⟩, ⟨by (with_reducible repeat (first | apply Kd.R_alloc | apply Kd.R_drewN | apply Kd.R_drew)); exact HO_6.out⟩, ⟨by (with_reducible repeat (first | apply Kd.R_alloc | apply Kd.R_drewN | apply Kd.R_drew)); exact HO_9.out⟩, ⟨by (with_reducible repeat (first | refine blk_drewN ?_ _ | refine blk_drew ?_ | refine blk_alloc ?_ _)); exact BK571.out⟩, ⟨by repeat (first | (with_reducible first | exact HB.out | apply below_alloc | apply pw_below_drewN | apply below_drew1 | refine below_set ?_ GE571.out) | exact HB.out)⟩⟩
                                ·rw [if_neg c71] at H
                                 exact absurd H (by simp)
                               ·rw [if_neg c70] at H
                                exact absurd H (by simp)
                              ·rw [if_neg c68] at H
                               have c68b0 : decide (0 < x13_4) = false := decide_eq_false c68
                               clear c68
                               have H' := Aside0.mk H
                               clear H
                               obtain ⟨Ao78, co78, eo78⟩ := Kd.R_slice HO_9.out
                               subst eo78
                               try go_wp2
                               have n0_ := Aside0.mk (Kd.R_drew HO_4.out)
                               have n1_ := Aside0.mk (Kd.R_drew HO_6.out)
                               have n2_ := Aside0.mk (Kd.R_drew HO_9.out)
                               have n3_ := Aside0.mk (blk_drew BK571.out)
                               have n4_ := Aside0.mk (below_drew1 HB.out)
                               clear HO_4
                               clear HO_6
                               clear HO_9
                               clear BK571
                               clear HB
                               have HO_4 := n0_
                               have HO_6 := n1_
                               have HO_9 := n2_
                               have BK571 := n3_
                               have HB := n4_
                               clear n0_ n1_ n2_ n3_ n4_
                               have p611 : 0 ≤ (x13_4 : Int) := of_decide_eq_true (by first | (with_reducible assumption) | assumption)
                               have q611 : x13_4 < (t605.length : Int) := of_decide_eq_true (by first | (with_reducible assumption) | assumption)
                               obtain ⟨ad611, e611, hx611_0⟩ := Kd.at_int (Kd.R_reads' HO_9.out).2.2 x13_4 p611 q611
                               cases e611
                               replace p611 := eq_true p611
                               replace q611 := eq_true q611
                               refine start_ (n := 7) (S := fun w' => w'.cell? ⟨gb571, 0, none⟩ = some (.int .i64 t565) ∧ w'.cell? ⟨gb571, 1, none⟩ = some (.int .i64 t566) ∧ w'.cell? ⟨gb571, 2, none⟩ = some (.string t567) ∧ w'.cell? (ad611.add (x13_4).toNat) = some (.int .i64 (rd t605 x13_4))) (ds := []) #[false, false, false, false, false, false, false] (by kernel_rfl) rfl rfl ⟨(blk_cell BK571.out 0).trans rfl, (blk_cell BK571.out 1).trans rfl, (blk_cell BK571.out 2).trans rfl, hx611_0⟩ (fun hHeld => ?_)
                               generalize wr.drew = w79 at HO_4 HO_6 HO_9 BK571 HB hx611_0 hHeld ⊢
                               refine pure_ (i := 1) (N := some 105) (v := ?_) (a' := ?_) #[false, true, false, false, false, false, false] rfl rfl (by kernel_rfl) (fun _ _ _ h => h) (Or.inl ⟨by rfl, ?_⟩) ?_ ?_
                               rotate_left
                               ·intro w'
                                go_simp
                                with_reducible rfl
                               rotate_left
                               ·simp only [Act.put, List.setIfInBounds_toArray, List.set_cons_zero, List.set_cons_succ, i64_w, i32_w]
                                rfl
                               refine pure_ (i := 2) (N := some 106) (v := ?_) (a' := ?_) #[false, true, true, false, false, false, false] rfl rfl (by kernel_rfl) (fun _ _ _ h => h) (Or.inl ⟨by rfl, ?_⟩) ?_ ?_
                               rotate_left
                               ·intro w'
                                go_simp
                                with_reducible rfl
                               rotate_left
                               ·simp only [Act.put, List.setIfInBounds_toArray, List.set_cons_zero, List.set_cons_succ, i64_w, i32_w]
                                rfl
                               refine pure_ (i := 3) (N := some 107) (v := ?_) (a' := ?_) #[false, true, true, true, false, false, false] rfl rfl (by kernel_rfl) (fun _ _ _ h => h) (Or.inl ⟨by rfl, ?_⟩) ?_ ?_
                               rotate_left
                               ·intro w'
                                go_simp
                                with_reducible rfl
                               rotate_left
                               ·simp only [Act.put, List.setIfInBounds_toArray, List.set_cons_zero, List.set_cons_succ, i64_w, i32_w]
                                rfl
                               refine take_ (i := 0) (N := some 104) (v := ?_) (a' := ?_) #[true, true, true, true, false, false, false] rfl rfl (by kernel_rfl) (fun _ _ _ h => h) (Or.inl ⟨by rfl, ?_⟩) hHeld ?_ ?_
                               rotate_left
                               ·rintro w' ⟨s0, s1, s2, s3⟩
                                go_simp
                                with_reducible rfl
                               rotate_left
                               ·simp only [Act.put, List.setIfInBounds_toArray, List.set_cons_zero, List.set_cons_succ, i64_w, i32_w]
                                rfl
                               refine take_ (i := 4) (N := some 108) (v := ?_) (a' := ?_) #[true, true, true, true, true, false, false] rfl rfl (by kernel_rfl) (fun _ _ _ h => h) (Or.inl ⟨by rfl, ?_⟩) hHeld ?_ ?_
                               rotate_left
                               ·rintro w' ⟨s0, s1, s2, s3⟩
                                go_simp
                                with_reducible rfl
                               rotate_left
                               ·simp only [Act.put, List.setIfInBounds_toArray, List.set_cons_zero, List.set_cons_succ, i64_w, i32_w]
                                rfl
                               refine one_ (i := 5) (N := some 109) #[true, true, true, true, true, true, false] rfl rfl (by kernel_rfl) (by decide) (fun K hK => ?_)
                               refine goes_ Try.func17 (by kernel_rfl) rfl #[.agg #[.int .i64 t565, .int .i64 t566, .string t567], .int .i64 (rd t605 x13_4)] (by rfl) rfl rfl (by (try simp only [List.map_toArray, List.map_cons, List.map_nil]); first | done | rfl | (simp only [List.length_drop, List.length_take]; rfl)) ?_
                               with_reducible refine (impl_ZoneOf.calls k4 t565 t566 t567 (rd t605 x13_4) t612 _ A59.out).mono ?_
                               rintro e w80 ⟨rfl, hb⟩
                               have HS3_ := (hb.cell (World.block_lt_of_cell? _ _ (hHeld.2.2.2))).trans (hHeld.2.2.2)
                               refine ⟨_, rfl, ?_⟩
                               have n0_ := Aside0.mk (Kd.R_below (uR HO_4.out) hb)
                               have n1_ := Aside0.mk (Kd.R_below (uR HO_6.out) hb)
                               have n2_ := Aside0.mk (Kd.R_below (uR HO_9.out) hb)
                               have n3_ := Aside0.mk (blk_below (g := gb571) (o := .cells #[.int .i64 t565, .int .i64 t566, .string t567] 28 (0, 0)) (by (with_reducible repeat (first | refine blk_drewN ?_ _ | refine blk_drew ?_ | refine blk_alloc ?_ _)); exact BK571.out) hb)
                               have n4_ := Aside0.mk (below_step (by repeat (first | (with_reducible first | exact HB.out | apply below_alloc | apply pw_below_drewN | apply below_drew1 | refine below_set ?_ GE571.out) | exact HB.out)) hb)
                               clear HO_4
                               clear HO_6
                               clear HO_9
                               clear BK571
                               clear HB
                               have HO_4 := n0_
                               have HO_6 := n1_
                               have HO_9 := n2_
                               have BK571 := n3_
                               have HB := n4_
                               clear n0_ n1_ n2_ n3_ n4_
                               (try clear hb)
                               (try clear hb2)
                               (try clear hk)
                               (try clear hi)
                               refine hK.out _ _ ⟨(blk_cell BK571.out 0).trans rfl, (blk_cell BK571.out 1).trans rfl, (blk_cell BK571.out 2).trans rfl, HS3_⟩ (fun hHeld => ?_)
                               clear hK K
                               refine norm_ (a' := ?_) ?_ ?_
                               rotate_left
                               ·show Act.put _ (some 109) _ = _
                                simp only [Act.put, List.setIfInBounds_toArray, List.set_cons_zero, List.set_cons_succ, i64_w, i32_w]
                                rfl
                               refine pure_ (i := 6) (N := some 14) (v := ?_) (a' := ?_) #[true, true, true, true, true, true, true] rfl rfl (by kernel_rfl) (fun _ _ _ h => h) (Or.inl ⟨by rfl, ?_⟩) ?_ ?_
                               rotate_left
                               ·intro w'
                                go_simp
                                with_reducible rfl
                               rotate_left
                               ·simp only [Act.put, List.setIfInBounds_toArray, List.set_cons_zero, List.set_cons_succ, i64_w, i32_w]
                                rfl
                               refine done_ (by kernel_rfl) ?_
                               try go_wp2
                               have n0_ := Aside0.mk (Kd.R_drew HO_4.out)
                               have n1_ := Aside0.mk (Kd.R_drew HO_6.out)
                               have n2_ := Aside0.mk (Kd.R_drew HO_9.out)
                               have n3_ := Aside0.mk (blk_drew BK571.out)
                               have n4_ := Aside0.mk (below_drew1 HB.out)
                               clear HO_4
                               clear HO_6
                               clear HO_9
                               clear BK571
                               clear HB
                               have HO_4 := n0_
                               have HO_6 := n1_
                               have HO_9 := n2_
                               have BK571 := n3_
                               have HB := n4_
                               clear n0_ n1_ n2_ n3_ n4_
                               have p613 : 0 ≤ (x13_4 : Int) := of_decide_eq_true (by first | (with_reducible assumption) | assumption)
                               have q613 : x13_4 < (t605.length : Int) := of_decide_eq_true (by first | (with_reducible assumption) | assumption)
                               obtain ⟨ad613, e613, hx613_0⟩ := Kd.at_int (Kd.R_reads' HO_9.out).2.2 x13_4 p613 q613
                               obtain rfl : ad611 = ad613 := (by injection e613)
                               replace p613 := eq_true p613
                               replace q613 := eq_true q613
                               have p615 : 0 ≤ (x13_4 : Int) := of_decide_eq_true (by first | (with_reducible assumption) | assumption)
                               have q615 : x13_4 < (t605.length : Int) := of_decide_eq_true (by first | (with_reducible assumption) | assumption)
                               obtain ⟨ad615, e615, hx615_0⟩ := Kd.at_int (Kd.R_reads' HO_9.out).2.2 x13_4 p615 q615
                               obtain rfl : ad611 = ad615 := (by injection e615)
                               replace p615 := eq_true p615
                               replace q615 := eq_true q615
                               have p617 : 0 ≤ (t612 : Int) := of_decide_eq_true (by first | (with_reducible assumption) | assumption)
                               have q617 : t612 < (y580.length : Int) := of_decide_eq_true (by first | (with_reducible assumption) | assumption)
                               obtain ⟨ad617, e617, hx617_0⟩ := Kd.at_int (Kd.R_reads' HO_6.out).2.2 t612 p617 q617
                               cases e617
                               replace p617 := eq_true p617
                               replace q617 := eq_true q617
                               refine start_ (n := 42) (S := fun w' => w'.cell? ⟨gb571, 0, none⟩ = some (.int .i64 t565) ∧ w'.cell? ⟨gb571, 1, none⟩ = some (.int .i64 t566) ∧ w'.cell? ⟨gb571, 2, none⟩ = some (.string t567) ∧ w'.cell? (ad611.add (x13_4).toNat) = some (.int .i64 (rd t605 x13_4)) ∧ w'.cell? (ad611.add (x13_4).toNat) = some (.int .i64 (rd t605 x13_4)) ∧ w'.cell? (ad617.add (t612).toNat) = some (.int .i64 (rd y580 t612))) (ds := []) #[false, false, false, false, false, false, false, false, false, false, false, false, false, false, false, false, false, false, false, false, false, false, false, false, false, false, false, false, false, false, false, false, false, false, false, false, false, false, false, false, false, false] (by kernel_rfl) rfl rfl ⟨(blk_cell BK571.out 0).trans rfl, (blk_cell BK571.out 1).trans rfl, (blk_cell BK571.out 2).trans rfl, hx613_0, hx615_0, hx617_0⟩ (fun hHeld => ?_); refine with_tabW laws_FnWanted.tab25 laws_FnWanted.bits25 (fun HT_ HW_ => ?_)
                               generalize w80.drew = w81 at HO_4 HO_6 HO_9 BK571 HB hx613_0 hx615_0 hx617_0 hHeld ⊢
                               refine pure_ (i := 1) (N := some 111) (v := ?_) (a' := ?_) #[false, true, false, false, false, false, false, false, false, false, false, false, false, false, false, false, false, false, false, false, false, false, false, false, false, false, false, false, false, false, false, false, false, false, false, false, false, false, false, false, false, false] rfl rfl (any_of HT_.out (by kernel_rfl)) (fun _ _ _ h => h) (Or.inl ⟨by rfl, ?_⟩) ?_ ?_
                               rotate_left
                               ·intro w'
                                go_simp
                                with_reducible rfl
                               rotate_left
                               ·simp only [Act.put, List.setIfInBounds_toArray, List.set_cons_zero, List.set_cons_succ, i64_w, i32_w]
                                rfl
                               refine pure_ (i := 2) (N := some 112) (v := ?_) (a' := ?_) #[false, true, true, false, false, false, false, false, false, false, false, false, false, false, false, false, false, false, false, false, false, false, false, false, false, false, false, false, false, false, false, false, false, false, false, false, false, false, false, false, false, false] rfl rfl (any_of HT_.out (by kernel_rfl)) (fun _ _ _ h => h) (Or.inl ⟨by rfl, ?_⟩) ?_ ?_
                               rotate_left
                               ·intro w'
                                go_simp
                                with_reducible rfl
                               rotate_left
                               ·simp only [Act.put, List.setIfInBounds_toArray, List.set_cons_zero, List.set_cons_succ, i64_w, i32_w]
                                rfl
                               refine pure_ (i := 3) (N := some 113) (v := ?_) (a' := ?_) #[false, true, true, true, false, false, false, false, false, false, false, false, false, false, false, false, false, false, false, false, false, false, false, false, false, false, false, false, false, false, false, false, false, false, false, false, false, false, false, false, false, false] rfl rfl (any_of HT_.out (by kernel_rfl)) (fun _ _ _ h => h) (Or.inl ⟨by rfl, ?_⟩) ?_ ?_
                               rotate_left
                               ·intro w'
                                go_simp
                                with_reducible rfl
                               rotate_left
                               ·simp only [Act.put, List.setIfInBounds_toArray, List.set_cons_zero, List.set_cons_succ, i64_w, i32_w]
                                rfl
                               refine take_ (i := 0) (N := some 110) (v := ?_) (a' := ?_) #[true, true, true, true, false, false, false, false, false, false, false, false, false, false, false, false, false, false, false, false, false, false, false, false, false, false, false, false, false, false, false, false, false, false, false, false, false, false, false, false, false, false] rfl rfl (take_ofW HT_.out HW_.out (by kernel_rfl)) (fun _ _ _ h => h) (Or.inl ⟨by rfl, ?_⟩) hHeld ?_ ?_
                               rotate_left
                               ·rintro w' ⟨s0, s1, s2, s3, s4, s5⟩
                                go_simp
                                with_reducible rfl
                               rotate_left
                               ·simp only [Act.put, List.setIfInBounds_toArray, List.set_cons_zero, List.set_cons_succ, i64_w, i32_w]
                                rfl
                               refine take_ (i := 4) (N := some 114) (v := ?_) (a' := ?_) #[true, true, true, true, true, false, false, false, false, false, false, false, false, false, false, false, false, false, false, false, false, false, false, false, false, false, false, false, false, false, false, false, false, false, false, false, false, false, false, false, false, false] rfl rfl (take_ofW HT_.out HW_.out (by kernel_rfl)) (fun _ _ _ h => h) (Or.inl ⟨by rfl, ?_⟩) hHeld ?_ ?_
                               rotate_left
                               ·rintro w' ⟨s0, s1, s2, s3, s4, s5⟩
                                go_simp
                                with_reducible rfl
                               rotate_left
                               ·simp only [Act.put, List.setIfInBounds_toArray, List.set_cons_zero, List.set_cons_succ, i64_w, i32_w]
                                rfl
                               refine one_ (i := 5) (N := some 115) #[true, true, true, true, true, true, false, false, false, false, false, false, false, false, false, false, false, false, false, false, false, false, false, false, false, false, false, false, false, false, false, false, false, false, false, false, false, false, false, false, false, false] rfl rfl (one_of HT_.out (by kernel_rfl)) (by decide) (fun K hK => ?_)
                               refine goes_ Try.func18 (by kernel_rfl) rfl #[.agg #[.int .i64 t565, .int .i64 t566, .string t567], .int .i64 (rd t605 x13_4)] (by rfl) rfl rfl (by (try simp only [List.map_toArray, List.map_cons, List.map_nil]); first | done | rfl | (simp only [List.length_drop, List.length_take]; rfl)) ?_
                               with_reducible refine (impl_ParkAt.calls k4 t565 t566 t567 (rd t605 x13_4) true _ A60.out).mono ?_
                               rintro e w82 ⟨rfl, hb⟩
                               have HS3_ := (hb.cell (World.block_lt_of_cell? _ _ (hHeld.2.2.2.1))).trans (hHeld.2.2.2.1)
                               have HS4_ := (hb.cell (World.block_lt_of_cell? _ _ (hHeld.2.2.2.2.1))).trans (hHeld.2.2.2.2.1)
                               have HS5_ := (hb.cell (World.block_lt_of_cell? _ _ (hHeld.2.2.2.2.2))).trans (hHeld.2.2.2.2.2)
                               refine ⟨_, rfl, ?_⟩
                               have n0_ := Aside0.mk (Kd.R_below (uR HO_4.out) hb)
                               have n1_ := Aside0.mk (Kd.R_below (uR HO_6.out) hb)
                               have n2_ := Aside0.mk (Kd.R_below (uR HO_9.out) hb)
                               have n3_ := Aside0.mk (blk_below (g := gb571) (o := .cells #[.int .i64 t565, .int .i64 t566, .string t567] 28 (0, 0)) (by (with_reducible repeat (first | refine blk_drewN ?_ _ | refine blk_drew ?_ | refine blk_alloc ?_ _)); exact BK571.out) hb)
                               have n4_ := Aside0.mk (below_step (by repeat (first | (with_reducible first | exact HB.out | apply below_alloc | apply pw_below_drewN | apply below_drew1 | refine below_set ?_ GE571.out) | exact HB.out)) hb)
                               clear HO_4
                               clear HO_6
                               clear HO_9
                               clear BK571
                               clear HB
                               have HO_4 := n0_
                               have HO_6 := n1_
                               have HO_9 := n2_
                               have BK571 := n3_
                               have HB := n4_
                               clear n0_ n1_ n2_ n3_ n4_
                               (try clear hb)
                               (try clear hb2)
                               (try clear hk)
                               (try clear hi)
                               refine hK.out _ _ ⟨(blk_cell BK571.out 0).trans rfl, (blk_cell BK571.out 1).trans rfl, (blk_cell BK571.out 2).trans rfl, HS3_, HS4_, HS5_⟩ (fun hHeld => ?_)
                               clear hK K
                               refine norm_ (a' := ?_) ?_ ?_
                               rotate_left
                               ·show Act.put _ (some 115) _ = _
                                simp only [Act.put, List.setIfInBounds_toArray, List.set_cons_zero, List.set_cons_succ, i64_w, i32_w]
                                rfl
                               refine pure_ (i := 6) (N := some 116) (v := ?_) (a' := ?_) #[true, true, true, true, true, true, true, false, false, false, false, false, false, false, false, false, false, false, false, false, false, false, false, false, false, false, false, false, false, false, false, false, false, false, false, false, false, false, false, false, false, false] rfl rfl (any_of HT_.out (by kernel_rfl)) (fun _ _ _ h => h) (Or.inl ⟨by rfl, ?_⟩) ?_ ?_
                               rotate_left
                               ·intro w'
                                go_simp
                                with_reducible rfl
                               rotate_left
                               ·simp only [Act.put, List.setIfInBounds_toArray, List.set_cons_zero, List.set_cons_succ, i64_w, i32_w]
                                rfl
                               refine pure_ (i := 7) (N := some 117) (v := ?_) (a' := ?_) #[true, true, true, true, true, true, true, true, false, false, false, false, false, false, false, false, false, false, false, false, false, false, false, false, false, false, false, false, false, false, false, false, false, false, false, false, false, false, false, false, false, false] rfl rfl (any_of HT_.out (by kernel_rfl)) (fun _ _ _ h => h) (Or.inl ⟨by rfl, ?_⟩) ?_ ?_
                               rotate_left
                               ·intro w'
                                go_simp
                                with_reducible rfl
                               rotate_left
                               ·simp only [Act.put, List.setIfInBounds_toArray, List.set_cons_zero, List.set_cons_succ, i64_w, i32_w]
                                rfl
                               refine pure_ (i := 8) (N := some 118) (v := ?_) (a' := ?_) #[true, true, true, true, true, true, true, true, true, false, false, false, false, false, false, false, false, false, false, false, false, false, false, false, false, false, false, false, false, false, false, false, false, false, false, false, false, false, false, false, false, false] rfl rfl (any_of HT_.out (by kernel_rfl)) (fun _ _ _ h => h) (Or.inl ⟨by rfl, ?_⟩) ?_ ?_
                               rotate_left
                               ·intro w'
                                go_simp
                                with_reducible rfl
                               rotate_left
                               ·simp only [Act.put, List.setIfInBounds_toArray, List.set_cons_zero, List.set_cons_succ, i64_w, i32_w]
                                rfl
                               refine pure_ (i := 9) (N := some 119) (v := ?_) (a' := ?_) #[true, true, true, true, true, true, true, true, true, true, false, false, false, false, false, false, false, false, false, false, false, false, false, false, false, false, false, false, false, false, false, false, false, false, false, false, false, false, false, false, false, false] rfl rfl (any_of HT_.out (by kernel_rfl)) (fun _ _ _ h => h) (Or.inl ⟨by rfl, ?_⟩) ?_ ?_
                               rotate_left
                               ·intro w'
                                go_simp
                                with_reducible rfl
                               rotate_left
                               ·simp only [Act.put, List.setIfInBounds_toArray, List.set_cons_zero, List.set_cons_succ, i64_w, i32_w]
                                rfl
                               refine pure_ (i := 10) (N := some 120) (v := ?_) (a' := ?_) #[true, true, true, true, true, true, true, true, true, true, true, false, false, false, false, false, false, false, false, false, false, false, false, false, false, false, false, false, false, false, false, false, false, false, false, false, false, false, false, false, false, false] rfl rfl (any_of HT_.out (by kernel_rfl)) (fun _ _ _ h => h) (Or.inl ⟨by rfl, ?_⟩) ?_ ?_
                               rotate_left
                               ·intro w'
                                go_simp
                                with_reducible rfl
                               rotate_left
                               ·simp only [Act.put, List.setIfInBounds_toArray, List.set_cons_zero, List.set_cons_succ, i64_w, i32_w]
                                rfl
                               refine pure_ (i := 11) (N := some 121) (v := ?_) (a' := ?_) #[true, true, true, true, true, true, true, true, true, true, true, true, false, false, false, false, false, false, false, false, false, false, false, false, false, false, false, false, false, false, false, false, false, false, false, false, false, false, false, false, false, false] rfl rfl (any_of HT_.out (by kernel_rfl)) (fun _ _ _ h => h) (Or.inl ⟨by rfl, ?_⟩) ?_ ?_
                               rotate_left
                               ·intro w'
                                go_simp
                                with_reducible rfl
                               rotate_left
                               ·simp only [Act.put, List.setIfInBounds_toArray, List.set_cons_zero, List.set_cons_succ, i64_w, i32_w]
                                rfl
                               refine take_ (i := 12) (N := some 122) (v := ?_) (a' := ?_) #[true, true, true, true, true, true, true, true, true, true, true, true, true, false, false, false, false, false, false, false, false, false, false, false, false, false, false, false, false, false, false, false, false, false, false, false, false, false, false, false, false, false] rfl rfl (take_ofW HT_.out HW_.out (by kernel_rfl)) (fun _ _ _ h => h) (Or.inl ⟨by rfl, ?_⟩) hHeld ?_ ?_
                               rotate_left
                               ·rintro w' ⟨s0, s1, s2, s3, s4, s5⟩
                                go_simp
                                with_reducible rfl
                               rotate_left
                               ·simp only [Act.put, List.setIfInBounds_toArray, List.set_cons_zero, List.set_cons_succ, i64_w, i32_w]
                                rfl
                               refine one_ (i := 13) (N := some 123) #[true, true, true, true, true, true, true, true, true, true, true, true, true, true, false, false, false, false, false, false, false, false, false, false, false, false, false, false, false, false, false, false, false, false, false, false, false, false, false, false, false, false] rfl rfl (one_of HT_.out (by kernel_rfl)) (by decide) (fun K hK => ?_)
                               refine goes_ Try.func19 (by kernel_rfl) rfl #[.slice Ao30 t568.length co30, .int .i64 (rd t605 x13_4)] (by rfl) rfl rfl (by (try simp only [List.map_toArray, List.map_cons, List.map_nil]); first | done | rfl | (simp only [List.length_drop, List.length_take]; rfl)) ?_
                               with_reducible refine (laws_has.calls k4 _ _ t568 (rd t605 x13_4) false _ ?side1 ?side2 A62.out).mono ?_
                               (case side1 => exact uC (Kd.R_reads' HO_4.out).2.2)
                               (case side2 => exact (Kd.R_reads' HO_4.out).2.1)
                               rintro e w' ⟨rfl, ⟨nd, rfl⟩⟩
                               refine ⟨_, rfl, ?_⟩
                               refine hK.out _ _ ⟨(blk_cell BK571.out 0).trans rfl, (blk_cell BK571.out 1).trans rfl, (blk_cell BK571.out 2).trans rfl, hHeld.2.2.2.1, hHeld.2.2.2.2.1, hHeld.2.2.2.2.2⟩ (fun hHeld => ?_)
                               clear hK K
                               refine norm_ (a' := ?_) ?_ ?_
                               rotate_left
                               ·show Act.put _ (some 123) _ = _
                                simp only [Act.put, List.setIfInBounds_toArray, List.set_cons_zero, List.set_cons_succ, i64_w, i32_w]
                                rfl
                               refine pure_ (i := 14) (N := some 124) (v := ?_) (a' := ?_) #[true, true, true, true, true, true, true, true, true, true, true, true, true, true, true, false, false, false, false, false, false, false, false, false, false, false, false, false, false, false, false, false, false, false, false, false, false, false, false, false, false, false] rfl rfl (any_of HT_.out (by kernel_rfl)) (fun _ _ _ h => h) (Or.inl ⟨by rfl, ?_⟩) ?_ ?_
                               rotate_left
                               ·intro w'
                                go_simp
                                with_reducible rfl
                               rotate_left
                               ·simp only [Act.put, List.setIfInBounds_toArray, List.set_cons_zero, List.set_cons_succ, i64_w, i32_w]
                                rfl
                               refine pure_ (i := 15) (N := some 125) (v := ?_) (a' := ?_) #[true, true, true, true, true, true, true, true, true, true, true, true, true, true, true, true, false, false, false, false, false, false, false, false, false, false, false, false, false, false, false, false, false, false, false, false, false, false, false, false, false, false] rfl rfl (any_of HT_.out (by kernel_rfl)) (fun _ _ _ h => h) (Or.inl ⟨by rfl, ?_⟩) ?_ ?_
                               rotate_left
                               ·intro w'
                                go_simp
                                with_reducible rfl
                               rotate_left
                               ·simp only [Act.put, List.setIfInBounds_toArray, List.set_cons_zero, List.set_cons_succ, i64_w, i32_w]
                                rfl
                               refine pure_ (i := 16) (N := some 126) (v := ?_) (a' := ?_) #[true, true, true, true, true, true, true, true, true, true, true, true, true, true, true, true, true, false, false, false, false, false, false, false, false, false, false, false, false, false, false, false, false, false, false, false, false, false, false, false, false, false] rfl rfl (any_of HT_.out (by kernel_rfl)) (fun _ _ _ h => h) (Or.inl ⟨by rfl, ?_⟩) ?_ ?_
                               rotate_left
                               ·intro w'
                                go_simp
                                with_reducible rfl
                               rotate_left
                               ·simp only [Act.put, List.setIfInBounds_toArray, List.set_cons_zero, List.set_cons_succ, i64_w, i32_w]
                                rfl
                               refine pure_ (i := 17) (N := some 127) (v := ?_) (a' := ?_) #[true, true, true, true, true, true, true, true, true, true, true, true, true, true, true, true, true, true, false, false, false, false, false, false, false, false, false, false, false, false, false, false, false, false, false, false, false, false, false, false, false, false] rfl rfl (any_of HT_.out (by kernel_rfl)) (fun _ _ _ h => h) (Or.inl ⟨by rfl, ?_⟩) ?_ ?_
                               rotate_left
                               ·intro w'
                                go_simp
                                with_reducible rfl
                               rotate_left
                               ·simp only [Act.put, List.setIfInBounds_toArray, List.set_cons_zero, List.set_cons_succ, i64_w, i32_w]
                                rfl
                               refine pure_ (i := 18) (N := some 128) (v := ?_) (a' := ?_) #[true, true, true, true, true, true, true, true, true, true, true, true, true, true, true, true, true, true, true, false, false, false, false, false, false, false, false, false, false, false, false, false, false, false, false, false, false, false, false, false, false, false] rfl rfl (any_of HT_.out (by kernel_rfl)) (fun _ _ _ h => h) (Or.inl ⟨by rfl, ?_⟩) ?_ ?_
                               rotate_left
                               ·intro w'
                                go_simp
                                with_reducible rfl
                               rotate_left
                               ·simp only [Act.put, List.setIfInBounds_toArray, List.set_cons_zero, List.set_cons_succ, i64_w, i32_w]
                                rfl
                               refine pure_ (i := 19) (N := some 129) (v := ?_) (a' := ?_) #[true, true, true, true, true, true, true, true, true, true, true, true, true, true, true, true, true, true, true, true, false, false, false, false, false, false, false, false, false, false, false, false, false, false, false, false, false, false, false, false, false, false] rfl rfl (any_of HT_.out (by kernel_rfl)) (fun _ _ _ h => h) (Or.inl ⟨by rfl, ?_⟩) ?_ ?_
                               rotate_left
                               ·intro w'
                                go_simp
                                with_reducible rfl
                               rotate_left
                               ·simp only [Act.put, List.setIfInBounds_toArray, List.set_cons_zero, List.set_cons_succ, i64_w, i32_w]
                                rfl
                               refine pure_ (i := 20) (N := some 130) (v := ?_) (a' := ?_) #[true, true, true, true, true, true, true, true, true, true, true, true, true, true, true, true, true, true, true, true, true, false, false, false, false, false, false, false, false, false, false, false, false, false, false, false, false, false, false, false, false, false] rfl rfl (any_of HT_.out (by kernel_rfl)) (fun _ _ _ h => h) (Or.inl ⟨by rfl, ?_⟩) ?_ ?_
                               rotate_left
                               ·intro w'
                                go_simp
                                with_reducible rfl
                               rotate_left
                               ·simp only [Act.put, List.setIfInBounds_toArray, List.set_cons_zero, List.set_cons_succ, i64_w, i32_w]
                                rfl
                               refine pure_ (i := 21) (N := some 131) (v := ?_) (a' := ?_) #[true, true, true, true, true, true, true, true, true, true, true, true, true, true, true, true, true, true, true, true, true, true, false, false, false, false, false, false, false, false, false, false, false, false, false, false, false, false, false, false, false, false] rfl rfl (any_of HT_.out (by kernel_rfl)) (fun _ _ _ h => h) (Or.inl ⟨by rfl, ?_⟩) ?_ ?_
                               rotate_left
                               ·intro w'
                                go_simp
                                with_reducible rfl
                               rotate_left
                               ·simp only [Act.put, List.setIfInBounds_toArray, List.set_cons_zero, List.set_cons_succ, i64_w, i32_w]
                                rfl
                               refine pure_ (i := 22) (N := some 132) (v := ?_) (a' := ?_) #[true, true, true, true, true, true, true, true, true, true, true, true, true, true, true, true, true, true, true, true, true, true, true, false, false, false, false, false, false, false, false, false, false, false, false, false, false, false, false, false, false, false] rfl rfl (any_of HT_.out (by kernel_rfl)) (fun _ _ _ h => h) (Or.inl ⟨by rfl, ?_⟩) ?_ ?_
                               rotate_left
                               ·intro w'
                                go_simp
                                with_reducible rfl
                               rotate_left
                               ·simp only [Act.put, List.setIfInBounds_toArray, List.set_cons_zero, List.set_cons_succ, i64_w, i32_w]
                                rfl
                               refine take_ (i := 23) (N := some 133) (v := ?_) (a' := ?_) #[true, true, true, true, true, true, true, true, true, true, true, true, true, true, true, true, true, true, true, true, true, true, true, true, false, false, false, false, false, false, false, false, false, false, false, false, false, false, false, false, false, false] rfl rfl (take_ofW HT_.out HW_.out (by kernel_rfl)) (fun _ _ _ h => h) (Or.inl ⟨by rfl, ?_⟩) hHeld ?_ ?_
                               rotate_left
                               ·rintro w' ⟨s0, s1, s2, s3, s4, s5⟩
                                go_simp
                                with_reducible rfl
                               rotate_left
                               ·simp only [Act.put, List.setIfInBounds_toArray, List.set_cons_zero, List.set_cons_succ, i64_w, i32_w]
                                rfl
                               refine pure_ (i := 24) (N := some 134) (v := ?_) (a' := ?_) #[true, true, true, true, true, true, true, true, true, true, true, true, true, true, true, true, true, true, true, true, true, true, true, true, true, false, false, false, false, false, false, false, false, false, false, false, false, false, false, false, false, false] rfl rfl (any_of HT_.out (by kernel_rfl)) (fun _ _ _ h => h) (Or.inl ⟨by rfl, ?_⟩) ?_ ?_
                               rotate_left
                               ·intro w'
                                go_simp
                                with_reducible rfl
                               rotate_left
                               ·simp only [Act.put, List.setIfInBounds_toArray, List.set_cons_zero, List.set_cons_succ, i64_w, i32_w]
                                rfl
                               refine pure_ (i := 25) (N := some 135) (v := ?_) (a' := ?_) #[true, true, true, true, true, true, true, true, true, true, true, true, true, true, true, true, true, true, true, true, true, true, true, true, true, true, false, false, false, false, false, false, false, false, false, false, false, false, false, false, false, false] rfl rfl (any_of HT_.out (by kernel_rfl)) (fun _ _ _ h => h) (Or.inl ⟨by rfl, ?_⟩) ?_ ?_
                               rotate_left
                               ·intro w'
                                go_simp
                                with_reducible rfl
                               rotate_left
                               ·simp only [Act.put, List.setIfInBounds_toArray, List.set_cons_zero, List.set_cons_succ, i64_w, i32_w]
                                rfl
                               refine pure_ (i := 26) (N := some 136) (v := ?_) (a' := ?_) #[true, true, true, true, true, true, true, true, true, true, true, true, true, true, true, true, true, true, true, true, true, true, true, true, true, true, true, false, false, false, false, false, false, false, false, false, false, false, false, false, false, false] rfl rfl (any_of HT_.out (by kernel_rfl)) (fun _ _ _ h => h) (Or.inl ⟨by rfl, ?_⟩) ?_ ?_
                               rotate_left
                               ·intro w'
                                go_simp
                                with_reducible rfl
                               rotate_left
                               ·simp only [Act.put, List.setIfInBounds_toArray, List.set_cons_zero, List.set_cons_succ, i64_w, i32_w]
                                rfl
                               refine pure_ (i := 27) (N := some 137) (v := ?_) (a' := ?_) #[true, true, true, true, true, true, true, true, true, true, true, true, true, true, true, true, true, true, true, true, true, true, true, true, true, true, true, true, false, false, false, false, false, false, false, false, false, false, false, false, false, false] rfl rfl (any_of HT_.out (by kernel_rfl)) (fun _ _ _ h => h) (Or.inl ⟨by rfl, ?_⟩) ?_ ?_
                               rotate_left
                               ·intro w'
                                go_simp
                                with_reducible rfl
                               rotate_left
                               ·simp only [Act.put, List.setIfInBounds_toArray, List.set_cons_zero, List.set_cons_succ, i64_w, i32_w]
                                rfl
                               refine pure_ (i := 28) (N := some 138) (v := ?_) (a' := ?_) #[true, true, true, true, true, true, true, true, true, true, true, true, true, true, true, true, true, true, true, true, true, true, true, true, true, true, true, true, true, false, false, false, false, false, false, false, false, false, false, false, false, false] rfl rfl (any_of HT_.out (by kernel_rfl)) (fun _ _ _ h => h) (Or.inl ⟨by rfl, ?_⟩) ?_ ?_
                               rotate_left
                               ·intro w'
                                go_simp
                                with_reducible rfl
                               rotate_left
                               ·simp only [Act.put, List.setIfInBounds_toArray, List.set_cons_zero, List.set_cons_succ, i64_w, i32_w]
                                rfl
                               refine pure_ (i := 29) (N := some 139) (v := ?_) (a' := ?_) #[true, true, true, true, true, true, true, true, true, true, true, true, true, true, true, true, true, true, true, true, true, true, true, true, true, true, true, true, true, true, false, false, false, false, false, false, false, false, false, false, false, false] rfl rfl (any_of HT_.out (by kernel_rfl)) (fun _ _ _ h => h) (Or.inl ⟨by rfl, ?_⟩) ?_ ?_
                               rotate_left
                               ·intro w'
                                go_simp
                                with_reducible rfl
                               rotate_left
                               ·simp only [Act.put, List.setIfInBounds_toArray, List.set_cons_zero, List.set_cons_succ, i64_w, i32_w]
                                rfl
                               refine pure_ (i := 30) (N := some 140) (v := undef) (a' := ?_) #[true, true, true, true, true, true, true, true, true, true, true, true, true, true, true, true, true, true, true, true, true, true, true, true, true, true, true, true, true, true, true, false, false, false, false, false, false, false, false, false, false, false] rfl rfl (any_of HT_.out (by kernel_rfl)) (fun _ _ _ h => h) (Or.inr ⟨by rfl, rfl⟩) ?_ ?_
                               rotate_left
                               ·simp only [Act.put, List.setIfInBounds_toArray, List.set_cons_zero, List.set_cons_succ, i64_w, i32_w]
                                rfl
                               refine pure_ (i := 31) (N := some 141) (v := undef) (a' := ?_) #[true, true, true, true, true, true, true, true, true, true, true, true, true, true, true, true, true, true, true, true, true, true, true, true, true, true, true, true, true, true, true, true, false, false, false, false, false, false, false, false, false, false] rfl rfl (any_of HT_.out (by kernel_rfl)) (fun _ _ _ h => h) (Or.inr ⟨by rfl, rfl⟩) ?_ ?_
                               rotate_left
                               ·simp only [Act.put, List.setIfInBounds_toArray, List.set_cons_zero, List.set_cons_succ, i64_w, i32_w]
                                rfl
                               refine pure_ (i := 32) (N := some 142) (v := undef) (a' := ?_) #[true, true, true, true, true, true, true, true, true, true, true, true, true, true, true, true, true, true, true, true, true, true, true, true, true, true, true, true, true, true, true, true, true, false, false, false, false, false, false, false, false, false] rfl rfl (any_of HT_.out (by kernel_rfl)) (fun _ _ _ h => h) (Or.inr ⟨by rfl, rfl⟩) ?_ ?_
                               rotate_left
                               ·simp only [Act.put, List.setIfInBounds_toArray, List.set_cons_zero, List.set_cons_succ, i64_w, i32_w]
                                rfl
                               refine pure_ (i := 33) (N := some 143) (v := undef) (a' := ?_) #[true, true, true, true, true, true, true, true, true, true, true, true, true, true, true, true, true, true, true, true, true, true, true, true, true, true, true, true, true, true, true, true, true, true, false, false, false, false, false, false, false, false] rfl rfl (any_of HT_.out (by kernel_rfl)) (fun _ _ _ h => h) (Or.inr ⟨by rfl, rfl⟩) ?_ ?_
                               rotate_left
                               ·simp only [Act.put, List.setIfInBounds_toArray, List.set_cons_zero, List.set_cons_succ, i64_w, i32_w]
                                rfl
                               refine pure_ (i := 34) (N := some 144) (v := undef) (a' := ?_) #[true, true, true, true, true, true, true, true, true, true, true, true, true, true, true, true, true, true, true, true, true, true, true, true, true, true, true, true, true, true, true, true, true, true, true, false, false, false, false, false, false, false] rfl rfl (any_of HT_.out (by kernel_rfl)) (fun _ _ _ h => h) (Or.inr ⟨by rfl, rfl⟩) ?_ ?_
                               rotate_left
                               ·simp only [Act.put, List.setIfInBounds_toArray, List.set_cons_zero, List.set_cons_succ, i64_w, i32_w]
                                rfl
                               refine pure_ (i := 35) (N := some 145) (v := undef) (a' := ?_) #[true, true, true, true, true, true, true, true, true, true, true, true, true, true, true, true, true, true, true, true, true, true, true, true, true, true, true, true, true, true, true, true, true, true, true, true, false, false, false, false, false, false] rfl rfl (any_of HT_.out (by kernel_rfl)) (fun _ _ _ h => h) (Or.inr ⟨by rfl, rfl⟩) ?_ ?_
                               rotate_left
                               ·simp only [Act.put, List.setIfInBounds_toArray, List.set_cons_zero, List.set_cons_succ, i64_w, i32_w]
                                rfl
                               refine pure_ (i := 36) (N := some 146) (v := undef) (a' := ?_) #[true, true, true, true, true, true, true, true, true, true, true, true, true, true, true, true, true, true, true, true, true, true, true, true, true, true, true, true, true, true, true, true, true, true, true, true, true, false, false, false, false, false] rfl rfl (any_of HT_.out (by kernel_rfl)) (fun _ _ _ h => h) (Or.inr ⟨by rfl, rfl⟩) ?_ ?_
                               rotate_left
                               ·simp only [Act.put, List.setIfInBounds_toArray, List.set_cons_zero, List.set_cons_succ, i64_w, i32_w]
                                rfl
                               refine pure_ (i := 37) (N := some 147) (v := undef) (a' := ?_) #[true, true, true, true, true, true, true, true, true, true, true, true, true, true, true, true, true, true, true, true, true, true, true, true, true, true, true, true, true, true, true, true, true, true, true, true, true, true, false, false, false, false] rfl rfl (any_of HT_.out (by kernel_rfl)) (fun _ _ _ h => h) (Or.inr ⟨by rfl, rfl⟩) ?_ ?_
                               rotate_left
                               ·simp only [Act.put, List.setIfInBounds_toArray, List.set_cons_zero, List.set_cons_succ, i64_w, i32_w]
                                rfl
                               refine pure_ (i := 38) (N := some 148) (v := undef) (a' := ?_) #[true, true, true, true, true, true, true, true, true, true, true, true, true, true, true, true, true, true, true, true, true, true, true, true, true, true, true, true, true, true, true, true, true, true, true, true, true, true, true, false, false, false] rfl rfl (any_of HT_.out (by kernel_rfl)) (fun _ _ _ h => h) (Or.inr ⟨by rfl, rfl⟩) ?_ ?_
                               rotate_left
                               ·simp only [Act.put, List.setIfInBounds_toArray, List.set_cons_zero, List.set_cons_succ, i64_w, i32_w]
                                rfl
                               refine pure_ (i := 39) (N := some 149) (v := undef) (a' := ?_) #[true, true, true, true, true, true, true, true, true, true, true, true, true, true, true, true, true, true, true, true, true, true, true, true, true, true, true, true, true, true, true, true, true, true, true, true, true, true, true, true, false, false] rfl rfl (any_of HT_.out (by kernel_rfl)) (fun _ _ _ h => h) (Or.inr ⟨by rfl, rfl⟩) ?_ ?_
                               rotate_left
                               ·simp only [Act.put, List.setIfInBounds_toArray, List.set_cons_zero, List.set_cons_succ, i64_w, i32_w]
                                rfl
                               refine pure_ (i := 40) (N := some 150) (v := ?_) (a' := ?_) #[true, true, true, true, true, true, true, true, true, true, true, true, true, true, true, true, true, true, true, true, true, true, true, true, true, true, true, true, true, true, true, true, true, true, true, true, true, true, true, true, true, false] rfl rfl (any_of HT_.out (by kernel_rfl)) (fun _ _ _ h => h) (Or.inl ⟨by rfl, ?_⟩) ?_ ?_
                               rotate_left
                               ·intro w'
                                go_simp
                                with_reducible rfl
                               rotate_left
                               ·simp only [Act.put, List.setIfInBounds_toArray, List.set_cons_zero, List.set_cons_succ, i64_w, i32_w]
                                rfl
                               refine pure_ (i := 41) (N := some 151) (v := ?_) (a' := ?_) #[true, true, true, true, true, true, true, true, true, true, true, true, true, true, true, true, true, true, true, true, true, true, true, true, true, true, true, true, true, true, true, true, true, true, true, true, true, true, true, true, true, true] rfl rfl (any_of HT_.out (by kernel_rfl)) (fun _ _ _ h => h) (Or.inl ⟨by rfl, ?_⟩) ?_ ?_
                               rotate_left
                               ·intro w'
                                go_simp
                                with_reducible rfl
                               rotate_left
                               ·simp only [Act.put, List.setIfInBounds_toArray, List.set_cons_zero, List.set_cons_succ, i64_w, i32_w]
                                rfl
                               refine done_ (done_of HT_.out (by kernel_rfl)) ?_
                               try go_wp2
                               go_roundg k4
                               case measure => have := HK1.out; have := HJ50.out; have := HJ52.out; have := HK4.out; omega
                               case rel => exact ⟨(wrap64 (x13_4 + 1)), (by first | rfl | (simp; done) | (simp [*]; done)), H', ⟨by have := HK1.out; have := HJ50.out; have := HJ52.out; have := HK4.out; omega⟩, ⟨by (with_reducible repeat (first | apply Kd.R_alloc | apply Kd.R_drewN | apply Kd.R_drew)); exact HO_4.out⟩, ⟨by (with_reducible repeat (first | apply Kd.R_alloc | apply Kd.R_drewN | apply Kd.R_drew)); exact HO_6.out⟩, ⟨by (with_reducible repeat (first | apply Kd.R_alloc | apply Kd.R_drewN | apply Kd.R_drew)); exact HO_9.out⟩, ⟨by (with_reducible repeat (first | refine blk_drewN ?_ _ | refine blk_drew ?_ | refine blk_alloc ?_ _)); exact BK571.out⟩, ⟨by repeat (first | (with_reducible first | exact HB.out | apply below_alloc | apply pw_below_drewN | apply below_drew1 | refine below_set ?_ GE571.out) | exact HB.out)⟩⟩
                            ·rw [if_neg c66] at H
                             exact absurd H (by simp)
                           ·rw [if_neg c65] at H
                            exact absurd H (by simp)
                        ·replace c61 := Bool.eq_false_iff.mpr c61
                         subst c61
                         have H1 : (some false) = some r := by rw [if_neg (show ¬ (false = true) by decide)] at H; exact H
                         clear H
                         have H := H1
                         clear H1
                         exact absurd hr_ (by rw [← Option.some.inj H]; decide)
                       ·rw [if_neg c58] at H
                        exact absurd H (by simp)
                      ·rw [if_neg c57] at H
                       have c57b0 : decide (x13_4 < (t605.length : Int)) = false := decide_eq_false c57
                       clear c57
                       obtain rfl := Option.some.inj H
                       obtain ⟨Ao83, co83, eo83⟩ := Kd.R_slice HO_9.out
                       subst eo83
                       go_wp2
                       go_ret
                       exact ⟨by first | rfl | (simp [errW_none, errW_some] <;> rfl) | (simp [*, errW_none, errW_some] <;> rfl), by repeat (first | (with_reducible first | exact HB.out | apply below_alloc | apply pw_below_drewN | apply below_drew1 | refine below_set ?_ GE571.out) | exact HB.out)⟩
           ·rw [if_neg c17] at H
            have c17b0 : ((t590.length : Int) == 6) = false := beq_eq_false_iff_ne.mpr c17
            have c17b1 : ((t590.length : Int) != 6) = true := bne_iff_ne.mpr c17
            exact absurd hr_ (by rw [← Option.some.inj H]; decide)
          ·rw [if_neg c15] at H
           exact absurd H (by simp)
         ·rw [if_neg c14] at H
          exact absurd H (by simp)
        ·rw [if_neg c12] at H
         exact absurd H (by simp)
       ·rw [if_neg c11] at H
        exact absurd H (by simp)
      ·rw [if_neg c10] at H
       exact absurd H (by simp)
     ·rw [if_neg c9] at H
      exact absurd H (by simp)
    ·rw [if_neg c8] at H
     exact absurd H (by simp)
   ·rw [if_neg c7] at H
    exact absurd H (by simp)
  ·rw [if_neg c6] at H
   exact absurd H (by simp)

/-- THE ONE PURE STATEMENT of laws_FnWanted: yours. -/
def laws_FnWanted.Pure : Prop := ∀ (l0 : List Int), l0.length ≤ maxLen → l0.length * 1 ≤ 140737488351232 → (∀ x ∈ l0, (Lit.int .u8 x).wf = true) → ∃ k, laws_FnWanted.f k l0 = some true
theorem laws_FnWanted.walk (P : laws_FnWanted.Pure) (a0 : Option Addr) (len0 cap0 : Nat) (z0 : List Int) (w : World) (w0 : (a0 = none ∧ len0 = 0 ∧ cap0 = 0 ∧ z0 = []) ∨ ∃ x, a0 = some x ∧ len0 ≤ cap0 ∧ cap0 ≤ maxLen ∧ z0.length = cap0 ∧ (∀ i, i < z0.length → w.cell? (x.add i) = some (.int .u8 (z0.getD i 0))) ∧ ∀ n ∈ z0, (Lit.int .u8 n).wf = true) (y0 : len0 * 1 ≤ 140737488351232) :
  Calls Try.prog 4 #[.slice a0 len0 cap0] w fun e w' => e = .returned (.bool true) ∧ Below w.heap.size w w' := by
 obtain ⟨l0, rfl, hr0, hm0, hw0, hc0⟩ := ReadsInt.ofRowC w0
 obtain ⟨k, h⟩ := P l0 hm0 y0 hw0
 refine (laws_FnWanted.calls k _ _ l0 true w (Kd.C_of_reads (d := (0 : Int)) (h1 := fun _ => rfl) hr0) hc0 rfl h).mono ?_
 rintro e w' ⟨rfl, hd⟩
 exact ⟨rfl, hd⟩

end Go.Proofs.Ytannkhefallkhaa.Q
