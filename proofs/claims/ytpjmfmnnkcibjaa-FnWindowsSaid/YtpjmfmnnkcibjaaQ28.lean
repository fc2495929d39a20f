-- Written by a session's own program (wip/tools/myprint.py) over the kit's printer, out of the translation. Not trusted: Lean checks it.
import Derived.Test.YtpjmfmnnkcibjaaQ0
import Derived.Test.YtpjmfmnnkcibjaaQ9
import Derived.Test.YtpjmfmnnkcibjaaQ11
import Derived.Test.YtpjmfmnnkcibjaaQ12
import Derived.Test.YtpjmfmnnkcibjaaQ14
import Derived.Test.YtpjmfmnnkcibjaaQ19
import Derived.Test.YtpjmfmnnkcibjaaQ23
import Derived.Test.YtpjmfmnnkcibjaaQ25
import Derived.Test.YtpjmfmnnkcibjaaQ27
namespace Go.Proofs.Ytpjmfmnnkcibjaa.Q
open Go.RowKit Go.Proofs.YtpjmfmnnkcibjaaW.PrintWords Go.Proofs.YtpjmfmnnkcibjaaW.PrintLast Go.Proofs.YtpjmfmnnkcibjaaW.PrintMore
attribute [local go_sem] max2_int min2_int max_two min_two max_three min_three max_four min_four   -- for this text's walks alone
set_option linter.unusedVariables false
set_option linter.unusedSimpArgs false

/-! ### laws_FnWindows: function 9 -/
mutual
def laws_FnWindows.j0 : Nat → Int → Bool → Int → Int → Int → Int → Int → List Int → Int → Int → List Int → Option (Bool)
  | 0, _, _, _, _, _, _, _, _, _, _, _ => none
  | k + 1, x6, x8, x9, x10, x11, x551000, x551001, x551002, x562000, x562001, x562002 => (impl_DemandsOf.f k x562000 x562001 x562002).bind fun t565 => (if x8 = true then (if x10 = (wrap64 (x9 + x11)) then ((impl_WindowOk.f x562000 x562001 x562002).bind fun t568 => (if t568 = true then (if (t565.length : Int) = 6 then (if 0 ≤ x6 then (if x6 < (t565.length : Int) then (laws_FnWindows.j1 k x6 t565 ((rd t565 x6) != x10) x551000 x551001 x551002 x562000 x562001 x562002) else (none)) else (none)) else (laws_FnWindows.j1 k x6 t565 true x551000 x551001 x551002 x562000 x562001 x562002)) else (laws_FnWindows.j1 k x6 t565 true x551000 x551001 x551002 x562000 x562001 x562002))) else (laws_FnWindows.j1 k x6 t565 true x551000 x551001 x551002 x562000 x562001 x562002)) else (laws_FnWindows.j1 k x6 t565 true x551000 x551001 x551002 x562000 x562001 x562002))
def laws_FnWindows.j1 : Nat → Int → List Int → Bool → Int → Int → List Int → Int → Int → List Int → Option (Bool)
  | 0, _, _, _, _, _, _, _, _, _ => none
  | k + 1, x6, x12, x76, x551000, x551001, x551002, x562000, x562001, x562002 => if x76 = true then (some false) else (laws_FnWindows.l0 k x6 x12 0 x551000 x551001 x551002 x562000 x562001 x562002)
def laws_FnWindows.l0 : Nat → Int → List Int → Int → Int → Int → List Int → Int → Int → List Int → Option (Bool)
  | 0, _, _, _, _, _, _, _, _, _ => none
  | k + 1, x6, x12, x13, x551000, x551001, x551002, x562000, x562001, x562002 => if x13 < x551000 then ((impl_DemandOf.f k x562000 x562001 x562002 x6).bind fun t570 => ((impl_Turned.f x562000 x562001 x562002).bind fun bt571 => ((impl_DemandOf.f k bt571.1 bt571.2.1 bt571.2.2 x6).bind fun t576 => (if t576 > t570 then (some false) else (laws_FnWindows.l0 k x6 x12 (wrap64 (x13 + 1)) x551000 x551001 x551002 bt571.1 bt571.2.1 bt571.2.2))))) else (laws_FnWindows.l1 k x6 x12 0 x551000 x551001 x551002 x562000 x562001 x562002)
def laws_FnWindows.l1 : Nat → Int → List Int → Int → Int → Int → List Int → Int → Int → List Int → Option (Bool)
  | 0, _, _, _, _, _, _, _, _, _ => none
  | k + 1, x6, x12, x15, x551000, x551001, x551002, x562000, x562001, x562002 => if x15 < 6 then ((impl_DemandOf.f k x562000 x562001 x562002 x15).bind fun t578 => (if t578 = 0 then (if x15 = x6 then (laws_FnWindows.l1 k x6 x12 (wrap64 (x15 + 1)) x551000 x551001 x551002 x562000 x562001 x562002) else (if 0 ≤ x15 then (if x15 < (x12.length : Int) then ((spec_DemandOf.f k x551000 x551001 x551002 x15).bind fun t580 => (if (rd x12 x15) = t580 then (laws_FnWindows.l1 k x6 x12 (wrap64 (x15 + 1)) x551000 x551001 x551002 x562000 x562001 x562002) else (some false))) else (none)) else (none))) else (some false))) else ((impl_WindowOk.f x562000 x562001 x562002).bind fun t577 => (some t577))
end
def laws_FnWindows.f (k : Nat) (l0 : List Int) : Option (Bool) := (laws_big.f l0).bind fun t538 => (if t538 = true then (some true) else ((spec_DrawRight.f k l0).bind fun bt539 => ((spec_DrawRight.f k l0).bind fun bt545 => ((spec_DrawPlaces.f k l0).bind fun t551 => (if 0 < (t551.length : Int) then ((impl_OrderIn.f bt539.1 bt539.2.1 bt539.2.2 (Int.tmod (rd t551 0) 6)).bind fun bt555 => ((impl_DemandOf.f k bt539.1 bt539.2.1 bt539.2.2 (Int.tmod (rd t551 0) 6)).bind fun t562 => ((impl_DemandOf.f k bt555.1 bt555.2.1 bt555.2.2.1 (Int.tmod (rd t551 0) 6)).bind fun t563 => (if 0 ≤ (Int.tmod (rd t551 0) 6) then (if (Int.tmod (rd t551 0) 6) < (bt545.2.2.length : Int) then (if (rd bt545.2.2 (Int.tmod (rd t551 0) 6)) = bt545.2.1 then (laws_FnWindows.j0 k (Int.tmod (rd t551 0) 6) bt555.2.2.2 t562 t563 0 bt545.1 bt545.2.1 bt545.2.2 bt555.1 bt555.2.1 bt555.2.2.1) else (laws_FnWindows.j0 k (Int.tmod (rd t551 0) 6) bt555.2.2.2 t562 t563 1 bt545.1 bt545.2.1 bt545.2.2 bt555.1 bt555.2.1 bt555.2.2.1)) else (none)) else (none))))) else (none))))))
theorem laws_FnWindows.mono_l : ∀ k, (∀ y0 y1 y2 y3 y4 y5 y6 y7 y8 y9 y10, LeO (laws_FnWindows.j0 k y0 y1 y2 y3 y4 y5 y6 y7 y8 y9 y10) (laws_FnWindows.j0 (k + 1) y0 y1 y2 y3 y4 y5 y6 y7 y8 y9 y10)) ∧ (∀ y0 y1 y2 y3 y4 y5 y6 y7 y8, LeO (laws_FnWindows.j1 k y0 y1 y2 y3 y4 y5 y6 y7 y8) (laws_FnWindows.j1 (k + 1) y0 y1 y2 y3 y4 y5 y6 y7 y8)) ∧ (∀ y0 y1 y2 y3 y4 y5 y6 y7 y8, LeO (laws_FnWindows.l0 k y0 y1 y2 y3 y4 y5 y6 y7 y8) (laws_FnWindows.l0 (k + 1) y0 y1 y2 y3 y4 y5 y6 y7 y8)) ∧ (∀ y0 y1 y2 y3 y4 y5 y6 y7 y8, LeO (laws_FnWindows.l1 k y0 y1 y2 y3 y4 y5 y6 y7 y8) (laws_FnWindows.l1 (k + 1) y0 y1 y2 y3 y4 y5 y6 y7 y8))
  | 0 => ⟨fun _ _ _ _ _ _ _ _ _ _ _ r h => by simp [laws_FnWindows.j0] at h, fun _ _ _ _ _ _ _ _ _ r h => by simp [laws_FnWindows.j1] at h, fun _ _ _ _ _ _ _ _ _ r h => by simp [laws_FnWindows.l0] at h, fun _ _ _ _ _ _ _ _ _ r h => by simp [laws_FnWindows.l1] at h⟩
  | k + 1 => by
    obtain ⟨ih0, ih1, ih2, ih3⟩ := laws_FnWindows.mono_l k
    refine ⟨?_, ?_, ?_, ?_⟩
    · intro y0 y1 y2 y3 y4 y5 y6 y7 y8 y9 y10
      unfold laws_FnWindows.j0
      repeat' first
      | (with_reducible exact ih0 _ _ _ _ _ _ _ _ _ _ _)
      | (with_reducible exact ih1 _ _ _ _ _ _ _ _ _)
      | (with_reducible exact ih2 _ _ _ _ _ _ _ _ _)
      | (with_reducible exact ih3 _ _ _ _ _ _ _ _ _)
      | (with_reducible exact impl_DemandOf.mono _ _ _ _ _)
      | (with_reducible exact impl_DemandsOf.mono _ _ _ _)
      | (with_reducible exact spec_DemandOf.mono _ _ _ _ _)
      | (with_reducible exact spec_DrawPlaces.mono _ _)
      | (with_reducible exact spec_DrawRight.mono _ _)
      | (with_reducible exact LeO.refl _)
      | (with_reducible exact LeO.none _)
      | (with_reducible refine LeO.ite ?_ ?_)
      | (with_reducible refine LeO.bind ?_ (fun _ => ?_))
      | exact ih0 _ _ _ _ _ _ _ _ _ _ _
      | exact ih1 _ _ _ _ _ _ _ _ _
      | exact ih2 _ _ _ _ _ _ _ _ _
      | exact ih3 _ _ _ _ _ _ _ _ _
      | exact impl_DemandOf.mono _ _ _ _ _
      | exact impl_DemandsOf.mono _ _ _ _
      | exact spec_DemandOf.mono _ _ _ _ _
      | exact spec_DrawPlaces.mono _ _
      | exact spec_DrawRight.mono _ _
      | exact LeO.none _
      | refine LeO.ite ?_ ?_
      | refine LeO.bind ?_ (fun _ => ?_)
    · intro y0 y1 y2 y3 y4 y5 y6 y7 y8
      unfold laws_FnWindows.j1
      repeat' first
      | (with_reducible exact ih0 _ _ _ _ _ _ _ _ _ _ _)
      | (with_reducible exact ih1 _ _ _ _ _ _ _ _ _)
      | (with_reducible exact ih2 _ _ _ _ _ _ _ _ _)
      | (with_reducible exact ih3 _ _ _ _ _ _ _ _ _)
      | (with_reducible exact impl_DemandOf.mono _ _ _ _ _)
      | (with_reducible exact impl_DemandsOf.mono _ _ _ _)
      | (with_reducible exact spec_DemandOf.mono _ _ _ _ _)
      | (with_reducible exact spec_DrawPlaces.mono _ _)
      | (with_reducible exact spec_DrawRight.mono _ _)
      | (with_reducible exact LeO.refl _)
      | (with_reducible exact LeO.none _)
      | (with_reducible refine LeO.ite ?_ ?_)
      | (with_reducible refine LeO.bind ?_ (fun _ => ?_))
      | exact ih0 _ _ _ _ _ _ _ _ _ _ _
      | exact ih1 _ _ _ _ _ _ _ _ _
      | exact ih2 _ _ _ _ _ _ _ _ _
      | exact ih3 _ _ _ _ _ _ _ _ _
      | exact impl_DemandOf.mono _ _ _ _ _
      | exact impl_DemandsOf.mono _ _ _ _
      | exact spec_DemandOf.mono _ _ _ _ _
      | exact spec_DrawPlaces.mono _ _
      | exact spec_DrawRight.mono _ _
      | exact LeO.none _
      | refine LeO.ite ?_ ?_
      | refine LeO.bind ?_ (fun _ => ?_)
    · intro y0 y1 y2 y3 y4 y5 y6 y7 y8
      unfold laws_FnWindows.l0
      repeat' first
      | (with_reducible exact ih0 _ _ _ _ _ _ _ _ _ _ _)
      | (with_reducible exact ih1 _ _ _ _ _ _ _ _ _)
      | (with_reducible exact ih2 _ _ _ _ _ _ _ _ _)
      | (with_reducible exact ih3 _ _ _ _ _ _ _ _ _)
      | (with_reducible exact impl_DemandOf.mono _ _ _ _ _)
      | (with_reducible exact impl_DemandsOf.mono _ _ _ _)
      | (with_reducible exact spec_DemandOf.mono _ _ _ _ _)
      | (with_reducible exact spec_DrawPlaces.mono _ _)
      | (with_reducible exact spec_DrawRight.mono _ _)
      | (with_reducible exact LeO.refl _)
      | (with_reducible exact LeO.none _)
      | (with_reducible refine LeO.ite ?_ ?_)
      | (with_reducible refine LeO.bind ?_ (fun _ => ?_))
      | exact ih0 _ _ _ _ _ _ _ _ _ _ _
      | exact ih1 _ _ _ _ _ _ _ _ _
      | exact ih2 _ _ _ _ _ _ _ _ _
      | exact ih3 _ _ _ _ _ _ _ _ _
      | exact impl_DemandOf.mono _ _ _ _ _
      | exact impl_DemandsOf.mono _ _ _ _
      | exact spec_DemandOf.mono _ _ _ _ _
      | exact spec_DrawPlaces.mono _ _
      | exact spec_DrawRight.mono _ _
      | exact LeO.none _
      | refine LeO.ite ?_ ?_
      | refine LeO.bind ?_ (fun _ => ?_)
    · intro y0 y1 y2 y3 y4 y5 y6 y7 y8
      unfold laws_FnWindows.l1
      repeat' first
      | (with_reducible exact ih0 _ _ _ _ _ _ _ _ _ _ _)
      | (with_reducible exact ih1 _ _ _ _ _ _ _ _ _)
      | (with_reducible exact ih2 _ _ _ _ _ _ _ _ _)
      | (with_reducible exact ih3 _ _ _ _ _ _ _ _ _)
      | (with_reducible exact impl_DemandOf.mono _ _ _ _ _)
      | (with_reducible exact impl_DemandsOf.mono _ _ _ _)
      | (with_reducible exact spec_DemandOf.mono _ _ _ _ _)
      | (with_reducible exact spec_DrawPlaces.mono _ _)
      | (with_reducible exact spec_DrawRight.mono _ _)
      | (with_reducible exact LeO.refl _)
      | (with_reducible exact LeO.none _)
      | (with_reducible refine LeO.ite ?_ ?_)
      | (with_reducible refine LeO.bind ?_ (fun _ => ?_))
      | exact ih0 _ _ _ _ _ _ _ _ _ _ _
      | exact ih1 _ _ _ _ _ _ _ _ _
      | exact ih2 _ _ _ _ _ _ _ _ _
      | exact ih3 _ _ _ _ _ _ _ _ _
      | exact impl_DemandOf.mono _ _ _ _ _
      | exact impl_DemandsOf.mono _ _ _ _
      | exact spec_DemandOf.mono _ _ _ _ _
      | exact spec_DrawPlaces.mono _ _
      | exact spec_DrawRight.mono _ _
      | exact LeO.none _
      | refine LeO.ite ?_ ?_
      | refine LeO.bind ?_ (fun _ => ?_)
theorem laws_FnWindows.mono : ∀ a0 k, LeO (laws_FnWindows.f k a0) (laws_FnWindows.f (k + 1) a0) := by
  intro a0 k
  obtain ⟨ih0, ih1, ih2, ih3⟩ := laws_FnWindows.mono_l k
  unfold laws_FnWindows.f
  repeat' first
      | (with_reducible exact ih0 _ _ _ _ _ _ _ _ _ _ _)
      | (with_reducible exact ih1 _ _ _ _ _ _ _ _ _)
      | (with_reducible exact ih2 _ _ _ _ _ _ _ _ _)
      | (with_reducible exact ih3 _ _ _ _ _ _ _ _ _)
      | (with_reducible exact impl_DemandOf.mono _ _ _ _ _)
      | (with_reducible exact impl_DemandsOf.mono _ _ _ _)
      | (with_reducible exact spec_DemandOf.mono _ _ _ _ _)
      | (with_reducible exact spec_DrawPlaces.mono _ _)
      | (with_reducible exact spec_DrawRight.mono _ _)
      | (with_reducible exact LeO.refl _)
      | (with_reducible exact LeO.none _)
      | (with_reducible refine LeO.ite ?_ ?_)
      | (with_reducible refine LeO.bind ?_ (fun _ => ?_))
      | exact ih0 _ _ _ _ _ _ _ _ _ _ _
      | exact ih1 _ _ _ _ _ _ _ _ _
      | exact ih2 _ _ _ _ _ _ _ _ _
      | exact ih3 _ _ _ _ _ _ _ _ _
      | exact impl_DemandOf.mono _ _ _ _ _
      | exact impl_DemandsOf.mono _ _ _ _
      | exact spec_DemandOf.mono _ _ _ _ _
      | exact spec_DrawPlaces.mono _ _
      | exact spec_DrawRight.mono _ _
      | exact LeO.none _
      | refine LeO.ite ?_ ?_
      | refine LeO.bind ?_ (fun _ => ?_)
def laws_FnWindows.T11 : Bool × List (List Nat × List Nat) := (true, [([], []), ([0], [0]), ([], []), ([1, 2], [1, 2]), ([3], [3]), ([], []), ([5], [5]), ([4, 6], [4, 6])])
def laws_FnWindows.B11 : List Nat := [0, 1, 0, 7, 15, 0, 32, 127]
theorem laws_FnWindows.tab11 : rtab .any (opsOf Try.f9 11) = laws_FnWindows.T11 := by kernel_rfl
theorem laws_FnWindows.bits11 : waitsOk laws_FnWindows.T11.2 laws_FnWindows.B11 = true := by kernel_rfl
def laws_FnWindows.T26 : Bool × List (List Nat × List Nat) := (true, [([], []), ([], []), ([0, 1], [0, 1]), ([2], [2]), ([3, 2], [3]), ([4], [4]), ([4], [4]), ([5, 6, 4], [4, 5, 6]), ([7, 4, 4], [4, 7]), ([8], [8]), ([8], [8]), ([9, 10, 8], [8, 9, 10]), ([11, 8], [8, 11]), ([8], [8]), ([8], [8]), ([13, 14, 8, 8], [8, 13, 14]), ([12, 15, 8], [8, 12, 15]), ([8, 16, 4], [4, 8, 16]), ([4, 17], [4, 17])])
def laws_FnWindows.B26 : List Nat := [0, 0, 3, 7, 15, 31, 31, 127, 255, 511, 511, 2047, 4095, 511, 511, 25087, 65535, 131071, 262143]
theorem laws_FnWindows.tab26 : rtab .any (opsOf Try.f9 26) = laws_FnWindows.T26 := by kernel_rfl
theorem laws_FnWindows.bits26 : waitsOk laws_FnWindows.T26.2 laws_FnWindows.B26 = true := by kernel_rfl
set_option maxHeartbeats 8000000 in
set_option maxRecDepth 100000 in
theorem laws_FnWindows.calls (k : Nat) (A0 : Option Addr) (c0 : Nat) (l0 : List Int) (r : Bool) (w : World) (hr0 : Kd.C (Kd.int .u8) w A0 l0.length l0) (hc0 : l0.length ≤ c0) (hr_ : r = true) (h : laws_FnWindows.f k l0 = some r) :
    Calls Try.prog 9 #[.slice A0 l0.length c0] w fun e w' => e = .returned (.bool r) ∧ Below w.heap.size w w' := by
  have hu24 := Try.underlying24
  have HR0 := Aside0.mk hr0
  have HC0 := Aside0.mk hc0
  clear hr0 hc0
  have HB := Aside0.mk (Below.refl w.heap.size w)
  have H : ((laws_big.f l0).bind fun t538 => (if t538 = true then (some true) else ((spec_DrawRight.f k l0).bind fun bt539 => ((spec_DrawRight.f k l0).bind fun bt545 => ((spec_DrawPlaces.f k l0).bind fun t551 => (if 0 < (t551.length : Int) then ((impl_OrderIn.f bt539.1 bt539.2.1 bt539.2.2 (Int.tmod (rd t551 0) 6)).bind fun bt555 => ((impl_DemandOf.f k bt539.1 bt539.2.1 bt539.2.2 (Int.tmod (rd t551 0) 6)).bind fun t562 => ((impl_DemandOf.f k bt555.1 bt555.2.1 bt555.2.2.1 (Int.tmod (rd t551 0) 6)).bind fun t563 => (if 0 ≤ (Int.tmod (rd t551 0) 6) then (if (Int.tmod (rd t551 0) 6) < (bt545.2.2.length : Int) then (if (rd bt545.2.2 (Int.tmod (rd t551 0) 6)) = bt545.2.1 then (laws_FnWindows.j0 k (Int.tmod (rd t551 0) 6) bt555.2.2.2 t562 t563 0 bt545.1 bt545.2.1 bt545.2.2 bt555.1 bt555.2.1 bt555.2.2.1) else (laws_FnWindows.j0 k (Int.tmod (rd t551 0) 6) bt555.2.2.2 t562 t563 1 bt545.1 bt545.2.1 bt545.2.2 bt555.1 bt555.2.1 bt555.2.2.1)) else (none)) else (none))))) else (none))))))) = some r := h
  clear h
  replace H := Option.bind_eq_some_iff.mp H
  obtain ⟨t538, A20, H⟩ := H
  replace H : (if t538 = true then (some true) else ((spec_DrawRight.f k l0).bind fun bt539 => ((spec_DrawRight.f k l0).bind fun bt545 => ((spec_DrawPlaces.f k l0).bind fun t551 => (if 0 < (t551.length : Int) then ((impl_OrderIn.f bt539.1 bt539.2.1 bt539.2.2 (Int.tmod (rd t551 0) 6)).bind fun bt555 => ((impl_DemandOf.f k bt539.1 bt539.2.1 bt539.2.2 (Int.tmod (rd t551 0) 6)).bind fun t562 => ((impl_DemandOf.f k bt555.1 bt555.2.1 bt555.2.2.1 (Int.tmod (rd t551 0) 6)).bind fun t563 => (if 0 ≤ (Int.tmod (rd t551 0) 6) then (if (Int.tmod (rd t551 0) 6) < (bt545.2.2.length : Int) then (if (rd bt545.2.2 (Int.tmod (rd t551 0) 6)) = bt545.2.1 then (laws_FnWindows.j0 k (Int.tmod (rd t551 0) 6) bt555.2.2.2 t562 t563 0 bt545.1 bt545.2.1 bt545.2.2 bt555.1 bt555.2.1 bt555.2.2.1) else (laws_FnWindows.j0 k (Int.tmod (rd t551 0) 6) bt555.2.2.2 t562 t563 1 bt545.1 bt545.2.1 bt545.2.2 bt555.1 bt555.2.1 bt555.2.2.1)) else (none)) else (none))))) else (none)))))) = some r := H
  have A2 := Aside0.mk A20
  clear A20
  by_cases c3 : t538 = true
  · subst c3
    have H1 : (some true) = some r := by rw [if_pos rfl] at H; exact H
    clear H
    have H := H1
    clear H1
    obtain rfl := Option.some.inj H
    go_enter Try.func9, Try.ntmps9
    go_wp2_with (first | ((with_reducible refine gate_callee (f := 30) rfl ?_); refine goesL_ (some 17) rfl rfl Try.func30 (by kernel_rfl) rfl #[.slice A0 l0.length c0] rfl (by (try simp only [List.map_toArray, List.map_cons, List.map_nil]); first | done | rfl | (simp only [List.length_drop, List.length_take]; rfl)) ?_; (with_reducible refine (laws_big.calls _ _ l0 true _ ?side1 ?side2 A2.out).mono ?_); (case side1 => repeat (first | exact HR0.out | (with_reducible refine Kd.C_alloc ?_ _) | (with_reducible refine Kd.C_drewN ?_ _) | (with_reducible refine Kd.C_drew ?_))); (case side2 => exact HC0.out); rintro e w' ⟨rfl, ⟨nd, rfl⟩⟩; refine ⟨_, rfl, ?_⟩))
    go_ret
    exact ⟨by first | rfl | (simp [errW_none, errW_some] <;> rfl) | (simp [*, errW_none, errW_some] <;> rfl), by repeat (first | (with_reducible first | exact HB.out | apply below_alloc | apply pw_below_drewN | apply below_drew1) | exact HB.out)⟩
  · replace c3 := Bool.eq_false_iff.mpr c3
    subst c3
    have H1 : ((spec_DrawRight.f k l0).bind fun bt539 => ((spec_DrawRight.f k l0).bind fun bt545 => ((spec_DrawPlaces.f k l0).bind fun t551 => (if 0 < (t551.length : Int) then ((impl_OrderIn.f bt539.1 bt539.2.1 bt539.2.2 (Int.tmod (rd t551 0) 6)).bind fun bt555 => ((impl_DemandOf.f k bt539.1 bt539.2.1 bt539.2.2 (Int.tmod (rd t551 0) 6)).bind fun t562 => ((impl_DemandOf.f k bt555.1 bt555.2.1 bt555.2.2.1 (Int.tmod (rd t551 0) 6)).bind fun t563 => (if 0 ≤ (Int.tmod (rd t551 0) 6) then (if (Int.tmod (rd t551 0) 6) < (bt545.2.2.length : Int) then (if (rd bt545.2.2 (Int.tmod (rd t551 0) 6)) = bt545.2.1 then (laws_FnWindows.j0 k (Int.tmod (rd t551 0) 6) bt555.2.2.2 t562 t563 0 bt545.1 bt545.2.1 bt545.2.2 bt555.1 bt555.2.1 bt555.2.2.1) else (laws_FnWindows.j0 k (Int.tmod (rd t551 0) 6) bt555.2.2.2 t562 t563 1 bt545.1 bt545.2.1 bt545.2.2 bt555.1 bt555.2.1 bt555.2.2.1)) else (none)) else (none))))) else (none))))) = some r := by rw [if_neg (show ¬ (false = true) by decide)] at H; exact H
    clear H
    have H := H1
    clear H1
    replace H := Option.bind_eq_some_iff.mp H
    obtain ⟨⟨t539, t540, t541⟩, A40, H⟩ := H
    replace H : ((spec_DrawRight.f k l0).bind fun bt545 => ((spec_DrawPlaces.f k l0).bind fun t551 => (if 0 < (t551.length : Int) then ((impl_OrderIn.f t539 t540 t541 (Int.tmod (rd t551 0) 6)).bind fun bt555 => ((impl_DemandOf.f k t539 t540 t541 (Int.tmod (rd t551 0) 6)).bind fun t562 => ((impl_DemandOf.f k bt555.1 bt555.2.1 bt555.2.2.1 (Int.tmod (rd t551 0) 6)).bind fun t563 => (if 0 ≤ (Int.tmod (rd t551 0) 6) then (if (Int.tmod (rd t551 0) 6) < (bt545.2.2.length : Int) then (if (rd bt545.2.2 (Int.tmod (rd t551 0) 6)) = bt545.2.1 then (laws_FnWindows.j0 k (Int.tmod (rd t551 0) 6) bt555.2.2.2 t562 t563 0 bt545.1 bt545.2.1 bt545.2.2 bt555.1 bt555.2.1 bt555.2.2.1) else (laws_FnWindows.j0 k (Int.tmod (rd t551 0) 6) bt555.2.2.2 t562 t563 1 bt545.1 bt545.2.1 bt545.2.2 bt555.1 bt555.2.1 bt555.2.2.1)) else (none)) else (none))))) else (none)))) = some r := H
    have A4 := Aside0.mk A40
    clear A40
    replace H := Option.bind_eq_some_iff.mp H
    obtain ⟨⟨t545, t546, t547⟩, A50, H⟩ := H
    replace H : ((spec_DrawPlaces.f k l0).bind fun t551 => (if 0 < (t551.length : Int) then ((impl_OrderIn.f t539 t540 t541 (Int.tmod (rd t551 0) 6)).bind fun bt555 => ((impl_DemandOf.f k t539 t540 t541 (Int.tmod (rd t551 0) 6)).bind fun t562 => ((impl_DemandOf.f k bt555.1 bt555.2.1 bt555.2.2.1 (Int.tmod (rd t551 0) 6)).bind fun t563 => (if 0 ≤ (Int.tmod (rd t551 0) 6) then (if (Int.tmod (rd t551 0) 6) < (t547.length : Int) then (if (rd t547 (Int.tmod (rd t551 0) 6)) = t546 then (laws_FnWindows.j0 k (Int.tmod (rd t551 0) 6) bt555.2.2.2 t562 t563 0 t545 t546 t547 bt555.1 bt555.2.1 bt555.2.2.1) else (laws_FnWindows.j0 k (Int.tmod (rd t551 0) 6) bt555.2.2.2 t562 t563 1 t545 t546 t547 bt555.1 bt555.2.1 bt555.2.2.1)) else (none)) else (none))))) else (none))) = some r := H
    have A5 := Aside0.mk A50
    clear A50
    replace H := Option.bind_eq_some_iff.mp H
    obtain ⟨t551, A60, H⟩ := H
    replace H : (if 0 < (t551.length : Int) then ((impl_OrderIn.f t539 t540 t541 (Int.tmod (rd t551 0) 6)).bind fun bt555 => ((impl_DemandOf.f k t539 t540 t541 (Int.tmod (rd t551 0) 6)).bind fun t562 => ((impl_DemandOf.f k bt555.1 bt555.2.1 bt555.2.2.1 (Int.tmod (rd t551 0) 6)).bind fun t563 => (if 0 ≤ (Int.tmod (rd t551 0) 6) then (if (Int.tmod (rd t551 0) 6) < (t547.length : Int) then (if (rd t547 (Int.tmod (rd t551 0) 6)) = t546 then (laws_FnWindows.j0 k (Int.tmod (rd t551 0) 6) bt555.2.2.2 t562 t563 0 t545 t546 t547 bt555.1 bt555.2.1 bt555.2.2.1) else (laws_FnWindows.j0 k (Int.tmod (rd t551 0) 6) bt555.2.2.2 t562 t563 1 t545 t546 t547 bt555.1 bt555.2.1 bt555.2.2.1)) else (none)) else (none))))) else (none)) = some r := H
    have A6 := Aside0.mk A60
    clear A60
    by_cases c7 : 0 < (t551.length : Int)
    · rw [if_pos c7] at H
      have c7b0 : decide (0 < (t551.length : Int)) = true := decide_eq_true c7
      have c7b1 : decide (0 < t551.length) = true := decide_eq_true (by omega)
      clear c7
      replace H := Option.bind_eq_some_iff.mp H
      obtain ⟨⟨t555, t556, t557, t560⟩, A80, H⟩ := H
      replace H : ((impl_DemandOf.f k t539 t540 t541 (Int.tmod (rd t551 0) 6)).bind fun t562 => ((impl_DemandOf.f k t555 t556 t557 (Int.tmod (rd t551 0) 6)).bind fun t563 => (if 0 ≤ (Int.tmod (rd t551 0) 6) then (if (Int.tmod (rd t551 0) 6) < (t547.length : Int) then (if (rd t547 (Int.tmod (rd t551 0) 6)) = t546 then (laws_FnWindows.j0 k (Int.tmod (rd t551 0) 6) t560 t562 t563 0 t545 t546 t547 t555 t556 t557) else (laws_FnWindows.j0 k (Int.tmod (rd t551 0) 6) t560 t562 t563 1 t545 t546 t547 t555 t556 t557)) else (none)) else (none)))) = some r := H
      have A8 := Aside0.mk A80
      clear A80
      replace H := Option.bind_eq_some_iff.mp H
      obtain ⟨t562, A90, H⟩ := H
      replace H : ((impl_DemandOf.f k t555 t556 t557 (Int.tmod (rd t551 0) 6)).bind fun t563 => (if 0 ≤ (Int.tmod (rd t551 0) 6) then (if (Int.tmod (rd t551 0) 6) < (t547.length : Int) then (if (rd t547 (Int.tmod (rd t551 0) 6)) = t546 then (laws_FnWindows.j0 k (Int.tmod (rd t551 0) 6) t560 t562 t563 0 t545 t546 t547 t555 t556 t557) else (laws_FnWindows.j0 k (Int.tmod (rd t551 0) 6) t560 t562 t563 1 t545 t546 t547 t555 t556 t557)) else (none)) else (none))) = some r := H
      have A9 := Aside0.mk A90
      clear A90
      replace H := Option.bind_eq_some_iff.mp H
      obtain ⟨t563, A100, H⟩ := H
      replace H : (if 0 ≤ (Int.tmod (rd t551 0) 6) then (if (Int.tmod (rd t551 0) 6) < (t547.length : Int) then (if (rd t547 (Int.tmod (rd t551 0) 6)) = t546 then (laws_FnWindows.j0 k (Int.tmod (rd t551 0) 6) t560 t562 t563 0 t545 t546 t547 t555 t556 t557) else (laws_FnWindows.j0 k (Int.tmod (rd t551 0) 6) t560 t562 t563 1 t545 t546 t547 t555 t556 t557)) else (none)) else (none)) = some r := H
      have A10 := Aside0.mk A100
      clear A100
      obtain ⟨ji11, hji11⟩ : ∃ j_ : Int, (Int.tmod (rd t551 0) 6) = j_ := ⟨_, rfl⟩
      replace H : (if 0 ≤ (ji11) then (if (ji11) < (t547.length : Int) then (if (rd t547 (ji11)) = t546 then (laws_FnWindows.j0 k ji11 t560 t562 t563 0 t545 t546 t547 t555 t556 t557) else (laws_FnWindows.j0 k ji11 t560 t562 t563 1 t545 t546 t547 t555 t556 t557)) else (none)) else (none)) = some r := by first | (rw [hji11] at H; exact H) | (simp only [hji11] at H ⊢; exact H)
      (try rw [hji11] at A2)
      (try rw [hji11] at A4)
      (try rw [hji11] at A5)
      (try rw [hji11] at A6)
      (try rw [hji11] at A8)
      (try rw [hji11] at A9)
      (try rw [hji11] at A10)
      by_cases c12 : 0 ≤ (ji11)
      · rw [if_pos c12] at H
        have c12b0 : decide (0 ≤ (ji11)) = true := decide_eq_true c12
        clear c12
        by_cases c13 : (ji11) < (t547.length : Int)
        · rw [if_pos c13] at H
          have c13b0 : decide ((ji11) < (t547.length : Int)) = true := decide_eq_true c13
          clear c13
          have HC14 := Aside0.mk H
          clear H
          go_enter Try.func9, Try.ntmps9
          try go_wp2_with (first | ((with_reducible refine gate_callee (f := 30) rfl ?_); refine goesL_ (some 17) rfl rfl Try.func30 (by kernel_rfl) rfl #[.slice A0 l0.length c0] rfl (by (try simp only [List.map_toArray, List.map_cons, List.map_nil]); first | done | rfl | (simp only [List.length_drop, List.length_take]; rfl)) ?_; (with_reducible refine (laws_big.calls _ _ l0 false _ ?side1 ?side2 A2.out).mono ?_); (case side1 => repeat (first | exact HR0.out | (with_reducible refine Kd.C_alloc ?_ _) | (with_reducible refine Kd.C_drewN ?_ _) | (with_reducible refine Kd.C_drew ?_))); (case side2 => exact HC0.out); rintro e w' ⟨rfl, ⟨nd, rfl⟩⟩; refine ⟨_, rfl, ?_⟩) | ((with_reducible refine gate_callee (f := 31) rfl ?_); refine goesL_ (some 19) rfl rfl Try.func31 (by kernel_rfl) rfl #[.slice A0 l0.length c0] rfl (by (try simp only [List.map_toArray, List.map_cons, List.map_nil]); first | done | rfl | (simp only [List.length_drop, List.length_take]; rfl)) ?_; (with_reducible refine (spec_DrawRight.calls k _ _ l0 t539 t540 t541 _ ?side1 ?side2 A4.out).mono ?_); (case side1 => repeat (first | exact HR0.out | (with_reducible refine Kd.C_alloc ?_ _) | (with_reducible refine Kd.C_drewN ?_ _) | (with_reducible refine Kd.C_drew ?_))); (case side2 => exact HC0.out); rintro e w15 ⟨v542, rfl, ho0, hb⟩; refine ⟨_, rfl, ?_⟩; have n0_ := Aside0.mk (Kd.R_lower ho0 (below_size (by repeat (first | (with_reducible first | exact HB.out | apply below_alloc | apply pw_below_drewN | apply below_drew1) | exact HB.out)))); have n1_ := Aside0.mk (below_step (by repeat (first | (with_reducible first | exact HB.out | apply below_alloc | apply pw_below_drewN | apply below_drew1) | exact HB.out)) hb); clear HB; have HO543 := n0_; have HB := n1_; clear n0_ n1_; (try clear hb); (try clear hb2); (try clear hk); (try clear hi); (try clear ho0)) | ((with_reducible refine gate_dst (N := 3) rfl ?_); (try (refine gate_guard (by rfl) ?_; dsimp only)); refine box_event ?hg (N := 3) ?hd (cs := #[.int .i64 0, .int .i64 0, .slice none 0 0]) (t := 24) ?hr ?_; (case hd => rfl); (case hg => rfl); (case hr => first | (go_simp; done) | (go_simp; rfl)); intro gb544 hg w16 hbox hb; have n0_ := Aside0.mk (Kd.R_below (by (with_reducible repeat (first | apply Kd.R_alloc | apply Kd.R_drewN | apply Kd.R_drew)); exact HO543.out) hb); have n1_ := Aside0.mk (below_step (by repeat (first | (with_reducible first | exact HB.out | apply below_alloc | apply pw_below_drewN | apply below_drew1) | exact HB.out)) hb); have n2_ := Aside0.mk (hbox); have n3_ := Aside0.mk ((by rw [hg]; exact (below_size (by repeat (first | (with_reducible first | exact HB.out | apply below_alloc | apply pw_below_drewN | apply below_drew1) | exact HB.out))) : w.heap.size ≤ gb544)); have n4_ := Aside0.mk ((by rw [hg]; exact (below_size (by repeat (first | (with_reducible first | exact HB.out | apply below_alloc | apply pw_below_drewN | apply below_drew1) | exact HB.out))) : w.heap.size ≤ gb544)); clear HO543; clear HB; have HO543 := n0_; have HB := n1_; have BK544 := n2_; have GW544 := n3_; have GE544 := n4_; clear n0_ n1_ n2_ n3_ n4_; clear hb hbox hg; have hcz17_0 : w16.cell? ⟨gb544, 0, none⟩ = some (.int .i64 0) := (blk_cell BK544.out 0).trans rfl; have hcz17_1 : w16.cell? ⟨gb544, 1, none⟩ = some (.int .i64 0) := (blk_cell BK544.out 1).trans rfl; have hcz17_2 : w16.cell? ⟨gb544, 2, none⟩ = some (.slice none 0 0) := (blk_cell BK544.out 2).trans rfl; have hfz17_0 := blk_frozen BK544.out 0; have hfz17_1 := blk_frozen BK544.out 1; have hfz17_2 := blk_frozen BK544.out 2; obtain ⟨Ao18, co18, eo18⟩ := Kd.R_slice HO543.out; subst eo18) | ((with_reducible refine gate_callee (f := 31) rfl ?_); refine goesL_ (some 21) rfl rfl Try.func31 (by kernel_rfl) rfl #[.slice A0 l0.length c0] rfl (by (try simp only [List.map_toArray, List.map_cons, List.map_nil]); first | done | rfl | (simp only [List.length_drop, List.length_take]; rfl)) ?_; (with_reducible refine (spec_DrawRight.calls k _ _ l0 t545 t546 t547 _ ?side1 ?side2 A5.out).mono ?_); (case side1 => exact Kd.C_below HR0.out (by repeat (first | (with_reducible first | exact HB.out | apply below_alloc | apply pw_below_drewN | apply below_drew1 | refine below_set ?_ GE544.out) | exact HB.out))); (case side2 => exact HC0.out); rintro e w19 ⟨v548, rfl, ho0, hb⟩; refine ⟨_, rfl, ?_⟩; have n0_ := Aside0.mk (Kd.R_elder' (by (with_reducible repeat (first | apply Kd.R_alloc | apply Kd.R_drewN | apply Kd.R_drew)); exact (Kd.R_mono (Kd.R_far (p := ⟨gb544, 2, none⟩) (Kd.R_far (p := ⟨gb544, 1, none⟩) (Kd.R_far (p := ⟨gb544, 0, none⟩) (Kd.R_types HO543.out BK544.out (by decide)) (fun _ hk => hk.2) (.int .i64 t539)) (fun _ hk => hk.2) (.int .i64 t540)) (fun _ hk => hk.2) (.slice Ao18 t541.length co18)) (fun _ h_ => h_.1))) (Kd.R_base ho0) hb); have n1_ := Aside0.mk (Kd.R_lower (Kd.R_new' ho0 (Kd.R_lt (by (with_reducible repeat (first | apply Kd.R_alloc | apply Kd.R_drewN | apply Kd.R_drew)); exact (Kd.R_mono (Kd.R_far (p := ⟨gb544, 2, none⟩) (Kd.R_far (p := ⟨gb544, 1, none⟩) (Kd.R_far (p := ⟨gb544, 0, none⟩) (Kd.R_types HO543.out BK544.out (by decide)) (fun _ hk => hk.2) (.int .i64 t539)) (fun _ hk => hk.2) (.int .i64 t540)) (fun _ hk => hk.2) (.slice Ao18 t541.length co18)) (fun _ h_ => h_.1))))) (below_size (by repeat (first | (with_reducible first | exact HB.out | apply below_alloc | apply pw_below_drewN | apply below_drew1 | refine below_set ?_ GE544.out) | exact HB.out)))); have n2_ := Aside0.mk (blk_below (g := gb544) (o := .cells #[.int .i64 t539, .int .i64 t540, .slice Ao18 t541.length co18] 24 (0, 0)) (by (with_reducible repeat (first | refine blk_drewN ?_ _ | refine blk_drew ?_ | refine blk_alloc ?_ _)); refine blk_put (cs := #[.int .i64 t539, .int .i64 t540, .slice none 0 0]) ?_ 2 _ rfl; (with_reducible repeat (first | refine blk_drewN ?_ _ | refine blk_drew ?_ | refine blk_alloc ?_ _)); refine blk_put (cs := #[.int .i64 t539, .int .i64 0, .slice none 0 0]) ?_ 1 _ rfl; (with_reducible repeat (first | refine blk_drewN ?_ _ | refine blk_drew ?_ | refine blk_alloc ?_ _)); refine blk_put (cs := #[.int .i64 0, .int .i64 0, .slice none 0 0]) ?_ 0 _ rfl; (with_reducible repeat (first | refine blk_drewN ?_ _ | refine blk_drew ?_ | refine blk_alloc ?_ _)); exact BK544.out) hb); have n3_ := Aside0.mk (below_step (by repeat (first | (with_reducible first | exact HB.out | apply below_alloc | apply pw_below_drewN | apply below_drew1 | refine below_set ?_ GE544.out) | exact HB.out)) hb); clear HO543; clear BK544; clear HB; have HO543 := n0_; have HO549 := n1_; have BK544 := n2_; have HB := n3_; clear n0_ n1_ n2_ n3_; (try clear hb); (try clear hb2); (try clear hk); (try clear hi); (try clear ho0)) | ((with_reducible refine gate_dst (N := 4) rfl ?_); (try (refine gate_guard (by rfl) ?_; dsimp only)); refine box_event ?hg (N := 4) ?hd (cs := #[.int .i64 0, .int .i64 0, .slice none 0 0]) (t := 24) ?hr ?_; (case hd => rfl); (case hg => rfl); (case hr => first | (go_simp; done) | (go_simp; rfl)); intro gb550 hg w20 hbox hb; have n0_ := Aside0.mk (Kd.R_below (by (with_reducible repeat (first | apply Kd.R_alloc | apply Kd.R_drewN | apply Kd.R_drew)); exact HO543.out) hb); have n1_ := Aside0.mk (Kd.R_below (by (with_reducible repeat (first | apply Kd.R_alloc | apply Kd.R_drewN | apply Kd.R_drew)); exact HO549.out) hb); have n2_ := Aside0.mk (blk_below (g := gb544) (o := .cells #[.int .i64 t539, .int .i64 t540, .slice Ao18 t541.length co18] 24 (0, 0)) (by (with_reducible repeat (first | refine blk_drewN ?_ _ | refine blk_drew ?_ | refine blk_alloc ?_ _)); exact BK544.out) hb); have n3_ := Aside0.mk (below_step (by repeat (first | (with_reducible first | exact HB.out | apply below_alloc | apply pw_below_drewN | apply below_drew1 | refine below_set ?_ GE544.out) | exact HB.out)) hb); have n4_ := Aside0.mk (hbox); have n5_ := Aside0.mk ((by rw [hg]; exact (below_size (by repeat (first | (with_reducible first | exact HB.out | apply below_alloc | apply pw_below_drewN | apply below_drew1 | refine below_set ?_ GE544.out) | exact HB.out))) : w.heap.size ≤ gb550)); have n6_ := Aside0.mk ((by rw [hg]; exact (below_size (by repeat (first | (with_reducible first | exact HB.out | apply below_alloc | apply pw_below_drewN | apply below_drew1 | refine below_set ?_ GE544.out) | exact HB.out))) : w.heap.size ≤ gb550)); have n7_ := Aside0.mk ((by rw [hg]; exact Nat.ne_of_lt (blk_lt (g := gb544) (o := .cells #[.int .i64 t539, .int .i64 t540, .slice Ao18 t541.length co18] 24 (0, 0)) (by (with_reducible repeat (first | refine blk_drewN ?_ _ | refine blk_drew ?_ | refine blk_alloc ?_ _)); exact BK544.out)) : gb544 ≠ gb550)); have n8_ := Aside0.mk ((by rw [hg]; exact Nat.ne_of_gt (blk_lt (g := gb544) (o := .cells #[.int .i64 t539, .int .i64 t540, .slice Ao18 t541.length co18] 24 (0, 0)) (by (with_reducible repeat (first | refine blk_drewN ?_ _ | refine blk_drew ?_ | refine blk_alloc ?_ _)); exact BK544.out)) : gb550 ≠ gb544)); clear HO543; clear HO549; clear BK544; clear HB; have HO543 := n0_; have HO549 := n1_; have BK544 := n2_; have HB := n3_; have BK550 := n4_; have GW550 := n5_; have GE550 := n6_; have NB544_550 := n7_; have NB550_544 := n8_; clear n0_ n1_ n2_ n3_ n4_ n5_ n6_ n7_ n8_; clear hb hbox hg; have hnb21 := NB550_544.out; have hnc21 := NB544_550.out; have hcz22_0 : w20.cell? ⟨gb550, 0, none⟩ = some (.int .i64 0) := (blk_cell BK550.out 0).trans rfl; have hcz22_1 : w20.cell? ⟨gb550, 1, none⟩ = some (.int .i64 0) := (blk_cell BK550.out 1).trans rfl; have hcz22_2 : w20.cell? ⟨gb550, 2, none⟩ = some (.slice none 0 0) := (blk_cell BK550.out 2).trans rfl; have hfz22_0 := blk_frozen BK550.out 0; have hfz22_1 := blk_frozen BK550.out 1; have hfz22_2 := blk_frozen BK550.out 2; obtain ⟨Ao23, co23, eo23⟩ := Kd.R_slice HO549.out; subst eo23) | ((with_reducible refine gate_callee (f := 32) rfl ?_); refine goesL_ (some 23) rfl rfl Try.func32 (by kernel_rfl) rfl #[.slice A0 l0.length c0] rfl (by (try simp only [List.map_toArray, List.map_cons, List.map_nil]); first | done | rfl | (simp only [List.length_drop, List.length_take]; rfl)) ?_; (with_reducible refine (spec_DrawPlaces.calls k _ _ l0 t551 _ ?side1 ?side2 A6.out).mono ?_); (case side1 => exact Kd.C_below HR0.out (by repeat (first | (with_reducible first | exact HB.out | apply below_alloc | apply pw_below_drewN | apply below_drew1 | refine below_set ?_ GE544.out | refine below_set ?_ GE550.out) | exact HB.out))); (case side2 => exact HC0.out); rintro e w24 ⟨v552, rfl, ho0, hb⟩; refine ⟨_, rfl, ?_⟩; have n0_ := Aside0.mk (Kd.R_elder' (by (with_reducible repeat (first | apply Kd.R_alloc | apply Kd.R_drewN | apply Kd.R_drew)); exact (Kd.R_mono (Kd.R_far (p := ⟨gb550, 2, none⟩) (Kd.R_far (p := ⟨gb550, 1, none⟩) (Kd.R_far (p := ⟨gb550, 0, none⟩) (Kd.R_types HO543.out BK550.out (by decide)) (fun _ hk => hk.2) (.int .i64 t545)) (fun _ hk => hk.2) (.int .i64 t546)) (fun _ hk => hk.2) (.slice Ao23 t547.length co23)) (fun _ h_ => h_.1))) (Kd.R_base ho0) hb); have n1_ := Aside0.mk (Kd.R_elder' (by (with_reducible repeat (first | apply Kd.R_alloc | apply Kd.R_drewN | apply Kd.R_drew)); exact (Kd.R_mono (Kd.R_far (p := ⟨gb550, 2, none⟩) (Kd.R_far (p := ⟨gb550, 1, none⟩) (Kd.R_far (p := ⟨gb550, 0, none⟩) (Kd.R_types HO549.out BK550.out (by decide)) (fun _ hk => hk.2) (.int .i64 t545)) (fun _ hk => hk.2) (.int .i64 t546)) (fun _ hk => hk.2) (.slice Ao23 t547.length co23)) (fun _ h_ => h_.1))) (Kd.R_base ho0) hb); have n2_ := Aside0.mk (Kd.R_lower (Kd.R_new' (Kd.R_new' ho0 (Kd.R_lt (by (with_reducible repeat (first | apply Kd.R_alloc | apply Kd.R_drewN | apply Kd.R_drew)); exact (Kd.R_mono (Kd.R_far (p := ⟨gb550, 2, none⟩) (Kd.R_far (p := ⟨gb550, 1, none⟩) (Kd.R_far (p := ⟨gb550, 0, none⟩) (Kd.R_types HO543.out BK550.out (by decide)) (fun _ hk => hk.2) (.int .i64 t545)) (fun _ hk => hk.2) (.int .i64 t546)) (fun _ hk => hk.2) (.slice Ao23 t547.length co23)) (fun _ h_ => h_.1))))) (Kd.R_lt (by (with_reducible repeat (first | apply Kd.R_alloc | apply Kd.R_drewN | apply Kd.R_drew)); exact (Kd.R_mono (Kd.R_far (p := ⟨gb550, 2, none⟩) (Kd.R_far (p := ⟨gb550, 1, none⟩) (Kd.R_far (p := ⟨gb550, 0, none⟩) (Kd.R_types HO549.out BK550.out (by decide)) (fun _ hk => hk.2) (.int .i64 t545)) (fun _ hk => hk.2) (.int .i64 t546)) (fun _ hk => hk.2) (.slice Ao23 t547.length co23)) (fun _ h_ => h_.1))))) (below_size (by repeat (first | (with_reducible first | exact HB.out | apply below_alloc | apply pw_below_drewN | apply below_drew1 | refine below_set ?_ GE544.out | refine below_set ?_ GE550.out) | exact HB.out)))); have n3_ := Aside0.mk (blk_below (g := gb544) (o := .cells #[.int .i64 t539, .int .i64 t540, .slice Ao18 t541.length co18] 24 (0, 0)) (by (with_reducible repeat (first | refine blk_drewN ?_ _ | refine blk_drew ?_ | refine blk_alloc ?_ _)); refine blk_far ?_ NB544_550.out _; (with_reducible repeat (first | refine blk_drewN ?_ _ | refine blk_drew ?_ | refine blk_alloc ?_ _)); refine blk_far ?_ NB544_550.out _; (with_reducible repeat (first | refine blk_drewN ?_ _ | refine blk_drew ?_ | refine blk_alloc ?_ _)); refine blk_far ?_ NB544_550.out _; (with_reducible repeat (first | refine blk_drewN ?_ _ | refine blk_drew ?_ | refine blk_alloc ?_ _)); exact BK544.out) hb); have n4_ := Aside0.mk (blk_below (g := gb550) (o := .cells #[.int .i64 t545, .int .i64 t546, .slice Ao23 t547.length co23] 24 (0, 0)) (by (with_reducible repeat (first | refine blk_drewN ?_ _ | refine blk_drew ?_ | refine blk_alloc ?_ _)); refine blk_put (cs := #[.int .i64 t545, .int .i64 t546, .slice none 0 0]) ?_ 2 _ rfl; (with_reducible repeat (first | refine blk_drewN ?_ _ | refine blk_drew ?_ | refine blk_alloc ?_ _)); refine blk_put (cs := #[.int .i64 t545, .int .i64 0, .slice none 0 0]) ?_ 1 _ rfl; (with_reducible repeat (first | refine blk_drewN ?_ _ | refine blk_drew ?_ | refine blk_alloc ?_ _)); refine blk_put (cs := #[.int .i64 0, .int .i64 0, .slice none 0 0]) ?_ 0 _ rfl; (with_reducible repeat (first | refine blk_drewN ?_ _ | refine blk_drew ?_ | refine blk_alloc ?_ _)); exact BK550.out) hb); have n5_ := Aside0.mk (below_step (by repeat (first | (with_reducible first | exact HB.out | apply below_alloc | apply pw_below_drewN | apply below_drew1 | refine below_set ?_ GE544.out | refine below_set ?_ GE550.out) | exact HB.out)) hb); clear HO543; clear HO549; clear BK544; clear BK550; clear HB; have HO543 := n0_; have HO549 := n1_; have HO553 := n2_; have BK544 := n3_; have BK550 := n4_; have HB := n5_; clear n0_ n1_ n2_ n3_ n4_ n5_; (try clear hb); (try clear hb2); (try clear hk); (try clear hi); (try clear ho0); obtain ⟨Ao25, co25, eo25⟩ := Kd.R_slice HO553.out; subst eo25; have p554 : 0 ≤ (0 : Int) := (by omega); have q554 : 0 < (t551.length : Int) := of_decide_eq_true (by first | (with_reducible assumption) | assumption); obtain ⟨ad554, e554, hx554_0⟩ := Kd.at_int (Kd.R_reads' HO553.out).2.2 0 p554 q554; cases e554; have qi554 : (0 < t551.length) = True := eq_true (by omega); (try rw [show ((0 : Int)).toNat = 0 from rfl] at hx554_0); (try rw [Addr.add_zero'] at hx554_0); replace p554 := eq_true p554; replace q554 := eq_true q554; have hcz26_0 : w24.cell? ⟨gb544, 0, none⟩ = some (.int .i64 t539) := (blk_cell BK544.out 0).trans rfl; have hcz26_1 : w24.cell? ⟨gb544, 1, none⟩ = some (.int .i64 t540) := (blk_cell BK544.out 1).trans rfl; have hcz26_2 : w24.cell? ⟨gb544, 2, none⟩ = some (.slice Ao18 t541.length co18) := (blk_cell BK544.out 2).trans rfl; have hfz26_0 := blk_frozen BK544.out 0; have hfz26_1 := blk_frozen BK544.out 1; have hfz26_2 := blk_frozen BK544.out 2) | ((with_reducible refine gate_callee (f := 29) rfl ?_); refine goesL_ (some 31) rfl rfl Try.func29 (by kernel_rfl) rfl #[.agg #[.int .i64 t539, .int .i64 t540, .slice Ao18 t541.length co18], .int .i64 ji11] rfl (by (try simp only [List.map_toArray, List.map_cons, List.map_nil]); first | done | (simp only [hji11]; rfl) | rfl | (simp only [List.length_drop, List.length_take]; rfl)) ?_; (with_reducible refine (impl_OrderIn.calls t539 t540 _ _ t541 ji11 t555 t556 t557 t560 _ ?side1 ?side2 A8.out).mono ?_); (case side1 => repeat (first | exact (Kd.R_reads' HO543.out).2.2 | (with_reducible refine Kd.C_alloc ?_ _) | (with_reducible refine Kd.C_drewN ?_ _) | (with_reducible refine Kd.C_drew ?_))); (case side2 => exact (Kd.R_reads' HO543.out).2.1); rintro e w27 ⟨v558, rfl, ho0, hb⟩; refine ⟨_, rfl, ?_⟩; have n0_ := Aside0.mk (Kd.R_elder' (by (with_reducible repeat (first | apply Kd.R_alloc | apply Kd.R_drewN | apply Kd.R_drew)); exact HO543.out) (Kd.R_base ho0) hb); have n1_ := Aside0.mk (Kd.R_elder' (by (with_reducible repeat (first | apply Kd.R_alloc | apply Kd.R_drewN | apply Kd.R_drew)); exact HO549.out) (Kd.R_base ho0) hb); have n2_ := Aside0.mk (Kd.R_elder' (by (with_reducible repeat (first | apply Kd.R_alloc | apply Kd.R_drewN | apply Kd.R_drew)); exact HO553.out) (Kd.R_base ho0) hb); have n3_ := Aside0.mk (Kd.R_lower (Kd.R_new' (Kd.R_new' (Kd.R_new' ho0 (Kd.R_lt (by (with_reducible repeat (first | apply Kd.R_alloc | apply Kd.R_drewN | apply Kd.R_drew)); exact HO543.out))) (Kd.R_lt (by (with_reducible repeat (first | apply Kd.R_alloc | apply Kd.R_drewN | apply Kd.R_drew)); exact HO549.out))) (Kd.R_lt (by (with_reducible repeat (first | apply Kd.R_alloc | apply Kd.R_drewN | apply Kd.R_drew)); exact HO553.out))) (below_size (by repeat (first | (with_reducible first | exact HB.out | apply below_alloc | apply pw_below_drewN | apply below_drew1 | refine below_set ?_ GE544.out | refine below_set ?_ GE550.out) | exact HB.out)))); have n4_ := Aside0.mk (blk_below (g := gb544) (o := .cells #[.int .i64 t539, .int .i64 t540, .slice Ao18 t541.length co18] 24 (0, 0)) (by (with_reducible repeat (first | refine blk_drewN ?_ _ | refine blk_drew ?_ | refine blk_alloc ?_ _)); exact BK544.out) hb); have n5_ := Aside0.mk (blk_below (g := gb550) (o := .cells #[.int .i64 t545, .int .i64 t546, .slice Ao23 t547.length co23] 24 (0, 0)) (by (with_reducible repeat (first | refine blk_drewN ?_ _ | refine blk_drew ?_ | refine blk_alloc ?_ _)); exact BK550.out) hb); have n6_ := Aside0.mk (below_step (by repeat (first | (with_reducible first | exact HB.out | apply below_alloc | apply pw_below_drewN | apply below_drew1 | refine below_set ?_ GE544.out | refine below_set ?_ GE550.out) | exact HB.out)) hb); clear HO543; clear HO549; clear HO553; clear BK544; clear BK550; clear HB; have HO543 := n0_; have HO549 := n1_; have HO553 := n2_; have HO559 := n3_; have BK544 := n4_; have BK550 := n5_; have HB := n6_; clear n0_ n1_ n2_ n3_ n4_ n5_ n6_; (try clear hb); (try clear hb2); (try clear hk); (try clear hi); (try clear ho0)) | ((with_reducible refine gate_dst (N := 7) rfl ?_); (try (refine gate_guard (by rfl) ?_; dsimp only)); refine box_event ?hg (N := 7) ?hd (cs := #[.int .i64 0, .int .i64 0, .slice none 0 0]) (t := 24) ?hr ?_; (case hd => rfl); (case hg => rfl); (case hr => first | (go_simp; done) | (go_simp; rfl)); intro gb561 hg w28 hbox hb; have n0_ := Aside0.mk (Kd.R_below (by (with_reducible repeat (first | apply Kd.R_alloc | apply Kd.R_drewN | apply Kd.R_drew)); exact HO543.out) hb); have n1_ := Aside0.mk (Kd.R_below (by (with_reducible repeat (first | apply Kd.R_alloc | apply Kd.R_drewN | apply Kd.R_drew)); exact HO549.out) hb); have n2_ := Aside0.mk (Kd.R_below (by (with_reducible repeat (first | apply Kd.R_alloc | apply Kd.R_drewN | apply Kd.R_drew)); exact HO553.out) hb); have n3_ := Aside0.mk (Kd.R_below (by (with_reducible repeat (first | apply Kd.R_alloc | apply Kd.R_drewN | apply Kd.R_drew)); exact HO559.out) hb); have n4_ := Aside0.mk (blk_below (g := gb544) (o := .cells #[.int .i64 t539, .int .i64 t540, .slice Ao18 t541.length co18] 24 (0, 0)) (by (with_reducible repeat (first | refine blk_drewN ?_ _ | refine blk_drew ?_ | refine blk_alloc ?_ _)); exact BK544.out) hb); have n5_ := Aside0.mk (blk_below (g := gb550) (o := .cells #[.int .i64 t545, .int .i64 t546, .slice Ao23 t547.length co23] 24 (0, 0)) (by (with_reducible repeat (first | refine blk_drewN ?_ _ | refine blk_drew ?_ | refine blk_alloc ?_ _)); exact BK550.out) hb); have n6_ := Aside0.mk (below_step (by repeat (first | (with_reducible first | exact HB.out | apply below_alloc | apply pw_below_drewN | apply below_drew1 | refine below_set ?_ GE544.out | refine below_set ?_ GE550.out) | exact HB.out)) hb); have n7_ := Aside0.mk (hbox); have n8_ := Aside0.mk ((by rw [hg]; exact (below_size (by repeat (first | (with_reducible first | exact HB.out | apply below_alloc | apply pw_below_drewN | apply below_drew1 | refine below_set ?_ GE544.out | refine below_set ?_ GE550.out) | exact HB.out))) : w.heap.size ≤ gb561)); have n9_ := Aside0.mk ((by rw [hg]; exact (below_size (by repeat (first | (with_reducible first | exact HB.out | apply below_alloc | apply pw_below_drewN | apply below_drew1 | refine below_set ?_ GE544.out | refine below_set ?_ GE550.out) | exact HB.out))) : w.heap.size ≤ gb561)); have n10_ := Aside0.mk ((by rw [hg]; exact Nat.ne_of_lt (blk_lt (g := gb544) (o := .cells #[.int .i64 t539, .int .i64 t540, .slice Ao18 t541.length co18] 24 (0, 0)) (by (with_reducible repeat (first | refine blk_drewN ?_ _ | refine blk_drew ?_ | refine blk_alloc ?_ _)); exact BK544.out)) : gb544 ≠ gb561)); have n11_ := Aside0.mk ((by rw [hg]; exact Nat.ne_of_gt (blk_lt (g := gb544) (o := .cells #[.int .i64 t539, .int .i64 t540, .slice Ao18 t541.length co18] 24 (0, 0)) (by (with_reducible repeat (first | refine blk_drewN ?_ _ | refine blk_drew ?_ | refine blk_alloc ?_ _)); exact BK544.out)) : gb561 ≠ gb544)); have n12_ := Aside0.mk ((by rw [hg]; exact Nat.ne_of_lt (blk_lt (g := gb550) (o := .cells #[.int .i64 t545, .int .i64 t546, .slice Ao23 t547.length co23] 24 (0, 0)) (by (with_reducible repeat (first | refine blk_drewN ?_ _ | refine blk_drew ?_ | refine blk_alloc ?_ _)); exact BK550.out)) : gb550 ≠ gb561)); have n13_ := Aside0.mk ((by rw [hg]; exact Nat.ne_of_gt (blk_lt (g := gb550) (o := .cells #[.int .i64 t545, .int .i64 t546, .slice Ao23 t547.length co23] 24 (0, 0)) (by (with_reducible repeat (first | refine blk_drewN ?_ _ | refine blk_drew ?_ | refine blk_alloc ?_ _)); exact BK550.out)) : gb561 ≠ gb550)); clear HO543; clear HO549; clear HO553; clear HO559; clear BK544; clear BK550; clear HB; have HO543 := n0_; have HO549 := n1_; have HO553 := n2_; have HO559 := n3_; have BK544 := n4_; have BK550 := n5_; have HB := n6_; have BK561 := n7_; have GW561 := n8_; have GE561 := n9_; have NB544_561 := n10_; have NB561_544 := n11_; have NB550_561 := n12_; have NB561_550 := n13_; clear n0_ n1_ n2_ n3_ n4_ n5_ n6_ n7_ n8_ n9_ n10_ n11_ n12_ n13_; clear hb hbox hg; have hnb29 := NB561_544.out; have hnc29 := NB544_561.out; have hnb30 := NB561_550.out; have hnc30 := NB550_561.out; have hcz31_0 : w28.cell? ⟨gb561, 0, none⟩ = some (.int .i64 0) := (blk_cell BK561.out 0).trans rfl; have hcz31_1 : w28.cell? ⟨gb561, 1, none⟩ = some (.int .i64 0) := (blk_cell BK561.out 1).trans rfl; have hcz31_2 : w28.cell? ⟨gb561, 2, none⟩ = some (.slice none 0 0) := (blk_cell BK561.out 2).trans rfl; have hfz31_0 := blk_frozen BK561.out 0; have hfz31_1 := blk_frozen BK561.out 1; have hfz31_2 := blk_frozen BK561.out 2; obtain ⟨Ao32, co32, eo32⟩ := Kd.R_slice HO559.out; subst eo32; have hcz33_0 : w28.cell? ⟨gb544, 0, none⟩ = some (.int .i64 t539) := (blk_cell BK544.out 0).trans rfl; have hcz33_1 : w28.cell? ⟨gb544, 1, none⟩ = some (.int .i64 t540) := (blk_cell BK544.out 1).trans rfl; have hcz33_2 : w28.cell? ⟨gb544, 2, none⟩ = some (.slice Ao18 t541.length co18) := (blk_cell BK544.out 2).trans rfl; have hfz33_0 := blk_frozen BK544.out 0; have hfz33_1 := blk_frozen BK544.out 1; have hfz33_2 := blk_frozen BK544.out 2) | ((with_reducible refine gate_callee (f := 20) rfl ?_); refine goesL_ (some 36) rfl rfl Try.func20 (by kernel_rfl) rfl #[.agg #[.int .i64 t539, .int .i64 t540, .slice Ao18 t541.length co18], .int .i64 ji11] rfl (by (try simp only [List.map_toArray, List.map_cons, List.map_nil]); first | done | (simp only [hji11]; rfl) | rfl | (simp only [List.length_drop, List.length_take]; rfl)) ?_; (with_reducible refine (impl_DemandOf.calls k t539 t540 _ _ t541 ji11 t562 _ ?side1 ?side2 A9.out).mono ?_); (case side1 => refine (Kd.R_reads' (e := 3) (base := w.heap.size) (ok := fun k_ => (((True ∧ some k_ ≠ (.slice Ao23 t547.length co23 : Value).ownBlock) ∧ some k_ ≠ (.slice (some ad554) t551.length co25 : Value).ownBlock) ∧ some k_ ≠ (.slice Ao32 t557.length co32 : Value).ownBlock)) (n := t541.length) (c := co18) ?_).2.2; exact (by (with_reducible repeat (first | apply Kd.R_alloc | apply Kd.R_drewN | apply Kd.R_drew)); exact (Kd.R_mono (Kd.R_far (p := ⟨gb561, 2, none⟩) (Kd.R_far (p := ⟨gb561, 1, none⟩) (Kd.R_far (p := ⟨gb561, 0, none⟩) (Kd.R_types HO543.out BK561.out (by decide)) (fun _ hk => hk.2) (.int .i64 t555)) (fun _ hk => hk.2) (.int .i64 t556)) (fun _ hk => hk.2) (.slice Ao32 t557.length co32)) (fun _ h_ => h_.1)))); (case side2 => exact (Kd.R_reads' HO543.out).2.1); rintro e w34 ⟨rfl, hb⟩; refine ⟨_, rfl, ?_⟩; have n0_ := Aside0.mk (Kd.R_below (by (with_reducible repeat (first | apply Kd.R_alloc | apply Kd.R_drewN | apply Kd.R_drew)); exact (Kd.R_mono (Kd.R_far (p := ⟨gb561, 2, none⟩) (Kd.R_far (p := ⟨gb561, 1, none⟩) (Kd.R_far (p := ⟨gb561, 0, none⟩) (Kd.R_types HO543.out BK561.out (by decide)) (fun _ hk => hk.2) (.int .i64 t555)) (fun _ hk => hk.2) (.int .i64 t556)) (fun _ hk => hk.2) (.slice Ao32 t557.length co32)) (fun _ h_ => h_.1))) hb); have n1_ := Aside0.mk (Kd.R_below (by (with_reducible repeat (first | apply Kd.R_alloc | apply Kd.R_drewN | apply Kd.R_drew)); exact (Kd.R_mono (Kd.R_far (p := ⟨gb561, 2, none⟩) (Kd.R_far (p := ⟨gb561, 1, none⟩) (Kd.R_far (p := ⟨gb561, 0, none⟩) (Kd.R_types HO549.out BK561.out (by decide)) (fun _ hk => hk.2) (.int .i64 t555)) (fun _ hk => hk.2) (.int .i64 t556)) (fun _ hk => hk.2) (.slice Ao32 t557.length co32)) (fun _ h_ => h_.1))) hb); have n2_ := Aside0.mk (Kd.R_below (by (with_reducible repeat (first | apply Kd.R_alloc | apply Kd.R_drewN | apply Kd.R_drew)); exact (Kd.R_mono (Kd.R_far (p := ⟨gb561, 2, none⟩) (Kd.R_far (p := ⟨gb561, 1, none⟩) (Kd.R_far (p := ⟨gb561, 0, none⟩) (Kd.R_types HO553.out BK561.out (by decide)) (fun _ hk => hk.2) (.int .i64 t555)) (fun _ hk => hk.2) (.int .i64 t556)) (fun _ hk => hk.2) (.slice Ao32 t557.length co32)) (fun _ h_ => h_.1))) hb); have n3_ := Aside0.mk (Kd.R_below (by (with_reducible repeat (first | apply Kd.R_alloc | apply Kd.R_drewN | apply Kd.R_drew)); exact (Kd.R_mono (Kd.R_far (p := ⟨gb561, 2, none⟩) (Kd.R_far (p := ⟨gb561, 1, none⟩) (Kd.R_far (p := ⟨gb561, 0, none⟩) (Kd.R_types HO559.out BK561.out (by decide)) (fun _ hk => hk.2) (.int .i64 t555)) (fun _ hk => hk.2) (.int .i64 t556)) (fun _ hk => hk.2) (.slice Ao32 t557.length co32)) (fun _ h_ => h_.1))) hb); have n4_ := Aside0.mk (blk_below (g := gb544) (o := .cells #[.int .i64 t539, .int .i64 t540, .slice Ao18 t541.length co18] 24 (0, 0)) (by (with_reducible repeat (first | refine blk_drewN ?_ _ | refine blk_drew ?_ | refine blk_alloc ?_ _)); refine blk_far ?_ NB544_561.out _; (with_reducible repeat (first | refine blk_drewN ?_ _ | refine blk_drew ?_ | refine blk_alloc ?_ _)); refine blk_far ?_ NB544_561.out _; (with_reducible repeat (first | refine blk_drewN ?_ _ | refine blk_drew ?_ | refine blk_alloc ?_ _)); refine blk_far ?_ NB544_561.out _; (with_reducible repeat (first | refine blk_drewN ?_ _ | refine blk_drew ?_ | refine blk_alloc ?_ _)); exact BK544.out) hb); have n5_ := Aside0.mk (blk_below (g := gb550) (o := .cells #[.int .i64 t545, .int .i64 t546, .slice Ao23 t547.length co23] 24 (0, 0)) (by (with_reducible repeat (first | refine blk_drewN ?_ _ | refine blk_drew ?_ | refine blk_alloc ?_ _)); refine blk_far ?_ NB550_561.out _; (with_reducible repeat (first | refine blk_drewN ?_ _ | refine blk_drew ?_ | refine blk_alloc ?_ _)); refine blk_far ?_ NB550_561.out _; (with_reducible repeat (first | refine blk_drewN ?_ _ | refine blk_drew ?_ | refine blk_alloc ?_ _)); refine blk_far ?_ NB550_561.out _; (with_reducible repeat (first | refine blk_drewN ?_ _ | refine blk_drew ?_ | refine blk_alloc ?_ _)); exact BK550.out) hb); have n6_ := Aside0.mk (blk_below (g := gb561) (o := .cells #[.int .i64 t555, .int .i64 t556, .slice Ao32 t557.length co32] 24 (0, 0)) (by (with_reducible repeat (first | refine blk_drewN ?_ _ | refine blk_drew ?_ | refine blk_alloc ?_ _)); refine blk_put (cs := #[.int .i64 t555, .int .i64 t556, .slice none 0 0]) ?_ 2 _ rfl; (with_reducible repeat (first | refine blk_drewN ?_ _ | refine blk_drew ?_ | refine blk_alloc ?_ _)); refine blk_put (cs := #[.int .i64 t555, .int .i64 0, .slice none 0 0]) ?_ 1 _ rfl; (with_reducible repeat (first | refine blk_drewN ?_ _ | refine blk_drew ?_ | refine blk_alloc ?_ _)); refine blk_put (cs := #[.int .i64 0, .int .i64 0, .slice none 0 0]) ?_ 0 _ rfl; (with_reducible repeat (first | refine blk_drewN ?_ _ | refine blk_drew ?_ | refine blk_alloc ?_ _)); exact BK561.out) hb); have n7_ := Aside0.mk (below_step (by repeat (first | (with_reducible first | exact HB.out | apply below_alloc | apply pw_below_drewN | apply below_drew1 | refine below_set ?_ GE544.out | refine below_set ?_ GE550.out | refine below_set ?_ GE561.out) | exact HB.out)) hb); clear HO543; clear HO549; clear HO553; clear HO559; clear BK544; clear BK550; clear BK561; clear HB; have HO543 := n0_; have HO549 := n1_; have HO553 := n2_; have HO559 := n3_; have BK544 := n4_; have BK550 := n5_; have BK561 := n6_; have HB := n7_; clear n0_ n1_ n2_ n3_ n4_ n5_ n6_ n7_; (try clear hb); (try clear hb2); (try clear hk); (try clear hi); have hcz35_0 : w34.cell? ⟨gb561, 0, none⟩ = some (.int .i64 t555) := (blk_cell BK561.out 0).trans rfl; have hcz35_1 : w34.cell? ⟨gb561, 1, none⟩ = some (.int .i64 t556) := (blk_cell BK561.out 1).trans rfl; have hcz35_2 : w34.cell? ⟨gb561, 2, none⟩ = some (.slice Ao32 t557.length co32) := (blk_cell BK561.out 2).trans rfl; have hfz35_0 := blk_frozen BK561.out 0; have hfz35_1 := blk_frozen BK561.out 1; have hfz35_2 := blk_frozen BK561.out 2) | ((with_reducible refine gate_callee (f := 20) rfl ?_); refine goesL_ (some 39) rfl rfl Try.func20 (by kernel_rfl) rfl #[.agg #[.int .i64 t555, .int .i64 t556, .slice Ao32 t557.length co32], .int .i64 ji11] rfl (by (try simp only [List.map_toArray, List.map_cons, List.map_nil]); first | done | (simp only [hji11]; rfl) | rfl | (simp only [List.length_drop, List.length_take]; rfl)) ?_; (with_reducible refine (impl_DemandOf.calls k t555 t556 _ _ t557 ji11 t563 _ ?side1 ?side2 A10.out).mono ?_); (case side1 => repeat (first | exact (Kd.R_reads' HO559.out).2.2 | (with_reducible refine Kd.C_alloc ?_ _) | (with_reducible refine Kd.C_drewN ?_ _) | (with_reducible refine Kd.C_drew ?_))); (case side2 => exact (Kd.R_reads' HO559.out).2.1); rintro e w36 ⟨rfl, hb⟩; refine ⟨_, rfl, ?_⟩; have n0_ := Aside0.mk (Kd.R_below (by (with_reducible repeat (first | apply Kd.R_alloc | apply Kd.R_drewN | apply Kd.R_drew)); exact HO543.out) hb); have n1_ := Aside0.mk (Kd.R_below (by (with_reducible repeat (first | apply Kd.R_alloc | apply Kd.R_drewN | apply Kd.R_drew)); exact HO549.out) hb); have n2_ := Aside0.mk (Kd.R_below (by (with_reducible repeat (first | apply Kd.R_alloc | apply Kd.R_drewN | apply Kd.R_drew)); exact HO553.out) hb); have n3_ := Aside0.mk (Kd.R_below (by (with_reducible repeat (first | apply Kd.R_alloc | apply Kd.R_drewN | apply Kd.R_drew)); exact HO559.out) hb); have n4_ := Aside0.mk (blk_below (g := gb544) (o := .cells #[.int .i64 t539, .int .i64 t540, .slice Ao18 t541.length co18] 24 (0, 0)) (by (with_reducible repeat (first | refine blk_drewN ?_ _ | refine blk_drew ?_ | refine blk_alloc ?_ _)); exact BK544.out) hb); have n5_ := Aside0.mk (blk_below (g := gb550) (o := .cells #[.int .i64 t545, .int .i64 t546, .slice Ao23 t547.length co23] 24 (0, 0)) (by (with_reducible repeat (first | refine blk_drewN ?_ _ | refine blk_drew ?_ | refine blk_alloc ?_ _)); exact BK550.out) hb); have n6_ := Aside0.mk (blk_below (g := gb561) (o := .cells #[.int .i64 t555, .int .i64 t556, .slice Ao32 t557.length co32] 24 (0, 0)) (by (with_reducible repeat (first | refine blk_drewN ?_ _ | refine blk_drew ?_ | refine blk_alloc ?_ _)); exact BK561.out) hb); have n7_ := Aside0.mk (below_step (by repeat (first | (with_reducible first | exact HB.out | apply below_alloc | apply pw_below_drewN | apply below_drew1 | refine below_set ?_ GE544.out | refine below_set ?_ GE550.out | refine below_set ?_ GE561.out) | exact HB.out)) hb); clear HO543; clear HO549; clear HO553; clear HO559; clear BK544; clear BK550; clear BK561; clear HB; have HO543 := n0_; have HO549 := n1_; have HO553 := n2_; have HO559 := n3_; have BK544 := n4_; have BK550 := n5_; have BK561 := n6_; have HB := n7_; clear n0_ n1_ n2_ n3_ n4_ n5_ n6_ n7_; (try clear hb); (try clear hb2); (try clear hk); (try clear hi)))
          have n0_ := Aside0.mk (Kd.R_drew HO543.out)
          have n1_ := Aside0.mk (Kd.R_drew HO549.out)
          have n2_ := Aside0.mk (Kd.R_drew HO553.out)
          have n3_ := Aside0.mk (Kd.R_drew HO559.out)
          have n4_ := Aside0.mk (blk_drew BK544.out)
          have n5_ := Aside0.mk (blk_drew BK550.out)
          have n6_ := Aside0.mk (blk_drew BK561.out)
          have n7_ := Aside0.mk (below_drew1 HB.out)
          clear HO543
          clear HO549
          clear HO553
          clear HO559
          clear BK544
          clear BK550
          clear BK561
          clear HB
          have HO543 := n0_
          have HO549 := n1_
          have HO553 := n2_
          have HO559 := n3_
          have BK544 := n4_
          have BK550 := n5_
          have BK561 := n6_
          have HB := n7_
          clear n0_ n1_ n2_ n3_ n4_ n5_ n6_ n7_
          have p564 : 0 ≤ ((ji11) : Int) := of_decide_eq_true (by first | (with_reducible assumption) | assumption)
          have q564 : (ji11) < (t547.length : Int) := of_decide_eq_true (by first | (with_reducible assumption) | assumption)
          (try (obtain ⟨Az_, cz_, ez_⟩ := Kd.R_slice HO549.out; subst ez_))
          obtain ⟨ad564, e564, hx564_0⟩ := Kd.at_int (Kd.R_reads' HO549.out).2.2 (ji11) p564 q564
          cases e564
          replace p564 := eq_true p564
          replace q564 := eq_true q564
          refine start_ (n := 8) (S := fun w' => w'.cell? ⟨gb550, 0, none⟩ = some (.int .i64 t545) ∧ w'.cell? ⟨gb550, 1, none⟩ = some (.int .i64 t546) ∧ w'.cell? ⟨gb550, 2, none⟩ = some (.slice (some ad564) t547.length co23) ∧ w'.cell? (ad564.add ((ji11)).toNat) = some (.int .i64 (rd t547 (ji11)))) (ds := []) #[false, false, false, false, false, false, false, false] (by kernel_rfl) rfl rfl ⟨(blk_cell BK550.out 0).trans rfl, (blk_cell BK550.out 1).trans rfl, (blk_cell BK550.out 2).trans rfl, hx564_0⟩ (fun hHeld => ?_); refine with_tabW laws_FnWindows.tab11 laws_FnWindows.bits11 (fun HT_ HW_ => ?_)
          generalize w36.drew = w37 at HO543 HO549 HO553 HO559 BK544 BK550 BK561 HB hx564_0 hHeld ⊢
          refine pure_ (i := 0) (N := some 40) (v := ?_) (a' := ?_) #[true, false, false, false, false, false, false, false] rfl rfl (any_of HT_.out (by kernel_rfl)) (fun _ _ _ h => h) (Or.inl ⟨by rfl, ?_⟩) ?_ ?_
          rotate_left
          · intro w'
            go_simp
            with_reducible rfl
          rotate_left
          · simp only [Act.put, List.setIfInBounds_toArray, List.set_cons_zero, List.set_cons_succ, i64_w, i32_w]
            rfl
          refine pure_ (i := 2) (N := some 42) (v := ?_) (a' := ?_) #[true, false, true, false, false, false, false, false] rfl rfl (any_of HT_.out (by kernel_rfl)) (fun _ _ _ h => h) (Or.inl ⟨by rfl, ?_⟩) ?_ ?_
          rotate_left
          · intro w'
            go_simp
            with_reducible rfl
          rotate_left
          · simp only [Act.put, List.setIfInBounds_toArray, List.set_cons_zero, List.set_cons_succ, i64_w, i32_w]
            rfl
          refine pure_ (i := 5) (N := some 45) (v := ?_) (a' := ?_) #[true, false, true, false, false, true, false, false] rfl rfl (any_of HT_.out (by kernel_rfl)) (fun _ _ _ h => h) (Or.inl ⟨by rfl, ?_⟩) ?_ ?_
          rotate_left
          · intro w'
            go_simp
            with_reducible rfl
          rotate_left
          · simp only [Act.put, List.setIfInBounds_toArray, List.set_cons_zero, List.set_cons_succ, i64_w, i32_w]
            rfl
          refine take_ (i := 1) (N := some 41) (v := ?_) (a' := ?_) #[true, true, true, false, false, true, false, false] rfl rfl (take_ofW HT_.out HW_.out (by kernel_rfl)) (fun _ _ _ h => h) (Or.inl ⟨by rfl, ?_⟩) hHeld ?_ ?_
          rotate_left
          · rintro w' ⟨s0, s1, s2, s3⟩
            go_simp
            with_reducible rfl
          rotate_left
          · simp only [Act.put, List.setIfInBounds_toArray, List.set_cons_zero, List.set_cons_succ, i64_w, i32_w]
            rfl
          refine pure_ (i := 3) (N := some 43) (v := ?_) (a' := ?_) #[true, true, true, true, false, true, false, false] rfl rfl (any_of HT_.out (by kernel_rfl)) (fun _ _ _ h => h) (Or.inl ⟨by rfl, ?_⟩) ?_ ?_
          rotate_left
          · intro w'
            go_simp
            with_reducible rfl
          rotate_left
          · simp only [Act.put, List.setIfInBounds_toArray, List.set_cons_zero, List.set_cons_succ, i64_w, i32_w]
            rfl
          refine take_ (i := 4) (N := some 44) (v := ?_) (a' := ?_) #[true, true, true, true, true, true, false, false] rfl rfl (take_ofW HT_.out HW_.out (by kernel_rfl)) (fun _ _ _ h => h) (Or.inl ⟨by rfl, ?_⟩) hHeld ?_ ?_
          rotate_left
          · rintro w' ⟨s0, s1, s2, s3⟩
            go_simp
            with_reducible rfl
          rotate_left
          · simp only [Act.put, List.setIfInBounds_toArray, List.set_cons_zero, List.set_cons_succ, i64_w, i32_w]
            rfl
          refine take_ (i := 6) (N := some 46) (v := ?_) (a' := ?_) #[true, true, true, true, true, true, true, false] rfl rfl (take_ofW HT_.out HW_.out (by kernel_rfl)) (fun _ _ _ h => h) (Or.inl ⟨by rfl, ?_⟩) hHeld ?_ ?_
          rotate_left
          · rintro w' ⟨s0, s1, s2, s3⟩
            go_simp
            with_reducible rfl
          rotate_left
          · simp only [Act.put, List.setIfInBounds_toArray, List.set_cons_zero, List.set_cons_succ, i64_w, i32_w]
            rfl
          refine pure_ (i := 7) (N := some 47) (v := ?_) (a' := ?_) #[true, true, true, true, true, true, true, true] rfl rfl (any_of HT_.out (by kernel_rfl)) (fun _ _ _ h => h) (Or.inl ⟨by rfl, ?_⟩) ?_ ?_
          rotate_left
          · intro w'
            go_simp
            with_reducible rfl
          rotate_left
          · simp only [Act.put, List.setIfInBounds_toArray, List.set_cons_zero, List.set_cons_succ, i64_w, i32_w]
            rfl
          refine done_ (done_of HT_.out (by kernel_rfl)) ?_
          go_upto_if 47 with (fail)
          go_cut [11] (fun v11 wc => ∃ (kq : Nat) (x11_13 : Int), v11 = .int .i64 x11_13 ∧ Aside0 (laws_FnWindows.j0 kq ji11 t560 t562 t563 x11_13 t545 t546 t547 t555 t556 t557 = some r) ∧ Aside0 (kq ≤ k) ∧ Aside0 (Kd.R (Kd.int .i64) 3 wc w.heap.size (fun k_ => some k_ ≠ ((.slice (some ad564) t547.length co23) : Value).ownBlock ∧ some k_ ≠ ((.slice Ao32 t557.length co32) : Value).ownBlock) (.slice Ao18 t541.length co18) t541) ∧ Aside0 (Kd.R (Kd.int .i64) 3 wc w.heap.size (fun k_ => some k_ ≠ ((.slice Ao18 t541.length co18) : Value).ownBlock ∧ some k_ ≠ ((.slice Ao32 t557.length co32) : Value).ownBlock) (.slice (some ad564) t547.length co23) t547) ∧ Aside0 (Kd.R (Kd.int .i64) 3 wc w.heap.size (fun k_ => some k_ ≠ ((.slice Ao18 t541.length co18) : Value).ownBlock ∧ some k_ ≠ ((.slice (some ad564) t547.length co23) : Value).ownBlock) (.slice Ao32 t557.length co32) t557) ∧ Aside0 (wc.heap[gb544]? = some (.cells #[.int .i64 t539, .int .i64 t540, (.slice Ao18 t541.length co18)] 24 (0, 0))) ∧ Aside0 (wc.heap[gb550]? = some (.cells #[.int .i64 t545, .int .i64 t546, (.slice (some ad564) t547.length co23)] 24 (0, 0))) ∧ Aside0 (wc.heap[gb561]? = some (.cells #[.int .i64 t555, .int .i64 t556, (.slice Ao32 t557.length co32)] 24 (0, 0))) ∧ Aside0 (Below w.heap.size w wc))
          case first =>
            have H := HC14.out
            clear HC14
            by_cases c38 : (rd t547 (ji11)) = t546
            · rw [if_pos c38] at H
              have c38b0 : ((rd t547 (ji11)) == t546) = true := beq_iff_eq.mpr c38
              have c38b1 : ((rd t547 (ji11)) != t546) = false := bne_eq_false_iff_eq.mpr c38
              clear c38
              (first | rw [c38b0] | (simp only [i64_w, i32_w]; rw [c38b0]) | skip)
              have H' := Aside0.mk H
              clear H
              go_wp2
              go_meet
              case rel => exact ⟨_, (0), (by first | rfl | (simp; done) | (simp [*]; done)), H', ⟨by first | omega | exact Nat.le_refl _⟩, ⟨by (with_reducible repeat (first | apply Kd.R_alloc | apply Kd.R_drewN | apply Kd.R_drew)); exact Kd.R_mono HO543.out (fun _ hk => ⟨hk.1.1.2, hk.2⟩)⟩, ⟨by (with_reducible repeat (first | apply Kd.R_alloc | apply Kd.R_drewN | apply Kd.R_drew)); exact Kd.R_mono HO549.out (fun _ hk => ⟨hk.1.1.2, hk.2⟩)⟩, ⟨by (with_reducible repeat (first | apply Kd.R_alloc | apply Kd.R_drewN | apply Kd.R_drew)); exact Kd.R_mono HO559.out (fun _ hk => ⟨hk.1.1.2, hk.1.2⟩)⟩, ⟨by (with_reducible repeat (first | refine blk_drewN ?_ _ | refine blk_drew ?_ | refine blk_alloc ?_ _)); exact BK544.out⟩, ⟨by (with_reducible repeat (first | refine blk_drewN ?_ _ | refine blk_drew ?_ | refine blk_alloc ?_ _)); exact BK550.out⟩, ⟨by (with_reducible repeat (first | refine blk_drewN ?_ _ | refine blk_drew ?_ | refine blk_alloc ?_ _)); exact BK561.out⟩, ⟨by repeat (first | (with_reducible first | exact HB.out | apply below_alloc | apply pw_below_drewN | apply below_drew1 | refine below_set ?_ GE544.out | refine below_set ?_ GE550.out | refine below_set ?_ GE561.out) | exact HB.out)⟩⟩
            · rw [if_neg c38] at H
              have c38b0 : ((rd t547 (ji11)) == t546) = false := beq_eq_false_iff_ne.mpr c38
              have c38b1 : ((rd t547 (ji11)) != t546) = true := bne_iff_ne.mpr c38
              (first | rw [c38b0] | (simp only [i64_w, i32_w]; rw [c38b0]) | skip)
              have H' := Aside0.mk H
              clear H
              go_wp2
              go_meet
              case rel => exact ⟨_, (1), (by first | rfl | (simp; done) | (simp [*]; done)), H', ⟨by first | omega | exact Nat.le_refl _⟩, ⟨by (with_reducible repeat (first | apply Kd.R_alloc | apply Kd.R_drewN | apply Kd.R_drew)); exact Kd.R_mono HO543.out (fun _ hk => ⟨hk.1.1.2, hk.2⟩)⟩, ⟨by (with_reducible repeat (first | apply Kd.R_alloc | apply Kd.R_drewN | apply Kd.R_drew)); exact Kd.R_mono HO549.out (fun _ hk => ⟨hk.1.1.2, hk.2⟩)⟩, ⟨by (with_reducible repeat (first | apply Kd.R_alloc | apply Kd.R_drewN | apply Kd.R_drew)); exact Kd.R_mono HO559.out (fun _ hk => ⟨hk.1.1.2, hk.1.2⟩)⟩, ⟨by (with_reducible repeat (first | refine blk_drewN ?_ _ | refine blk_drew ?_ | refine blk_alloc ?_ _)); exact BK544.out⟩, ⟨by (with_reducible repeat (first | refine blk_drewN ?_ _ | refine blk_drew ?_ | refine blk_alloc ?_ _)); exact BK550.out⟩, ⟨by (with_reducible repeat (first | refine blk_drewN ?_ _ | refine blk_drew ?_ | refine blk_alloc ?_ _)); exact BK561.out⟩, ⟨by repeat (first | (with_reducible first | exact HB.out | apply below_alloc | apply pw_below_drewN | apply below_drew1 | refine below_set ?_ GE544.out | refine below_set ?_ GE550.out | refine below_set ?_ GE561.out) | exact HB.out)⟩⟩
          case rest =>
            clear HC14
            try clear c1
            try clear c2
            try clear p2
            try clear c3
            try clear p5
            try clear q5
            try clear hx5
            try clear qi5
            try clear c7
            try clear c7b0
            try clear c7b1
            try clear c9
            try clear c12
            try clear c12b0
            try clear c13
            try clear c13b0
            try clear c20
            try clear c21
            try clear c29
            try clear c30
            try clear c31
            try clear c32
            try clear c38
            try clear c38b0
            try clear c38b1
            try clear hcz17_0
            try clear hcz17_1
            try clear hcz17_2
            try clear hcz22_0
            try clear hcz22_1
            try clear hcz22_2
            try clear hcz26_0
            try clear hcz26_1
            try clear hcz26_2
            try clear hcz31_0
            try clear hcz31_1
            try clear hcz31_2
            try clear hcz33_0
            try clear hcz33_1
            try clear hcz33_2
            try clear hcz35_0
            try clear hcz35_1
            try clear hcz35_2
            try clear hfz17_0
            try clear hfz17_1
            try clear hfz17_2
            try clear hfz22_0
            try clear hfz22_1
            try clear hfz22_2
            try clear hfz26_0
            try clear hfz26_1
            try clear hfz26_2
            try clear hfz31_0
            try clear hfz31_1
            try clear hfz31_2
            try clear hfz33_0
            try clear hfz33_1
            try clear hfz33_2
            try clear hfz35_0
            try clear hfz35_1
            try clear hfz35_2
            try clear hx554_0
            try clear hx564_0
            try clear p554
            try clear p564
            try clear q554
            try clear q564
            obtain ⟨kq, x11_13, rfl, HA, HJ13, HO_545002, HO_551002, HO_562002, BK544, BK550, BK561, HB⟩ := hcut
            cases kq with
            | zero => exact absurd HA.out (by simp [laws_FnWindows.j0])
            | succ kj13 =>
              have H := HA.out
              clear HA
              simp only [laws_FnWindows.j0] at H
              replace H := Option.bind_eq_some_iff.mp H
              obtain ⟨t565, A390, H⟩ := H
              replace H : (if t560 = true then (if t563 = (wrap64 (t562 + x11_13)) then ((impl_WindowOk.f t555 t556 t557).bind fun t568 => (if t568 = true then (if (t565.length : Int) = 6 then (if 0 ≤ ji11 then (if ji11 < (t565.length : Int) then (laws_FnWindows.j1 kj13 ji11 t565 ((rd t565 ji11) != t563) t545 t546 t547 t555 t556 t557) else (none)) else (none)) else (laws_FnWindows.j1 kj13 ji11 t565 true t545 t546 t547 t555 t556 t557)) else (laws_FnWindows.j1 kj13 ji11 t565 true t545 t546 t547 t555 t556 t557))) else (laws_FnWindows.j1 kj13 ji11 t565 true t545 t546 t547 t555 t556 t557)) else (laws_FnWindows.j1 kj13 ji11 t565 true t545 t546 t547 t555 t556 t557)) = some r := H
              have A39 := Aside0.mk A390
              clear A390
              have HC40 := Aside0.mk H
              clear H
              have hnb41 := NB561_544.out
              have hnc41 := NB544_561.out
              have hnb42 := NB561_550.out
              have hnc42 := NB550_561.out
              have hcz43_0 : wc.cell? ⟨gb561, 0, none⟩ = some (.int .i64 t555) := (blk_cell BK561.out 0).trans rfl
              have hcz43_1 : wc.cell? ⟨gb561, 1, none⟩ = some (.int .i64 t556) := (blk_cell BK561.out 1).trans rfl
              have hcz43_2 : wc.cell? ⟨gb561, 2, none⟩ = some (.slice Ao32 t557.length co32) := (blk_cell BK561.out 2).trans rfl
              have hfz43_0 := blk_frozen BK561.out 0
              have hfz43_1 := blk_frozen BK561.out 1
              have hfz43_2 := blk_frozen BK561.out 2
              go_upto_region 14 with (first | ((with_reducible refine gate_callee (f := 22) rfl ?_); refine goesL_ (some 49) rfl rfl Try.func22 (by kernel_rfl) rfl #[.agg #[.int .i64 t555, .int .i64 t556, .slice Ao32 t557.length co32]] rfl (by (try simp only [List.map_toArray, List.map_cons, List.map_nil]); first | done | rfl | (simp only [List.length_drop, List.length_take]; rfl)) ?_; (with_reducible refine (impl_DemandsOf.calls kj13 t555 t556 _ _ t557 t565 _ ?side1 ?side2 A39.out).mono ?_); (case side1 => repeat (first | exact (Kd.R_reads' HO_562002.out).2.2 | (with_reducible refine Kd.C_alloc ?_ _) | (with_reducible refine Kd.C_drewN ?_ _) | (with_reducible refine Kd.C_drew ?_))); (case side2 => exact (Kd.R_reads' HO_562002.out).2.1); rintro e w44 ⟨v566, rfl, ho0, hb⟩; refine ⟨_, rfl, ?_⟩; have n0_ := Aside0.mk (Kd.R_elder' (by (with_reducible repeat (first | apply Kd.R_alloc | apply Kd.R_drewN | apply Kd.R_drew)); exact HO_545002.out) (Kd.R_base ho0) hb); have n1_ := Aside0.mk (Kd.R_elder' (by (with_reducible repeat (first | apply Kd.R_alloc | apply Kd.R_drewN | apply Kd.R_drew)); exact HO_551002.out) (Kd.R_base ho0) hb); have n2_ := Aside0.mk (Kd.R_elder' (by (with_reducible repeat (first | apply Kd.R_alloc | apply Kd.R_drewN | apply Kd.R_drew)); exact HO_562002.out) (Kd.R_base ho0) hb); have n3_ := Aside0.mk (Kd.R_lower (Kd.R_new' (Kd.R_new' (Kd.R_new' ho0 (Kd.R_lt (by (with_reducible repeat (first | apply Kd.R_alloc | apply Kd.R_drewN | apply Kd.R_drew)); exact HO_545002.out))) (Kd.R_lt (by (with_reducible repeat (first | apply Kd.R_alloc | apply Kd.R_drewN | apply Kd.R_drew)); exact HO_551002.out))) (Kd.R_lt (by (with_reducible repeat (first | apply Kd.R_alloc | apply Kd.R_drewN | apply Kd.R_drew)); exact HO_562002.out))) (below_size (by repeat (first | (with_reducible first | exact HB.out | apply below_alloc | apply pw_below_drewN | apply below_drew1 | refine below_set ?_ GE544.out | refine below_set ?_ GE550.out | refine below_set ?_ GE561.out) | exact HB.out)))); have n4_ := Aside0.mk (blk_below (g := gb544) (o := .cells #[.int .i64 t539, .int .i64 t540, .slice Ao18 t541.length co18] 24 (0, 0)) (by (with_reducible repeat (first | refine blk_drewN ?_ _ | refine blk_drew ?_ | refine blk_alloc ?_ _)); exact BK544.out) hb); have n5_ := Aside0.mk (blk_below (g := gb550) (o := .cells #[.int .i64 t545, .int .i64 t546, .slice (some ad564) t547.length co23] 24 (0, 0)) (by (with_reducible repeat (first | refine blk_drewN ?_ _ | refine blk_drew ?_ | refine blk_alloc ?_ _)); exact BK550.out) hb); have n6_ := Aside0.mk (blk_below (g := gb561) (o := .cells #[.int .i64 t555, .int .i64 t556, .slice Ao32 t557.length co32] 24 (0, 0)) (by (with_reducible repeat (first | refine blk_drewN ?_ _ | refine blk_drew ?_ | refine blk_alloc ?_ _)); exact BK561.out) hb); have n7_ := Aside0.mk (below_step (by repeat (first | (with_reducible first | exact HB.out | apply below_alloc | apply pw_below_drewN | apply below_drew1 | refine below_set ?_ GE544.out | refine below_set ?_ GE550.out | refine below_set ?_ GE561.out) | exact HB.out)) hb); clear HO_545002; clear HO_551002; clear HO_562002; clear BK544; clear BK550; clear BK561; clear HB; have HO_545002 := n0_; have HO_551002 := n1_; have HO_562002 := n2_; have HO567 := n3_; have BK544 := n4_; have BK550 := n5_; have BK561 := n6_; have HB := n7_; clear n0_ n1_ n2_ n3_ n4_ n5_ n6_ n7_; (try clear hb); (try clear hb2); (try clear hk); (try clear hi); (try clear ho0)))
              (try simp only [Act.put, List.setIfInBounds_toArray, List.set_cons_zero, List.set_cons_succ])
              go_cut [76] (fun v76 wc => ∃ (kq : Nat) (x76_39 : Bool), v76 = .bool x76_39 ∧ Aside0 (laws_FnWindows.j1 kq ji11 t565 x76_39 t545 t546 t547 t555 t556 t557 = some r) ∧ Aside0 (kq ≤ kj13) ∧ Aside0 (Kd.R (Kd.int .i64) 3 wc w.heap.size (fun k_ => some k_ ≠ ((.slice Ao18 t541.length co18) : Value).ownBlock ∧ some k_ ≠ ((.slice (some ad564) t547.length co23) : Value).ownBlock ∧ some k_ ≠ ((.slice Ao32 t557.length co32) : Value).ownBlock) v566 t565) ∧ Aside0 (Kd.R (Kd.int .i64) 3 wc w.heap.size (fun k_ => some k_ ≠ (v566 : Value).ownBlock ∧ some k_ ≠ ((.slice (some ad564) t547.length co23) : Value).ownBlock ∧ some k_ ≠ ((.slice Ao32 t557.length co32) : Value).ownBlock) (.slice Ao18 t541.length co18) t541) ∧ Aside0 (Kd.R (Kd.int .i64) 3 wc w.heap.size (fun k_ => some k_ ≠ (v566 : Value).ownBlock ∧ some k_ ≠ ((.slice Ao18 t541.length co18) : Value).ownBlock ∧ some k_ ≠ ((.slice Ao32 t557.length co32) : Value).ownBlock) (.slice (some ad564) t547.length co23) t547) ∧ Aside0 (Kd.R (Kd.int .i64) 3 wc w.heap.size (fun k_ => some k_ ≠ (v566 : Value).ownBlock ∧ some k_ ≠ ((.slice Ao18 t541.length co18) : Value).ownBlock ∧ some k_ ≠ ((.slice (some ad564) t547.length co23) : Value).ownBlock) (.slice Ao32 t557.length co32) t557) ∧ Aside0 (wc.heap[gb544]? = some (.cells #[.int .i64 t539, .int .i64 t540, (.slice Ao18 t541.length co18)] 24 (0, 0))) ∧ Aside0 (wc.heap[gb550]? = some (.cells #[.int .i64 t545, .int .i64 t546, (.slice (some ad564) t547.length co23)] 24 (0, 0))) ∧ Aside0 (wc.heap[gb561]? = some (.cells #[.int .i64 t555, .int .i64 t556, (.slice Ao32 t557.length co32)] 24 (0, 0))) ∧ Aside0 (Below w.heap.size w wc))
              case first =>
                have H := HC40.out
                clear HC40
                by_cases c45 : t560 = true
                · subst c45
                  have H1 : (if t563 = (wrap64 (t562 + x11_13)) then ((impl_WindowOk.f t555 t556 t557).bind fun t568 => (if t568 = true then (if (t565.length : Int) = 6 then (if 0 ≤ ji11 then (if ji11 < (t565.length : Int) then (laws_FnWindows.j1 kj13 ji11 t565 ((rd t565 ji11) != t563) t545 t546 t547 t555 t556 t557) else (none)) else (none)) else (laws_FnWindows.j1 kj13 ji11 t565 true t545 t546 t547 t555 t556 t557)) else (laws_FnWindows.j1 kj13 ji11 t565 true t545 t546 t547 t555 t556 t557))) else (laws_FnWindows.j1 kj13 ji11 t565 true t545 t546 t547 t555 t556 t557)) = some r := by rw [if_pos rfl] at H; exact H
                  clear H
                  have H := H1
                  clear H1
                  by_cases c46 : t563 = (wrap64 (t562 + x11_13))
                  · rw [if_pos c46] at H
                    have c46b0 : (t563 == (wrap64 (t562 + x11_13))) = true := beq_iff_eq.mpr c46
                    have c46b1 : (t563 != (wrap64 (t562 + x11_13))) = false := bne_eq_false_iff_eq.mpr c46
                    clear c46
                    (first | rw [c46b0] | (simp only [i64_w, i32_w]; rw [c46b0]) | skip)
                    replace H := Option.bind_eq_some_iff.mp H
                    obtain ⟨t568, A470, H⟩ := H
                    replace H : (if t568 = true then (if (t565.length : Int) = 6 then (if 0 ≤ ji11 then (if ji11 < (t565.length : Int) then (laws_FnWindows.j1 kj13 ji11 t565 ((rd t565 ji11) != t563) t545 t546 t547 t555 t556 t557) else (none)) else (none)) else (laws_FnWindows.j1 kj13 ji11 t565 true t545 t546 t547 t555 t556 t557)) else (laws_FnWindows.j1 kj13 ji11 t565 true t545 t546 t547 t555 t556 t557)) = some r := H
                    have A47 := Aside0.mk A470
                    clear A470
                    by_cases c48 : t568 = true
                    · subst c48
                      have H1 : (if (t565.length : Int) = 6 then (if 0 ≤ ji11 then (if ji11 < (t565.length : Int) then (laws_FnWindows.j1 kj13 ji11 t565 ((rd t565 ji11) != t563) t545 t546 t547 t555 t556 t557) else (none)) else (none)) else (laws_FnWindows.j1 kj13 ji11 t565 true t545 t546 t547 t555 t556 t557)) = some r := by rw [if_pos rfl] at H; exact H
                      clear H
                      have H := H1
                      clear H1
                      by_cases c49 : (t565.length : Int) = 6
                      · rw [if_pos c49] at H
                        have c49b0 : ((t565.length : Int) == 6) = true := beq_iff_eq.mpr c49
                        have c49b1 : ((t565.length : Int) != 6) = false := bne_eq_false_iff_eq.mpr c49
                        clear c49
                        by_cases c50 : 0 ≤ ji11
                        · rw [if_pos c50] at H
                          have c50b0 : decide (0 ≤ ji11) = true := decide_eq_true c50
                          clear c50
                          by_cases c51 : ji11 < (t565.length : Int)
                          · rw [if_pos c51] at H
                            have c51b0 : decide (ji11 < (t565.length : Int)) = true := decide_eq_true c51
                            clear c51
                            have H' := Aside0.mk H
                            clear H
                            have hnb52 := NB561_544.out
                            have hnc52 := NB544_561.out
                            have hnb53 := NB561_550.out
                            have hnc53 := NB550_561.out
                            have hcz54_0 : w44.cell? ⟨gb561, 0, none⟩ = some (.int .i64 t555) := (blk_cell BK561.out 0).trans rfl
                            have hcz54_1 : w44.cell? ⟨gb561, 1, none⟩ = some (.int .i64 t556) := (blk_cell BK561.out 1).trans rfl
                            have hcz54_2 : w44.cell? ⟨gb561, 2, none⟩ = some (.slice Ao32 t557.length co32) := (blk_cell BK561.out 2).trans rfl
                            have hfz54_0 := blk_frozen BK561.out 0
                            have hfz54_1 := blk_frozen BK561.out 1
                            have hfz54_2 := blk_frozen BK561.out 2
                            go_wp2_with (first | (go_at_call 18; (with_reducible refine (impl_WindowOk.calls t555 t556 _ _ t557 true _ ?side1 ?side2 A47.out).mono ?_); (case side1 => repeat (first | exact (Kd.R_reads' HO_562002.out).2.2 | (with_reducible refine Kd.C_alloc ?_ _) | (with_reducible refine Kd.C_drewN ?_ _) | (with_reducible refine Kd.C_drew ?_))); (case side2 => exact (Kd.R_reads' HO_562002.out).2.1); rintro e w55 ⟨rfl, hb⟩; have n0_ := Aside0.mk (Kd.R_below (by (with_reducible repeat (first | apply Kd.R_alloc | apply Kd.R_drewN | apply Kd.R_drew)); exact HO_545002.out) hb); have n1_ := Aside0.mk (Kd.R_below (by (with_reducible repeat (first | apply Kd.R_alloc | apply Kd.R_drewN | apply Kd.R_drew)); exact HO_551002.out) hb); have n2_ := Aside0.mk (Kd.R_below (by (with_reducible repeat (first | apply Kd.R_alloc | apply Kd.R_drewN | apply Kd.R_drew)); exact HO_562002.out) hb); have n3_ := Aside0.mk (Kd.R_below (by (with_reducible repeat (first | apply Kd.R_alloc | apply Kd.R_drewN | apply Kd.R_drew)); exact HO567.out) hb); have n4_ := Aside0.mk (blk_below (g := gb544) (o := .cells #[.int .i64 t539, .int .i64 t540, .slice Ao18 t541.length co18] 24 (0, 0)) (by (with_reducible repeat (first | refine blk_drewN ?_ _ | refine blk_drew ?_ | refine blk_alloc ?_ _)); exact BK544.out) hb); have n5_ := Aside0.mk (blk_below (g := gb550) (o := .cells #[.int .i64 t545, .int .i64 t546, .slice (some ad564) t547.length co23] 24 (0, 0)) (by (with_reducible repeat (first | refine blk_drewN ?_ _ | refine blk_drew ?_ | refine blk_alloc ?_ _)); exact BK550.out) hb); have n6_ := Aside0.mk (blk_below (g := gb561) (o := .cells #[.int .i64 t555, .int .i64 t556, .slice Ao32 t557.length co32] 24 (0, 0)) (by (with_reducible repeat (first | refine blk_drewN ?_ _ | refine blk_drew ?_ | refine blk_alloc ?_ _)); exact BK561.out) hb); have n7_ := Aside0.mk (below_step (by repeat (first | (with_reducible first | exact HB.out | apply below_alloc | apply pw_below_drewN | apply below_drew1 | refine below_set ?_ GE544.out | refine below_set ?_ GE550.out | refine below_set ?_ GE561.out) | exact HB.out)) hb); clear HO_545002; clear HO_551002; clear HO_562002; clear HO567; clear BK544; clear BK550; clear BK561; clear HB; have HO_545002 := n0_; have HO_551002 := n1_; have HO_562002 := n2_; have HO567 := n3_; have BK544 := n4_; have BK550 := n5_; have BK561 := n6_; have HB := n7_; clear n0_ n1_ n2_ n3_ n4_ n5_ n6_ n7_; (try clear hb); (try clear hb2); (try clear hk); (try clear hi); obtain ⟨Ao56, co56, eo56⟩ := Kd.R_slice HO567.out; subst eo56; have p569 : 0 ≤ (ji11 : Int) := of_decide_eq_true (by first | (with_reducible assumption) | assumption); have q569 : ji11 < (t565.length : Int) := of_decide_eq_true (by first | (with_reducible assumption) | assumption); obtain ⟨ad569, e569, hx569_0⟩ := Kd.at_int (Kd.R_reads' HO567.out).2.2 ji11 p569 q569; cases e569; replace p569 := eq_true p569; replace q569 := eq_true q569))
                            go_meet
                            case rel => exact ⟨_, (((rd t565 ji11) != t563)), (by first | rfl | (simp; done) | (simp only [← hji11] <;> (first | rfl | simp)) | (simp [*]; done)), H', ⟨by have := HJ13.out; first | omega | exact Nat.le_refl _⟩, ⟨by (with_reducible repeat (first | apply Kd.R_alloc | apply Kd.R_drewN | apply Kd.R_drew)); exact Kd.R_mono HO567.out (fun _ hk => ⟨hk.1.1.2, ⟨hk.1.2, hk.2⟩⟩)⟩, ⟨by (with_reducible repeat (first | apply Kd.R_alloc | apply Kd.R_drewN | apply Kd.R_drew)); exact Kd.R_mono HO_545002.out (fun _ hk => ⟨hk.2, ⟨hk.1.1, hk.1.2⟩⟩)⟩, ⟨by (with_reducible repeat (first | apply Kd.R_alloc | apply Kd.R_drewN | apply Kd.R_drew)); exact Kd.R_mono HO_551002.out (fun _ hk => ⟨hk.2, ⟨hk.1.1, hk.1.2⟩⟩)⟩, ⟨by (with_reducible repeat (first | apply Kd.R_alloc | apply Kd.R_drewN | apply Kd.R_drew)); exact Kd.R_mono HO_562002.out (fun _ hk => ⟨hk.2, ⟨hk.1.1, hk.1.2⟩⟩)⟩, ⟨by (with_reducible repeat (first | refine blk_drewN ?_ _ | refine blk_drew ?_ | refine blk_alloc ?_ _)); exact BK544.out⟩, ⟨by (with_reducible repeat (first | refine blk_drewN ?_ _ | refine blk_drew ?_ | refine blk_alloc ?_ _)); exact BK550.out⟩, ⟨by (with_reducible repeat (first | refine blk_drewN ?_ _ | refine blk_drew ?_ | refine blk_alloc ?_ _)); exact BK561.out⟩, ⟨by repeat (first | (with_reducible first | exact HB.out | apply below_alloc | apply pw_below_drewN | apply below_drew1 | refine below_set ?_ GE544.out | refine below_set ?_ GE550.out | refine below_set ?_ GE561.out) | exact HB.out)⟩⟩
                          · rw [if_neg c51] at H
                            exact absurd H (by simp)
                        · rw [if_neg c50] at H
                          exact absurd H (by simp)
                      · rw [if_neg c49] at H
                        have c49b0 : ((t565.length : Int) == 6) = false := beq_eq_false_iff_ne.mpr c49
                        have c49b1 : ((t565.length : Int) != 6) = true := bne_iff_ne.mpr c49
                        have H' := Aside0.mk H
                        clear H
                        have hnb57 := NB561_544.out
                        have hnc57 := NB544_561.out
                        have hnb58 := NB561_550.out
                        have hnc58 := NB550_561.out
                        have hcz59_0 : w44.cell? ⟨gb561, 0, none⟩ = some (.int .i64 t555) := (blk_cell BK561.out 0).trans rfl
                        have hcz59_1 : w44.cell? ⟨gb561, 1, none⟩ = some (.int .i64 t556) := (blk_cell BK561.out 1).trans rfl
                        have hcz59_2 : w44.cell? ⟨gb561, 2, none⟩ = some (.slice Ao32 t557.length co32) := (blk_cell BK561.out 2).trans rfl
                        have hfz59_0 := blk_frozen BK561.out 0
                        have hfz59_1 := blk_frozen BK561.out 1
                        have hfz59_2 := blk_frozen BK561.out 2
                        go_wp2_with (first | (go_at_call 18; (with_reducible refine (impl_WindowOk.calls t555 t556 _ _ t557 true _ ?side1 ?side2 A47.out).mono ?_); (case side1 => repeat (first | exact (Kd.R_reads' HO_562002.out).2.2 | (with_reducible refine Kd.C_alloc ?_ _) | (with_reducible refine Kd.C_drewN ?_ _) | (with_reducible refine Kd.C_drew ?_))); (case side2 => exact (Kd.R_reads' HO_562002.out).2.1); rintro e w60 ⟨rfl, hb⟩; have n0_ := Aside0.mk (Kd.R_below (by (with_reducible repeat (first | apply Kd.R_alloc | apply Kd.R_drewN | apply Kd.R_drew)); exact HO_545002.out) hb); have n1_ := Aside0.mk (Kd.R_below (by (with_reducible repeat (first | apply Kd.R_alloc | apply Kd.R_drewN | apply Kd.R_drew)); exact HO_551002.out) hb); have n2_ := Aside0.mk (Kd.R_below (by (with_reducible repeat (first | apply Kd.R_alloc | apply Kd.R_drewN | apply Kd.R_drew)); exact HO_562002.out) hb); have n3_ := Aside0.mk (Kd.R_below (by (with_reducible repeat (first | apply Kd.R_alloc | apply Kd.R_drewN | apply Kd.R_drew)); exact HO567.out) hb); have n4_ := Aside0.mk (blk_below (g := gb544) (o := .cells #[.int .i64 t539, .int .i64 t540, .slice Ao18 t541.length co18] 24 (0, 0)) (by (with_reducible repeat (first | refine blk_drewN ?_ _ | refine blk_drew ?_ | refine blk_alloc ?_ _)); exact BK544.out) hb); have n5_ := Aside0.mk (blk_below (g := gb550) (o := .cells #[.int .i64 t545, .int .i64 t546, .slice (some ad564) t547.length co23] 24 (0, 0)) (by (with_reducible repeat (first | refine blk_drewN ?_ _ | refine blk_drew ?_ | refine blk_alloc ?_ _)); exact BK550.out) hb); have n6_ := Aside0.mk (blk_below (g := gb561) (o := .cells #[.int .i64 t555, .int .i64 t556, .slice Ao32 t557.length co32] 24 (0, 0)) (by (with_reducible repeat (first | refine blk_drewN ?_ _ | refine blk_drew ?_ | refine blk_alloc ?_ _)); exact BK561.out) hb); have n7_ := Aside0.mk (below_step (by repeat (first | (with_reducible first | exact HB.out | apply below_alloc | apply pw_below_drewN | apply below_drew1 | refine below_set ?_ GE544.out | refine below_set ?_ GE550.out | refine below_set ?_ GE561.out) | exact HB.out)) hb); clear HO_545002; clear HO_551002; clear HO_562002; clear HO567; clear BK544; clear BK550; clear BK561; clear HB; have HO_545002 := n0_; have HO_551002 := n1_; have HO_562002 := n2_; have HO567 := n3_; have BK544 := n4_; have BK550 := n5_; have BK561 := n6_; have HB := n7_; clear n0_ n1_ n2_ n3_ n4_ n5_ n6_ n7_; (try clear hb); (try clear hb2); (try clear hk); (try clear hi); obtain ⟨Ao61, co61, eo61⟩ := Kd.R_slice HO567.out; subst eo61))
                        go_meet
                        case rel => exact ⟨_, (true), (by first | rfl | (simp; done) | (simp [*]; done)), H', ⟨by have := HJ13.out; first | omega | exact Nat.le_refl _⟩, ⟨by (with_reducible repeat (first | apply Kd.R_alloc | apply Kd.R_drewN | apply Kd.R_drew)); exact Kd.R_mono HO567.out (fun _ hk => ⟨hk.1.1.2, ⟨hk.1.2, hk.2⟩⟩)⟩, ⟨by (with_reducible repeat (first | apply Kd.R_alloc | apply Kd.R_drewN | apply Kd.R_drew)); exact Kd.R_mono HO_545002.out (fun _ hk => ⟨hk.2, ⟨hk.1.1, hk.1.2⟩⟩)⟩, ⟨by (with_reducible repeat (first | apply Kd.R_alloc | apply Kd.R_drewN | apply Kd.R_drew)); exact Kd.R_mono HO_551002.out (fun _ hk => ⟨hk.2, ⟨hk.1.1, hk.1.2⟩⟩)⟩, ⟨by (with_reducible repeat (first | apply Kd.R_alloc | apply Kd.R_drewN | apply Kd.R_drew)); exact Kd.R_mono HO_562002.out (fun _ hk => ⟨hk.2, ⟨hk.1.1, hk.1.2⟩⟩)⟩, ⟨by (with_reducible repeat (first | refine blk_drewN ?_ _ | refine blk_drew ?_ | refine blk_alloc ?_ _)); exact BK544.out⟩, ⟨by (with_reducible repeat (first | refine blk_drewN ?_ _ | refine blk_drew ?_ | refine blk_alloc ?_ _)); exact BK550.out⟩, ⟨by (with_reducible repeat (first | refine blk_drewN ?_ _ | refine blk_drew ?_ | refine blk_alloc ?_ _)); exact BK561.out⟩, ⟨by repeat (first | (with_reducible first | exact HB.out | apply below_alloc | apply pw_below_drewN | apply below_drew1 | refine below_set ?_ GE544.out | refine below_set ?_ GE550.out | refine below_set ?_ GE561.out) | exact HB.out)⟩⟩
                    · replace c48 := Bool.eq_false_iff.mpr c48
                      subst c48
                      have H1 : (laws_FnWindows.j1 kj13 ji11 t565 true t545 t546 t547 t555 t556 t557) = some r := by rw [if_neg (show ¬ (false = true) by decide)] at H; exact H
                      clear H
                      have H := H1
                      clear H1
                      have H' := Aside0.mk H
                      clear H
                      have hnb62 := NB561_544.out
                      have hnc62 := NB544_561.out
                      have hnb63 := NB561_550.out
                      have hnc63 := NB550_561.out
                      have hcz64_0 : w44.cell? ⟨gb561, 0, none⟩ = some (.int .i64 t555) := (blk_cell BK561.out 0).trans rfl
                      have hcz64_1 : w44.cell? ⟨gb561, 1, none⟩ = some (.int .i64 t556) := (blk_cell BK561.out 1).trans rfl
                      have hcz64_2 : w44.cell? ⟨gb561, 2, none⟩ = some (.slice Ao32 t557.length co32) := (blk_cell BK561.out 2).trans rfl
                      have hfz64_0 := blk_frozen BK561.out 0
                      have hfz64_1 := blk_frozen BK561.out 1
                      have hfz64_2 := blk_frozen BK561.out 2
                      go_wp2_with (first | (go_at_call 18; (with_reducible refine (impl_WindowOk.calls t555 t556 _ _ t557 false _ ?side1 ?side2 A47.out).mono ?_); (case side1 => repeat (first | exact (Kd.R_reads' HO_562002.out).2.2 | (with_reducible refine Kd.C_alloc ?_ _) | (with_reducible refine Kd.C_drewN ?_ _) | (with_reducible refine Kd.C_drew ?_))); (case side2 => exact (Kd.R_reads' HO_562002.out).2.1); rintro e w65 ⟨rfl, hb⟩; have n0_ := Aside0.mk (Kd.R_below (by (with_reducible repeat (first | apply Kd.R_alloc | apply Kd.R_drewN | apply Kd.R_drew)); exact HO_545002.out) hb); have n1_ := Aside0.mk (Kd.R_below (by (with_reducible repeat (first | apply Kd.R_alloc | apply Kd.R_drewN | apply Kd.R_drew)); exact HO_551002.out) hb); have n2_ := Aside0.mk (Kd.R_below (by (with_reducible repeat (first | apply Kd.R_alloc | apply Kd.R_drewN | apply Kd.R_drew)); exact HO_562002.out) hb); have n3_ := Aside0.mk (Kd.R_below (by (with_reducible repeat (first | apply Kd.R_alloc | apply Kd.R_drewN | apply Kd.R_drew)); exact HO567.out) hb); have n4_ := Aside0.mk (blk_below (g := gb544) (o := .cells #[.int .i64 t539, .int .i64 t540, .slice Ao18 t541.length co18] 24 (0, 0)) (by (with_reducible repeat (first | refine blk_drewN ?_ _ | refine blk_drew ?_ | refine blk_alloc ?_ _)); exact BK544.out) hb); have n5_ := Aside0.mk (blk_below (g := gb550) (o := .cells #[.int .i64 t545, .int .i64 t546, .slice (some ad564) t547.length co23] 24 (0, 0)) (by (with_reducible repeat (first | refine blk_drewN ?_ _ | refine blk_drew ?_ | refine blk_alloc ?_ _)); exact BK550.out) hb); have n6_ := Aside0.mk (blk_below (g := gb561) (o := .cells #[.int .i64 t555, .int .i64 t556, .slice Ao32 t557.length co32] 24 (0, 0)) (by (with_reducible repeat (first | refine blk_drewN ?_ _ | refine blk_drew ?_ | refine blk_alloc ?_ _)); exact BK561.out) hb); have n7_ := Aside0.mk (below_step (by repeat (first | (with_reducible first | exact HB.out | apply below_alloc | apply pw_below_drewN | apply below_drew1 | refine below_set ?_ GE544.out | refine below_set ?_ GE550.out | refine below_set ?_ GE561.out) | exact HB.out)) hb); clear HO_545002; clear HO_551002; clear HO_562002; clear HO567; clear BK544; clear BK550; clear BK561; clear HB; have HO_545002 := n0_; have HO_551002 := n1_; have HO_562002 := n2_; have HO567 := n3_; have BK544 := n4_; have BK550 := n5_; have BK561 := n6_; have HB := n7_; clear n0_ n1_ n2_ n3_ n4_ n5_ n6_ n7_; (try clear hb); (try clear hb2); (try clear hk); (try clear hi)))
                      go_meet
                      case rel => exact ⟨_, (true), (by first | rfl | (simp; done) | (simp [*]; done)), H', ⟨by have := HJ13.out; first | omega | exact Nat.le_refl _⟩, ⟨by (with_reducible repeat (first | apply Kd.R_alloc | apply Kd.R_drewN | apply Kd.R_drew)); exact Kd.R_mono HO567.out (fun _ hk => ⟨hk.1.1.2, ⟨hk.1.2, hk.2⟩⟩)⟩, ⟨by (with_reducible repeat (first | apply Kd.R_alloc | apply Kd.R_drewN | apply Kd.R_drew)); exact Kd.R_mono HO_545002.out (fun _ hk => ⟨hk.2, ⟨hk.1.1, hk.1.2⟩⟩)⟩, ⟨by (with_reducible repeat (first | apply Kd.R_alloc | apply Kd.R_drewN | apply Kd.R_drew)); exact Kd.R_mono HO_551002.out (fun _ hk => ⟨hk.2, ⟨hk.1.1, hk.1.2⟩⟩)⟩, ⟨by (with_reducible repeat (first | apply Kd.R_alloc | apply Kd.R_drewN | apply Kd.R_drew)); exact Kd.R_mono HO_562002.out (fun _ hk => ⟨hk.2, ⟨hk.1.1, hk.1.2⟩⟩)⟩, ⟨by (with_reducible repeat (first | refine blk_drewN ?_ _ | refine blk_drew ?_ | refine blk_alloc ?_ _)); exact BK544.out⟩, ⟨by (with_reducible repeat (first | refine blk_drewN ?_ _ | refine blk_drew ?_ | refine blk_alloc ?_ _)); exact BK550.out⟩, ⟨by (with_reducible repeat (first | refine blk_drewN ?_ _ | refine blk_drew ?_ | refine blk_alloc ?_ _)); exact BK561.out⟩, ⟨by repeat (first | (with_reducible first | exact HB.out | apply below_alloc | apply pw_below_drewN | apply below_drew1 | refine below_set ?_ GE544.out | refine below_set ?_ GE550.out | refine below_set ?_ GE561.out) | exact HB.out)⟩⟩
                  · rw [if_neg c46] at H
                    have c46b0 : (t563 == (wrap64 (t562 + x11_13))) = false := beq_eq_false_iff_ne.mpr c46
                    have c46b1 : (t563 != (wrap64 (t562 + x11_13))) = true := bne_iff_ne.mpr c46
                    (first | rw [c46b0] | (simp only [i64_w, i32_w]; rw [c46b0]) | skip)
                    have H' := Aside0.mk H
                    clear H
                    go_wp2
                    go_meet
                    case rel => exact ⟨_, (true), (by first | rfl | (simp; done) | (simp [*]; done)), H', ⟨by have := HJ13.out; first | omega | exact Nat.le_refl _⟩, ⟨by (with_reducible repeat (first | apply Kd.R_alloc | apply Kd.R_drewN | apply Kd.R_drew)); exact Kd.R_mono HO567.out (fun _ hk => ⟨hk.1.1.2, ⟨hk.1.2, hk.2⟩⟩)⟩, ⟨by (with_reducible repeat (first | apply Kd.R_alloc | apply Kd.R_drewN | apply Kd.R_drew)); exact Kd.R_mono HO_545002.out (fun _ hk => ⟨hk.2, ⟨hk.1.1, hk.1.2⟩⟩)⟩, ⟨by (with_reducible repeat (first | apply Kd.R_alloc | apply Kd.R_drewN | apply Kd.R_drew)); exact Kd.R_mono HO_551002.out (fun _ hk => ⟨hk.2, ⟨hk.1.1, hk.1.2⟩⟩)⟩, ⟨by (with_reducible repeat (first | apply Kd.R_alloc | apply Kd.R_drewN | apply Kd.R_drew)); exact Kd.R_mono HO_562002.out (fun _ hk => ⟨hk.2, ⟨hk.1.1, hk.1.2⟩⟩)⟩, ⟨by (with_reducible repeat (first | refine blk_drewN ?_ _ | refine blk_drew ?_ | refine blk_alloc ?_ _)); exact BK544.out⟩, ⟨by (with_reducible repeat (first | refine blk_drewN ?_ _ | refine blk_drew ?_ | refine blk_alloc ?_ _)); exact BK550.out⟩, ⟨by (with_reducible repeat (first | refine blk_drewN ?_ _ | refine blk_drew ?_ | refine blk_alloc ?_ _)); exact BK561.out⟩, ⟨by repeat (first | (with_reducible first | exact HB.out | apply below_alloc | apply pw_below_drewN | apply below_drew1 | refine below_set ?_ GE544.out | refine below_set ?_ GE550.out | refine below_set ?_ GE561.out) | exact HB.out)⟩⟩
                · replace c45 := Bool.eq_false_iff.mpr c45
                  subst c45
                  have H1 : (laws_FnWindows.j1 kj13 ji11 t565 true t545 t546 t547 t555 t556 t557) = some r := by rw [if_neg (show ¬ (false = true) by decide)] at H; exact H
                  clear H
                  have H := H1
                  clear H1
                  have H' := Aside0.mk H
                  clear H
                  go_wp2
                  go_meet
                  case rel => exact ⟨_, (true), (by first | rfl | (simp; done) | (simp [*]; done)), H', ⟨by have := HJ13.out; first | omega | exact Nat.le_refl _⟩, ⟨by (with_reducible repeat (first | apply Kd.R_alloc | apply Kd.R_drewN | apply Kd.R_drew)); exact Kd.R_mono HO567.out (fun _ hk => ⟨hk.1.1.2, ⟨hk.1.2, hk.2⟩⟩)⟩, ⟨by (with_reducible repeat (first | apply Kd.R_alloc | apply Kd.R_drewN | apply Kd.R_drew)); exact Kd.R_mono HO_545002.out (fun _ hk => ⟨hk.2, ⟨hk.1.1, hk.1.2⟩⟩)⟩, ⟨by (with_reducible repeat (first | apply Kd.R_alloc | apply Kd.R_drewN | apply Kd.R_drew)); exact Kd.R_mono HO_551002.out (fun _ hk => ⟨hk.2, ⟨hk.1.1, hk.1.2⟩⟩)⟩, ⟨by (with_reducible repeat (first | apply Kd.R_alloc | apply Kd.R_drewN | apply Kd.R_drew)); exact Kd.R_mono HO_562002.out (fun _ hk => ⟨hk.2, ⟨hk.1.1, hk.1.2⟩⟩)⟩, ⟨by (with_reducible repeat (first | refine blk_drewN ?_ _ | refine blk_drew ?_ | refine blk_alloc ?_ _)); exact BK544.out⟩, ⟨by (with_reducible repeat (first | refine blk_drewN ?_ _ | refine blk_drew ?_ | refine blk_alloc ?_ _)); exact BK550.out⟩, ⟨by (with_reducible repeat (first | refine blk_drewN ?_ _ | refine blk_drew ?_ | refine blk_alloc ?_ _)); exact BK561.out⟩, ⟨by repeat (first | (with_reducible first | exact HB.out | apply below_alloc | apply pw_below_drewN | apply below_drew1 | refine below_set ?_ GE544.out | refine below_set ?_ GE550.out | refine below_set ?_ GE561.out) | exact HB.out)⟩⟩
              case rest =>
                clear HC40
                try clear c1
                try clear c2
                try clear p2
                try clear c3
                try clear c4
                try clear c5
                try clear p5
                try clear q5
                try clear hx5
                try clear qi5
                try clear c6
                try clear p6
                try clear c7
                try clear c7b0
                try clear c7b1
                try clear c9
                try clear c12
                try clear c12b0
                try clear c13
                try clear c13b0
                try clear c20
                try clear c21
                try clear c22
                try clear c29
                try clear c30
                try clear c31
                try clear c32
                try clear c38
                try clear c38b0
                try clear c38b1
                try clear c41
                try clear c42
                try clear c45
                try clear c46
                try clear c46b0
                try clear c46b1
                try clear c48
                try clear c49
                try clear c49b0
                try clear c49b1
                try clear c50
                try clear c50b0
                try clear c51
                try clear c51b0
                try clear c52
                try clear c53
                try clear p55
                try clear q55
                try clear hx55
                try clear qi55
                try clear p56
                try clear q56
                try clear hx56
                try clear c57
                try clear c58
                try clear c62
                try clear c63
                try clear p64
                try clear hcz17_0
                try clear hcz17_1
                try clear hcz17_2
                try clear hcz22_0
                try clear hcz22_1
                try clear hcz22_2
                try clear hcz26_0
                try clear hcz26_1
                try clear hcz26_2
                try clear hcz31_0
                try clear hcz31_1
                try clear hcz31_2
                try clear hcz33_0
                try clear hcz33_1
                try clear hcz33_2
                try clear hcz35_0
                try clear hcz35_1
                try clear hcz35_2
                try clear hcz43_0
                try clear hcz43_1
                try clear hcz43_2
                try clear hcz54_0
                try clear hcz54_1
                try clear hcz54_2
                try clear hcz59_0
                try clear hcz59_1
                try clear hcz59_2
                try clear hcz64_0
                try clear hcz64_1
                try clear hcz64_2
                try clear hfz17_0
                try clear hfz17_1
                try clear hfz17_2
                try clear hfz22_0
                try clear hfz22_1
                try clear hfz22_2
                try clear hfz26_0
                try clear hfz26_1
                try clear hfz26_2
                try clear hfz31_0
                try clear hfz31_1
                try clear hfz31_2
                try clear hfz33_0
                try clear hfz33_1
                try clear hfz33_2
                try clear hfz35_0
                try clear hfz35_1
                try clear hfz35_2
                try clear hfz43_0
                try clear hfz43_1
                try clear hfz43_2
                try clear hfz54_0
                try clear hfz54_1
                try clear hfz54_2
                try clear hfz59_0
                try clear hfz59_1
                try clear hfz59_2
                try clear hfz64_0
                try clear hfz64_1
                try clear hfz64_2
                try clear hx554_0
                try clear hx564_0
                try clear hx569_0
                try clear p2
                try clear p5
                try clear p554
                try clear p564
                try clear p569
                try clear q5
                try clear q554
                try clear q564
                try clear q569
                obtain ⟨kq, x76_39, rfl, HA, HJ39, HO_12, HO_545002, HO_551002, HO_562002, BK544, BK550, BK561, HB⟩ := hcut
                cases kq with
                | zero => exact absurd HA.out (by simp [laws_FnWindows.j1])
                | succ kj39 =>
                  have H := HA.out
                  clear HA
                  simp only [laws_FnWindows.j1] at H
                  by_cases c66 : x76_39 = true
                  · subst c66
                    have H1 : (some false) = some r := by rw [if_pos rfl] at H; exact H
                    clear H
                    have H := H1
                    clear H1
                    exact absurd hr_ (by rw [← Option.some.inj H]; decide)
                  · replace c66 := Bool.eq_false_iff.mpr c66
                    subst c66
                    have H1 : (laws_FnWindows.l0 kj39 ji11 t565 0 t545 t546 t547 t555 t556 t557) = some r := by rw [if_neg (show ¬ (false = true) by decide)] at H; exact H
                    clear H
                    have H := H1
                    clear H1
                    have H' := Aside0.mk H
                    clear H
                    go_wp2
                    go_loopg [13] kj39 (fun kq v13 w' => ∃ (x13_3 : Int) (x562000_3 : Int) (x562001_3 : Int) (x562002_3 : List Int) (u562002 : Value), v13 = .int .i64 x13_3 ∧ Aside0 (laws_FnWindows.l0 kq ji11 t565 x13_3 t545 t546 t547 x562000_3 x562001_3 x562002_3 = some r) ∧ Aside0 (kq ≤ kj39) ∧ Aside0 (Kd.R (Kd.int .i64) 3 w' w.heap.size (fun k_ => some k_ ≠ ((.slice Ao18 t541.length co18) : Value).ownBlock ∧ some k_ ≠ ((.slice (some ad564) t547.length co23) : Value).ownBlock ∧ some k_ ≠ (u562002 : Value).ownBlock) v566 t565) ∧ Aside0 (Kd.R (Kd.int .i64) 3 w' w.heap.size (fun k_ => some k_ ≠ (v566 : Value).ownBlock ∧ some k_ ≠ ((.slice (some ad564) t547.length co23) : Value).ownBlock ∧ some k_ ≠ (u562002 : Value).ownBlock) (.slice Ao18 t541.length co18) t541) ∧ Aside0 (Kd.R (Kd.int .i64) 3 w' w.heap.size (fun k_ => some k_ ≠ (v566 : Value).ownBlock ∧ some k_ ≠ ((.slice Ao18 t541.length co18) : Value).ownBlock ∧ some k_ ≠ (u562002 : Value).ownBlock) (.slice (some ad564) t547.length co23) t547) ∧ Aside0 (Kd.R (Kd.int .i64) 3 w' w.heap.size (fun k_ => some k_ ≠ (v566 : Value).ownBlock ∧ some k_ ≠ ((.slice Ao18 t541.length co18) : Value).ownBlock ∧ some k_ ≠ ((.slice (some ad564) t547.length co23) : Value).ownBlock) u562002 x562002_3) ∧ Aside0 (w'.heap[gb544]? = some (.cells #[.int .i64 t539, .int .i64 t540, (.slice Ao18 t541.length co18)] 24 (0, 0))) ∧ Aside0 (w'.heap[gb550]? = some (.cells #[.int .i64 t545, .int .i64 t546, (.slice (some ad564) t547.length co23)] 24 (0, 0))) ∧ Aside0 (w'.heap[gb561]? = some (.cells #[.int .i64 x562000_3, .int .i64 x562001_3, u562002] 24 (0, 0))) ∧ Aside0 (Below w.heap.size w w'))
                    case atStart => exact ⟨(0), (t555), (t556), (t557), (.slice Ao32 t557.length co32), (by first | rfl | (simp; done) | (simp [*]; done)), H', ⟨Nat.le_refl _⟩, ⟨by (with_reducible repeat (first | apply Kd.R_alloc | apply Kd.R_drewN | apply Kd.R_drew)); exact HO_12.out⟩, ⟨by (with_reducible repeat (first | apply Kd.R_alloc | apply Kd.R_drewN | apply Kd.R_drew)); exact HO_545002.out⟩, ⟨by (with_reducible repeat (first | apply Kd.R_alloc | apply Kd.R_drewN | apply Kd.R_drew)); exact HO_551002.out⟩, ⟨by (with_reducible repeat (first | apply Kd.R_alloc | apply Kd.R_drewN | apply Kd.R_drew)); exact HO_562002.out⟩, ⟨by (with_reducible repeat (first | refine blk_drewN ?_ _ | refine blk_drew ?_ | refine blk_alloc ?_ _)); exact BK544.out⟩, ⟨by (with_reducible repeat (first | refine blk_drewN ?_ _ | refine blk_drew ?_ | refine blk_alloc ?_ _)); exact BK550.out⟩, ⟨by (with_reducible repeat (first | refine blk_drewN ?_ _ | refine blk_drew ?_ | refine blk_alloc ?_ _)); exact BK561.out⟩, ⟨by repeat (first | (with_reducible first | exact HB.out | apply below_alloc | apply pw_below_drewN | apply below_drew1 | refine below_set ?_ GE544.out | refine below_set ?_ GE550.out | refine below_set ?_ GE561.out) | exact HB.out)⟩⟩
                    case round =>
                      clear H'
                      try clear c1
                      try clear c2
                      try clear p2
                      try clear c3
                      try clear c4
                      try clear c5
                      try clear p5
                      try clear q5
                      try clear hx5
                      try clear qi5
                      try clear c6
                      try clear p6
                      try clear c7
                      try clear c7b0
                      try clear c7b1
                      try clear c9
                      try clear c12
                      try clear c12b0
                      try clear c13
                      try clear c13b0
                      try clear c20
                      try clear c21
                      try clear c22
                      try clear c29
                      try clear c30
                      try clear c31
                      try clear c32
                      try clear c38
                      try clear c38b0
                      try clear c38b1
                      try clear c41
                      try clear c42
                      try clear c45
                      try clear c46
                      try clear c46b0
                      try clear c46b1
                      try clear c48
                      try clear c49
                      try clear c49b0
                      try clear c49b1
                      try clear c50
                      try clear c50b0
                      try clear c51
                      try clear c51b0
                      try clear c52
                      try clear c53
                      try clear p55
                      try clear q55
                      try clear hx55
                      try clear qi55
                      try clear p56
                      try clear q56
                      try clear hx56
                      try clear c57
                      try clear c58
                      try clear c62
                      try clear c63
                      try clear p64
                      try clear c66
                      try clear hcz17_0
                      try clear hcz17_1
                      try clear hcz17_2
                      try clear hcz22_0
                      try clear hcz22_1
                      try clear hcz22_2
                      try clear hcz26_0
                      try clear hcz26_1
                      try clear hcz26_2
                      try clear hcz31_0
                      try clear hcz31_1
                      try clear hcz31_2
                      try clear hcz33_0
                      try clear hcz33_1
                      try clear hcz33_2
                      try clear hcz35_0
                      try clear hcz35_1
                      try clear hcz35_2
                      try clear hcz43_0
                      try clear hcz43_1
                      try clear hcz43_2
                      try clear hcz54_0
                      try clear hcz54_1
                      try clear hcz54_2
                      try clear hcz59_0
                      try clear hcz59_1
                      try clear hcz59_2
                      try clear hcz64_0
                      try clear hcz64_1
                      try clear hcz64_2
                      try clear hfz17_0
                      try clear hfz17_1
                      try clear hfz17_2
                      try clear hfz22_0
                      try clear hfz22_1
                      try clear hfz22_2
                      try clear hfz26_0
                      try clear hfz26_1
                      try clear hfz26_2
                      try clear hfz31_0
                      try clear hfz31_1
                      try clear hfz31_2
                      try clear hfz33_0
                      try clear hfz33_1
                      try clear hfz33_2
                      try clear hfz35_0
                      try clear hfz35_1
                      try clear hfz35_2
                      try clear hfz43_0
                      try clear hfz43_1
                      try clear hfz43_2
                      try clear hfz54_0
                      try clear hfz54_1
                      try clear hfz54_2
                      try clear hfz59_0
                      try clear hfz59_1
                      try clear hfz59_2
                      try clear hfz64_0
                      try clear hfz64_1
                      try clear hfz64_2
                      try clear hx554_0
                      try clear hx564_0
                      try clear hx569_0
                      try clear p2
                      try clear p5
                      try clear p55
                      try clear p554
                      try clear p56
                      try clear p564
                      try clear p569
                      try clear p6
                      try clear p64
                      try clear q5
                      try clear q55
                      try clear q554
                      try clear q56
                      try clear q564
                      try clear q569
                      obtain ⟨x13_3, x562000_3, x562001_3, x562002_3, u562002, rfl, HA, HK3, HO_12, HO_545002, HO_551002, HO_562002, BK544, BK550, BK561, HB⟩ := hrel
                      cases gk with
                      | zero => exact absurd HA.out (by simp [laws_FnWindows.l0])
                      | succ k3 =>
                        have H := HA.out
                        clear HA
                        simp only [laws_FnWindows.l0] at H
                        by_cases c67 : x13_3 < t545
                        · rw [if_pos c67] at H
                          have c67b0 : decide (x13_3 < t545) = true := decide_eq_true c67
                          clear c67
                          replace H := Option.bind_eq_some_iff.mp H
                          obtain ⟨t570, A680, H⟩ := H
                          replace H : ((impl_Turned.f x562000_3 x562001_3 x562002_3).bind fun bt571 => ((impl_DemandOf.f k3 bt571.1 bt571.2.1 bt571.2.2 ji11).bind fun t576 => (if t576 > t570 then (some false) else (laws_FnWindows.l0 k3 ji11 t565 (wrap64 (x13_3 + 1)) t545 t546 t547 bt571.1 bt571.2.1 bt571.2.2)))) = some r := H
                          have A68 := Aside0.mk A680
                          clear A680
                          replace H := Option.bind_eq_some_iff.mp H
                          obtain ⟨⟨t571, t572, t573⟩, A690, H⟩ := H
                          replace H : ((impl_DemandOf.f k3 t571 t572 t573 ji11).bind fun t576 => (if t576 > t570 then (some false) else (laws_FnWindows.l0 k3 ji11 t565 (wrap64 (x13_3 + 1)) t545 t546 t547 t571 t572 t573))) = some r := H
                          have A69 := Aside0.mk A690
                          clear A690
                          replace H := Option.bind_eq_some_iff.mp H
                          obtain ⟨t576, A700, H⟩ := H
                          replace H : (if t576 > t570 then (some false) else (laws_FnWindows.l0 k3 ji11 t565 (wrap64 (x13_3 + 1)) t545 t546 t547 t571 t572 t573)) = some r := H
                          have A70 := Aside0.mk A700
                          clear A700
                          by_cases c71 : t576 > t570
                          · rw [if_pos c71] at H
                            have c71b0 : decide (t570 < t576) = true := decide_eq_true c71
                            clear c71
                            exact absurd hr_ (by rw [← Option.some.inj H]; decide)
                          · rw [if_neg c71] at H
                            have c71b0 : decide (t570 < t576) = false := decide_eq_false c71
                            clear c71
                            have H' := Aside0.mk H
                            clear H
                            have hnb72 := NB550_544.out
                            have hnc72 := NB544_550.out
                            have hnb73 := NB550_561.out
                            have hnc73 := NB561_550.out
                            have hcz74_0 : wr.cell? ⟨gb550, 0, none⟩ = some (.int .i64 t545) := (blk_cell BK550.out 0).trans rfl
                            have hcz74_1 : wr.cell? ⟨gb550, 1, none⟩ = some (.int .i64 t546) := (blk_cell BK550.out 1).trans rfl
                            have hcz74_2 : wr.cell? ⟨gb550, 2, none⟩ = some (.slice (some ad564) t547.length co23) := (blk_cell BK550.out 2).trans rfl
                            have hfz74_0 := blk_frozen BK550.out 0
                            have hfz74_1 := blk_frozen BK550.out 1
                            have hfz74_2 := blk_frozen BK550.out 2
                            have hnb75 := NB561_544.out
                            have hnc75 := NB544_561.out
                            have hcz76_0 : wr.cell? ⟨gb561, 0, none⟩ = some (.int .i64 x562000_3) := (blk_cell BK561.out 0).trans rfl
                            have hcz76_1 : wr.cell? ⟨gb561, 1, none⟩ = some (.int .i64 x562001_3) := (blk_cell BK561.out 1).trans rfl
                            have hcz76_2 : wr.cell? ⟨gb561, 2, none⟩ = some (u562002) := (blk_cell BK561.out 2).trans rfl
                            have hfz76_0 := blk_frozen BK561.out 0
                            have hfz76_1 := blk_frozen BK561.out 1
                            have hfz76_2 := blk_frozen BK561.out 2
                            obtain ⟨Ao77, co77, eo77⟩ := Kd.R_slice HO_562002.out
                            subst eo77
                            go_wp2_with (first | ((with_reducible refine gate_callee (f := 20) rfl ?_); refine goesL_ (some 85) rfl rfl Try.func20 (by kernel_rfl) rfl #[.agg #[.int .i64 x562000_3, .int .i64 x562001_3, .slice Ao77 x562002_3.length co77], .int .i64 ji11] rfl (by (try simp only [List.map_toArray, List.map_cons, List.map_nil]); first | done | (simp only [hji11]; rfl) | rfl | (simp only [List.length_drop, List.length_take]; rfl)) ?_; (with_reducible refine (impl_DemandOf.calls k3 x562000_3 x562001_3 _ _ x562002_3 ji11 t570 _ ?side1 ?side2 A68.out).mono ?_); (case side1 => repeat (first | exact (Kd.R_reads' HO_562002.out).2.2 | (with_reducible refine Kd.C_alloc ?_ _) | (with_reducible refine Kd.C_drewN ?_ _) | (with_reducible refine Kd.C_drew ?_))); (case side2 => exact (Kd.R_reads' HO_562002.out).2.1); rintro e w78 ⟨rfl, hb⟩; refine ⟨_, rfl, ?_⟩; have n0_ := Aside0.mk (Kd.R_below (by (with_reducible repeat (first | apply Kd.R_alloc | apply Kd.R_drewN | apply Kd.R_drew)); exact HO_12.out) hb); have n1_ := Aside0.mk (Kd.R_below (by (with_reducible repeat (first | apply Kd.R_alloc | apply Kd.R_drewN | apply Kd.R_drew)); exact HO_545002.out) hb); have n2_ := Aside0.mk (Kd.R_below (by (with_reducible repeat (first | apply Kd.R_alloc | apply Kd.R_drewN | apply Kd.R_drew)); exact HO_551002.out) hb); have n3_ := Aside0.mk (Kd.R_below (by (with_reducible repeat (first | apply Kd.R_alloc | apply Kd.R_drewN | apply Kd.R_drew)); exact HO_562002.out) hb); have n4_ := Aside0.mk (blk_below (g := gb544) (o := .cells #[.int .i64 t539, .int .i64 t540, .slice Ao18 t541.length co18] 24 (0, 0)) (by (with_reducible repeat (first | refine blk_drewN ?_ _ | refine blk_drew ?_ | refine blk_alloc ?_ _)); exact BK544.out) hb); have n5_ := Aside0.mk (blk_below (g := gb550) (o := .cells #[.int .i64 t545, .int .i64 t546, .slice (some ad564) t547.length co23] 24 (0, 0)) (by (with_reducible repeat (first | refine blk_drewN ?_ _ | refine blk_drew ?_ | refine blk_alloc ?_ _)); exact BK550.out) hb); have n6_ := Aside0.mk (blk_below (g := gb561) (o := .cells #[.int .i64 x562000_3, .int .i64 x562001_3, .slice Ao77 x562002_3.length co77] 24 (0, 0)) (by (with_reducible repeat (first | refine blk_drewN ?_ _ | refine blk_drew ?_ | refine blk_alloc ?_ _)); exact BK561.out) hb); have n7_ := Aside0.mk (below_step (by repeat (first | (with_reducible first | exact HB.out | apply below_alloc | apply pw_below_drewN | apply below_drew1 | refine below_set ?_ GE544.out | refine below_set ?_ GE550.out | refine below_set ?_ GE561.out) | exact HB.out)) hb); clear HO_12; clear HO_545002; clear HO_551002; clear HO_562002; clear BK544; clear BK550; clear BK561; clear HB; have HO_12 := n0_; have HO_545002 := n1_; have HO_551002 := n2_; have HO_562002 := n3_; have BK544 := n4_; have BK550 := n5_; have BK561 := n6_; have HB := n7_; clear n0_ n1_ n2_ n3_ n4_ n5_ n6_ n7_; (try clear hb); (try clear hb2); (try clear hk); (try clear hi); have hcz79_0 : w78.cell? ⟨gb561, 0, none⟩ = some (.int .i64 x562000_3) := (blk_cell BK561.out 0).trans rfl; have hcz79_1 : w78.cell? ⟨gb561, 1, none⟩ = some (.int .i64 x562001_3) := (blk_cell BK561.out 1).trans rfl; have hcz79_2 : w78.cell? ⟨gb561, 2, none⟩ = some (.slice Ao77 x562002_3.length co77) := (blk_cell BK561.out 2).trans rfl; have hfz79_0 := blk_frozen BK561.out 0; have hfz79_1 := blk_frozen BK561.out 1; have hfz79_2 := blk_frozen BK561.out 2) | ((with_reducible refine gate_callee (f := 27) rfl ?_); refine goesL_ (some 87) rfl rfl Try.func27 (by kernel_rfl) rfl #[.agg #[.int .i64 x562000_3, .int .i64 x562001_3, .slice Ao77 x562002_3.length co77]] rfl (by (try simp only [List.map_toArray, List.map_cons, List.map_nil]); first | done | rfl | (simp only [List.length_drop, List.length_take]; rfl)) ?_; (with_reducible refine (impl_Turned.calls x562000_3 x562001_3 _ _ x562002_3 t571 t572 t573 _ ?side1 ?side2 A69.out).mono ?_); (case side1 => repeat (first | exact (Kd.R_reads' HO_562002.out).2.2 | (with_reducible refine Kd.C_alloc ?_ _) | (with_reducible refine Kd.C_drewN ?_ _) | (with_reducible refine Kd.C_drew ?_))); (case side2 => exact (Kd.R_reads' HO_562002.out).2.1); rintro e w80 ⟨v574, rfl, ho0, hb⟩; refine ⟨_, rfl, ?_⟩; have n0_ := Aside0.mk (Kd.R_elder' (by (with_reducible repeat (first | apply Kd.R_alloc | apply Kd.R_drewN | apply Kd.R_drew)); exact HO_12.out) (Kd.R_base ho0) hb); have n1_ := Aside0.mk (Kd.R_elder' (by (with_reducible repeat (first | apply Kd.R_alloc | apply Kd.R_drewN | apply Kd.R_drew)); exact HO_545002.out) (Kd.R_base ho0) hb); have n2_ := Aside0.mk (Kd.R_elder' (by (with_reducible repeat (first | apply Kd.R_alloc | apply Kd.R_drewN | apply Kd.R_drew)); exact HO_551002.out) (Kd.R_base ho0) hb); have n3_ := Aside0.mk (Kd.R_elder' (by (with_reducible repeat (first | apply Kd.R_alloc | apply Kd.R_drewN | apply Kd.R_drew)); exact HO_562002.out) (Kd.R_base ho0) hb); have n4_ := Aside0.mk (Kd.R_lower (Kd.R_new' (Kd.R_new' (Kd.R_new' (Kd.R_new' ho0 (Kd.R_lt (by (with_reducible repeat (first | apply Kd.R_alloc | apply Kd.R_drewN | apply Kd.R_drew)); exact HO_12.out))) (Kd.R_lt (by (with_reducible repeat (first | apply Kd.R_alloc | apply Kd.R_drewN | apply Kd.R_drew)); exact HO_545002.out))) (Kd.R_lt (by (with_reducible repeat (first | apply Kd.R_alloc | apply Kd.R_drewN | apply Kd.R_drew)); exact HO_551002.out))) (Kd.R_lt (by (with_reducible repeat (first | apply Kd.R_alloc | apply Kd.R_drewN | apply Kd.R_drew)); exact HO_562002.out))) (below_size (by repeat (first | (with_reducible first | exact HB.out | apply below_alloc | apply pw_below_drewN | apply below_drew1 | refine below_set ?_ GE544.out | refine below_set ?_ GE550.out | refine below_set ?_ GE561.out) | exact HB.out)))); have n5_ := Aside0.mk (blk_below (g := gb544) (o := .cells #[.int .i64 t539, .int .i64 t540, .slice Ao18 t541.length co18] 24 (0, 0)) (by (with_reducible repeat (first | refine blk_drewN ?_ _ | refine blk_drew ?_ | refine blk_alloc ?_ _)); exact BK544.out) hb); have n6_ := Aside0.mk (blk_below (g := gb550) (o := .cells #[.int .i64 t545, .int .i64 t546, .slice (some ad564) t547.length co23] 24 (0, 0)) (by (with_reducible repeat (first | refine blk_drewN ?_ _ | refine blk_drew ?_ | refine blk_alloc ?_ _)); exact BK550.out) hb); have n7_ := Aside0.mk (blk_below (g := gb561) (o := .cells #[.int .i64 x562000_3, .int .i64 x562001_3, .slice Ao77 x562002_3.length co77] 24 (0, 0)) (by (with_reducible repeat (first | refine blk_drewN ?_ _ | refine blk_drew ?_ | refine blk_alloc ?_ _)); exact BK561.out) hb); have n8_ := Aside0.mk (below_step (by repeat (first | (with_reducible first | exact HB.out | apply below_alloc | apply pw_below_drewN | apply below_drew1 | refine below_set ?_ GE544.out | refine below_set ?_ GE550.out | refine below_set ?_ GE561.out) | exact HB.out)) hb); clear HO_12; clear HO_545002; clear HO_551002; clear HO_562002; clear BK544; clear BK550; clear BK561; clear HB; have HO_12 := n0_; have HO_545002 := n1_; have HO_551002 := n2_; have HO_562002 := n3_; have HO575 := n4_; have BK544 := n5_; have BK550 := n6_; have BK561 := n7_; have HB := n8_; clear n0_ n1_ n2_ n3_ n4_ n5_ n6_ n7_ n8_; (try clear hb); (try clear hb2); (try clear hk); (try clear hi); (try clear ho0); have hcz81_0 : w80.cell? ⟨gb561, 0, none⟩ = some (.int .i64 x562000_3) := (blk_cell BK561.out 0).trans rfl; have hcz81_1 : w80.cell? ⟨gb561, 1, none⟩ = some (.int .i64 x562001_3) := (blk_cell BK561.out 1).trans rfl; have hcz81_2 : w80.cell? ⟨gb561, 2, none⟩ = some (.slice Ao77 x562002_3.length co77) := (blk_cell BK561.out 2).trans rfl; have hfz81_0 := blk_frozen BK561.out 0; have hfz81_1 := blk_frozen BK561.out 1; have hfz81_2 := blk_frozen BK561.out 2; obtain ⟨Ao82, co82, eo82⟩ := Kd.R_slice HO575.out; subst eo82) | ((with_reducible refine gate_callee (f := 20) rfl ?_); refine goesL_ (some 90) rfl rfl Try.func20 (by kernel_rfl) rfl #[.agg #[.int .i64 t571, .int .i64 t572, .slice Ao82 t573.length co82], .int .i64 ji11] rfl (by (try simp only [List.map_toArray, List.map_cons, List.map_nil]); first | done | (simp only [hji11]; rfl) | rfl | (simp only [List.length_drop, List.length_take]; rfl)) ?_; (with_reducible refine (impl_DemandOf.calls k3 t571 t572 _ _ t573 ji11 t576 _ ?side1 ?side2 A70.out).mono ?_); (case side1 => refine (Kd.R_reads' (e := 3) (base := w.heap.size) (ok := fun k_ => ((((True ∧ some k_ ≠ (v566 : Value).ownBlock) ∧ some k_ ≠ (.slice Ao18 t541.length co18 : Value).ownBlock) ∧ some k_ ≠ (.slice (some ad564) t547.length co23 : Value).ownBlock) ∧ some k_ ≠ (.slice Ao77 x562002_3.length co77 : Value).ownBlock)) (n := t573.length) (c := co82) ?_).2.2; exact (by (with_reducible repeat (first | apply Kd.R_alloc | apply Kd.R_drewN | apply Kd.R_drew)); exact (Kd.R_mono (Kd.R_far (p := ⟨gb561, 2, none⟩) (Kd.R_far (p := ⟨gb561, 1, none⟩) (Kd.R_far (p := ⟨gb561, 0, none⟩) (Kd.R_types HO575.out BK561.out (by decide)) (fun _ hk => hk.2) (.int .i64 t571)) (fun _ hk => hk.2) (.int .i64 t572)) (fun _ hk => hk.2) (.slice Ao82 t573.length co82)) (fun _ h_ => h_.1)))); (case side2 => exact (Kd.R_reads' HO575.out).2.1); rintro e w83 ⟨rfl, hb⟩; refine ⟨_, rfl, ?_⟩; have n0_ := Aside0.mk (Kd.R_below (by (with_reducible repeat (first | apply Kd.R_alloc | apply Kd.R_drewN | apply Kd.R_drew)); exact (Kd.R_mono (Kd.R_far (p := ⟨gb561, 2, none⟩) (Kd.R_far (p := ⟨gb561, 1, none⟩) (Kd.R_far (p := ⟨gb561, 0, none⟩) (Kd.R_types HO_12.out BK561.out (by decide)) (fun _ hk => hk.2) (.int .i64 t571)) (fun _ hk => hk.2) (.int .i64 t572)) (fun _ hk => hk.2) (.slice Ao82 t573.length co82)) (fun _ h_ => h_.1))) hb); have n1_ := Aside0.mk (Kd.R_below (by (with_reducible repeat (first | apply Kd.R_alloc | apply Kd.R_drewN | apply Kd.R_drew)); exact (Kd.R_mono (Kd.R_far (p := ⟨gb561, 2, none⟩) (Kd.R_far (p := ⟨gb561, 1, none⟩) (Kd.R_far (p := ⟨gb561, 0, none⟩) (Kd.R_types HO_545002.out BK561.out (by decide)) (fun _ hk => hk.2) (.int .i64 t571)) (fun _ hk => hk.2) (.int .i64 t572)) (fun _ hk => hk.2) (.slice Ao82 t573.length co82)) (fun _ h_ => h_.1))) hb); have n2_ := Aside0.mk (Kd.R_below (by (with_reducible repeat (first | apply Kd.R_alloc | apply Kd.R_drewN | apply Kd.R_drew)); exact (Kd.R_mono (Kd.R_far (p := ⟨gb561, 2, none⟩) (Kd.R_far (p := ⟨gb561, 1, none⟩) (Kd.R_far (p := ⟨gb561, 0, none⟩) (Kd.R_types HO_551002.out BK561.out (by decide)) (fun _ hk => hk.2) (.int .i64 t571)) (fun _ hk => hk.2) (.int .i64 t572)) (fun _ hk => hk.2) (.slice Ao82 t573.length co82)) (fun _ h_ => h_.1))) hb); have n3_ := Aside0.mk (Kd.R_below (by (with_reducible repeat (first | apply Kd.R_alloc | apply Kd.R_drewN | apply Kd.R_drew)); exact (Kd.R_mono (Kd.R_far (p := ⟨gb561, 2, none⟩) (Kd.R_far (p := ⟨gb561, 1, none⟩) (Kd.R_far (p := ⟨gb561, 0, none⟩) (Kd.R_types HO_562002.out BK561.out (by decide)) (fun _ hk => hk.2) (.int .i64 t571)) (fun _ hk => hk.2) (.int .i64 t572)) (fun _ hk => hk.2) (.slice Ao82 t573.length co82)) (fun _ h_ => h_.1))) hb); have n4_ := Aside0.mk (Kd.R_below (by (with_reducible repeat (first | apply Kd.R_alloc | apply Kd.R_drewN | apply Kd.R_drew)); exact (Kd.R_mono (Kd.R_far (p := ⟨gb561, 2, none⟩) (Kd.R_far (p := ⟨gb561, 1, none⟩) (Kd.R_far (p := ⟨gb561, 0, none⟩) (Kd.R_types HO575.out BK561.out (by decide)) (fun _ hk => hk.2) (.int .i64 t571)) (fun _ hk => hk.2) (.int .i64 t572)) (fun _ hk => hk.2) (.slice Ao82 t573.length co82)) (fun _ h_ => h_.1))) hb); have n5_ := Aside0.mk (blk_below (g := gb544) (o := .cells #[.int .i64 t539, .int .i64 t540, .slice Ao18 t541.length co18] 24 (0, 0)) (by (with_reducible repeat (first | refine blk_drewN ?_ _ | refine blk_drew ?_ | refine blk_alloc ?_ _)); refine blk_far ?_ NB544_561.out _; (with_reducible repeat (first | refine blk_drewN ?_ _ | refine blk_drew ?_ | refine blk_alloc ?_ _)); refine blk_far ?_ NB544_561.out _; (with_reducible repeat (first | refine blk_drewN ?_ _ | refine blk_drew ?_ | refine blk_alloc ?_ _)); refine blk_far ?_ NB544_561.out _; (with_reducible repeat (first | refine blk_drewN ?_ _ | refine blk_drew ?_ | refine blk_alloc ?_ _)); exact BK544.out) hb); have n6_ := Aside0.mk (blk_below (g := gb550) (o := .cells #[.int .i64 t545, .int .i64 t546, .slice (some ad564) t547.length co23] 24 (0, 0)) (by (with_reducible repeat (first | refine blk_drewN ?_ _ | refine blk_drew ?_ | refine blk_alloc ?_ _)); refine blk_far ?_ NB550_561.out _; (with_reducible repeat (first | refine blk_drewN ?_ _ | refine blk_drew ?_ | refine blk_alloc ?_ _)); refine blk_far ?_ NB550_561.out _; (with_reducible repeat (first | refine blk_drewN ?_ _ | refine blk_drew ?_ | refine blk_alloc ?_ _)); refine blk_far ?_ NB550_561.out _; (with_reducible repeat (first | refine blk_drewN ?_ _ | refine blk_drew ?_ | refine blk_alloc ?_ _)); exact BK550.out) hb); have n7_ := Aside0.mk (blk_below (g := gb561) (o := .cells #[.int .i64 t571, .int .i64 t572, .slice Ao82 t573.length co82] 24 (0, 0)) (by (with_reducible repeat (first | refine blk_drewN ?_ _ | refine blk_drew ?_ | refine blk_alloc ?_ _)); refine blk_put (cs := #[.int .i64 t571, .int .i64 t572, .slice Ao77 x562002_3.length co77]) ?_ 2 _ rfl; (with_reducible repeat (first | refine blk_drewN ?_ _ | refine blk_drew ?_ | refine blk_alloc ?_ _)); refine blk_put (cs := #[.int .i64 t571, .int .i64 x562001_3, .slice Ao77 x562002_3.length co77]) ?_ 1 _ rfl; (with_reducible repeat (first | refine blk_drewN ?_ _ | refine blk_drew ?_ | refine blk_alloc ?_ _)); refine blk_put (cs := #[.int .i64 x562000_3, .int .i64 x562001_3, .slice Ao77 x562002_3.length co77]) ?_ 0 _ rfl; (with_reducible repeat (first | refine blk_drewN ?_ _ | refine blk_drew ?_ | refine blk_alloc ?_ _)); exact BK561.out) hb); have n8_ := Aside0.mk (below_step (by repeat (first | (with_reducible first | exact HB.out | apply below_alloc | apply pw_below_drewN | apply below_drew1 | refine below_set ?_ GE544.out | refine below_set ?_ GE550.out | refine below_set ?_ GE561.out) | exact HB.out)) hb); clear HO_12; clear HO_545002; clear HO_551002; clear HO_562002; clear HO575; clear BK544; clear BK550; clear BK561; clear HB; have HO_12 := n0_; have HO_545002 := n1_; have HO_551002 := n2_; have HO_562002 := n3_; have HO575 := n4_; have BK544 := n5_; have BK550 := n6_; have BK561 := n7_; have HB := n8_; clear n0_ n1_ n2_ n3_ n4_ n5_ n6_ n7_ n8_; (try clear hb); (try clear hb2); (try clear hk); (try clear hi)))
                            go_roundg k3
                            case measure => have := HJ13.out; have := HJ39.out; have := HK3.out; omega
                            case rel => exact ⟨(wrap64 (x13_3 + 1)), (t571), (t572), (t573), (.slice Ao82 t573.length co82), (by first | rfl | (simp; done) | (simp [*]; done)), H', ⟨by have := HJ13.out; have := HJ39.out; have := HK3.out; omega⟩, ⟨by (with_reducible repeat (first | apply Kd.R_alloc | apply Kd.R_drewN | apply Kd.R_drew)); exact Kd.R_mono HO_12.out (fun _ hk => ⟨hk.1.1, ⟨hk.1.2.1, hk.2⟩⟩)⟩, ⟨by (with_reducible repeat (first | apply Kd.R_alloc | apply Kd.R_drewN | apply Kd.R_drew)); exact Kd.R_mono HO_545002.out (fun _ hk => ⟨hk.1.1, ⟨hk.1.2.1, hk.2⟩⟩)⟩, ⟨by (with_reducible repeat (first | apply Kd.R_alloc | apply Kd.R_drewN | apply Kd.R_drew)); exact Kd.R_mono HO_551002.out (fun _ hk => ⟨hk.1.1, ⟨hk.1.2.1, hk.2⟩⟩)⟩, ⟨by (with_reducible repeat (first | apply Kd.R_alloc | apply Kd.R_drewN | apply Kd.R_drew)); exact Kd.R_mono HO575.out (fun _ hk => ⟨hk.1.1.1.2, ⟨hk.1.1.2, hk.1.2⟩⟩)⟩, ⟨by (with_reducible repeat (first | refine blk_drewN ?_ _ | refine blk_drew ?_ | refine blk_alloc ?_ _)); exact BK544.out⟩, ⟨by (with_reducible repeat (first | refine blk_drewN ?_ _ | refine blk_drew ?_ | refine blk_alloc ?_ _)); exact BK550.out⟩, ⟨by (with_reducible repeat (first | refine blk_drewN ?_ _ | refine blk_drew ?_ | refine blk_alloc ?_ _)); exact BK561.out⟩, ⟨by repeat (first | (with_reducible first | exact HB.out | apply below_alloc | apply pw_below_drewN | apply below_drew1 | refine below_set ?_ GE544.out | refine below_set ?_ GE550.out | refine below_set ?_ GE561.out) | exact HB.out)⟩⟩
                        · rw [if_neg c67] at H
                          have c67b0 : decide (x13_3 < t545) = false := decide_eq_false c67
                          clear c67
                          have H' := Aside0.mk H
                          clear H
                          have hnb84 := NB550_544.out
                          have hnc84 := NB544_550.out
                          have hnb85 := NB550_561.out
                          have hnc85 := NB561_550.out
                          have hcz86_0 : wr.cell? ⟨gb550, 0, none⟩ = some (.int .i64 t545) := (blk_cell BK550.out 0).trans rfl
                          have hcz86_1 : wr.cell? ⟨gb550, 1, none⟩ = some (.int .i64 t546) := (blk_cell BK550.out 1).trans rfl
                          have hcz86_2 : wr.cell? ⟨gb550, 2, none⟩ = some (.slice (some ad564) t547.length co23) := (blk_cell BK550.out 2).trans rfl
                          have hfz86_0 := blk_frozen BK550.out 0
                          have hfz86_1 := blk_frozen BK550.out 1
                          have hfz86_2 := blk_frozen BK550.out 2
                          go_wp2
                          go_loopg [15] k3 (fun kq v15 w' => ∃ (x15_4 : Int), v15 = .int .i64 x15_4 ∧ Aside0 (laws_FnWindows.l1 kq ji11 t565 x15_4 t545 t546 t547 x562000_3 x562001_3 x562002_3 = some r) ∧ Aside0 (kq ≤ k3) ∧ Aside0 (Kd.R (Kd.int .i64) 3 w' w.heap.size (fun k_ => some k_ ≠ ((.slice Ao18 t541.length co18) : Value).ownBlock ∧ some k_ ≠ ((.slice (some ad564) t547.length co23) : Value).ownBlock ∧ some k_ ≠ (u562002 : Value).ownBlock) v566 t565) ∧ Aside0 (Kd.R (Kd.int .i64) 3 w' w.heap.size (fun k_ => some k_ ≠ (v566 : Value).ownBlock ∧ some k_ ≠ ((.slice (some ad564) t547.length co23) : Value).ownBlock ∧ some k_ ≠ (u562002 : Value).ownBlock) (.slice Ao18 t541.length co18) t541) ∧ Aside0 (Kd.R (Kd.int .i64) 3 w' w.heap.size (fun k_ => some k_ ≠ (v566 : Value).ownBlock ∧ some k_ ≠ ((.slice Ao18 t541.length co18) : Value).ownBlock ∧ some k_ ≠ (u562002 : Value).ownBlock) (.slice (some ad564) t547.length co23) t547) ∧ Aside0 (Kd.R (Kd.int .i64) 3 w' w.heap.size (fun k_ => some k_ ≠ (v566 : Value).ownBlock ∧ some k_ ≠ ((.slice Ao18 t541.length co18) : Value).ownBlock ∧ some k_ ≠ ((.slice (some ad564) t547.length co23) : Value).ownBlock) u562002 x562002_3) ∧ Aside0 (w'.heap[gb544]? = some (.cells #[.int .i64 t539, .int .i64 t540, (.slice Ao18 t541.length co18)] 24 (0, 0))) ∧ Aside0 (w'.heap[gb550]? = some (.cells #[.int .i64 t545, .int .i64 t546, (.slice (some ad564) t547.length co23)] 24 (0, 0))) ∧ Aside0 (w'.heap[gb561]? = some (.cells #[.int .i64 x562000_3, .int .i64 x562001_3, u562002] 24 (0, 0))) ∧ Aside0 (Below w.heap.size w w'))
                          case atStart => exact ⟨(0), (by first | rfl | (simp; done) | (simp [*]; done)), H', ⟨Nat.le_refl _⟩, ⟨by (with_reducible repeat (first | apply Kd.R_alloc | apply Kd.R_drewN | apply Kd.R_drew)); exact HO_12.out⟩, ⟨by (with_reducible repeat (first | apply Kd.R_alloc | apply Kd.R_drewN | apply Kd.R_drew)); exact HO_545002.out⟩, ⟨by (with_reducible repeat (first | apply Kd.R_alloc | apply Kd.R_drewN | apply Kd.R_drew)); exact HO_551002.out⟩, ⟨by (with_reducible repeat (first | apply Kd.R_alloc | apply Kd.R_drewN | apply Kd.R_drew)); exact HO_562002.out⟩, ⟨by (with_reducible repeat (first | refine blk_drewN ?_ _ | refine blk_drew ?_ | refine blk_alloc ?_ _)); exact BK544.out⟩, ⟨by (with_reducible repeat (first | refine blk_drewN ?_ _ | refine blk_drew ?_ | refine blk_alloc ?_ _)); exact BK550.out⟩, ⟨by (with_reducible repeat (first | refine blk_drewN ?_ _ | refine blk_drew ?_ | refine blk_alloc ?_ _)); exact BK561.out⟩, ⟨by repeat (first | (with_reducible first | exact HB.out | apply below_alloc | apply pw_below_drewN | apply below_drew1 | refine below_set ?_ GE544.out | refine below_set ?_ GE550.out | refine below_set ?_ GE561.out) | exact HB.out)⟩⟩
                          case round =>
                            clear H'
                            try clear c1
                            try clear c2
                            try clear p2
                            try clear c3
                            try clear c4
                            try clear c5
                            try clear p5
                            try clear q5
                            try clear hx5
                            try clear qi5
                            try clear c6
                            try clear p6
                            try clear c7
                            try clear c7b0
                            try clear c7b1
                            try clear c8
                            try clear c9
                            try clear c12
                            try clear c12b0
                            try clear c13
                            try clear c13b0
                            try clear c20
                            try clear c21
                            try clear c22
                            try clear c27
                            try clear c29
                            try clear c30
                            try clear c31
                            try clear c32
                            try clear c38
                            try clear c38b0
                            try clear c38b1
                            try clear c41
                            try clear c42
                            try clear c45
                            try clear c46
                            try clear c46b0
                            try clear c46b1
                            try clear c48
                            try clear c49
                            try clear c49b0
                            try clear c49b1
                            try clear c50
                            try clear c50b0
                            try clear c51
                            try clear c51b0
                            try clear c52
                            try clear c53
                            try clear p55
                            try clear q55
                            try clear hx55
                            try clear qi55
                            try clear p56
                            try clear q56
                            try clear hx56
                            try clear c57
                            try clear c58
                            try clear c62
                            try clear c63
                            try clear p64
                            try clear c66
                            try clear c67
                            try clear c67b0
                            try clear c71
                            try clear c71b0
                            try clear c72
                            try clear c73
                            try clear c75
                            try clear c84
                            try clear c85
                            try clear hcz17_0
                            try clear hcz17_1
                            try clear hcz17_2
                            try clear hcz22_0
                            try clear hcz22_1
                            try clear hcz22_2
                            try clear hcz26_0
                            try clear hcz26_1
                            try clear hcz26_2
                            try clear hcz31_0
                            try clear hcz31_1
                            try clear hcz31_2
                            try clear hcz33_0
                            try clear hcz33_1
                            try clear hcz33_2
                            try clear hcz35_0
                            try clear hcz35_1
                            try clear hcz35_2
                            try clear hcz43_0
                            try clear hcz43_1
                            try clear hcz43_2
                            try clear hcz54_0
                            try clear hcz54_1
                            try clear hcz54_2
                            try clear hcz59_0
                            try clear hcz59_1
                            try clear hcz59_2
                            try clear hcz64_0
                            try clear hcz64_1
                            try clear hcz64_2
                            try clear hcz74_0
                            try clear hcz74_1
                            try clear hcz74_2
                            try clear hcz76_0
                            try clear hcz76_1
                            try clear hcz76_2
                            try clear hcz79_0
                            try clear hcz79_1
                            try clear hcz79_2
                            try clear hcz81_0
                            try clear hcz81_1
                            try clear hcz81_2
                            try clear hcz86_0
                            try clear hcz86_1
                            try clear hcz86_2
                            try clear hfz17_0
                            try clear hfz17_1
                            try clear hfz17_2
                            try clear hfz22_0
                            try clear hfz22_1
                            try clear hfz22_2
                            try clear hfz26_0
                            try clear hfz26_1
                            try clear hfz26_2
                            try clear hfz31_0
                            try clear hfz31_1
                            try clear hfz31_2
                            try clear hfz33_0
                            try clear hfz33_1
                            try clear hfz33_2
                            try clear hfz35_0
                            try clear hfz35_1
                            try clear hfz35_2
                            try clear hfz43_0
                            try clear hfz43_1
                            try clear hfz43_2
                            try clear hfz54_0
                            try clear hfz54_1
                            try clear hfz54_2
                            try clear hfz59_0
                            try clear hfz59_1
                            try clear hfz59_2
                            try clear hfz64_0
                            try clear hfz64_1
                            try clear hfz64_2
                            try clear hfz74_0
                            try clear hfz74_1
                            try clear hfz74_2
                            try clear hfz76_0
                            try clear hfz76_1
                            try clear hfz76_2
                            try clear hfz79_0
                            try clear hfz79_1
                            try clear hfz79_2
                            try clear hfz81_0
                            try clear hfz81_1
                            try clear hfz81_2
                            try clear hfz86_0
                            try clear hfz86_1
                            try clear hfz86_2
                            try clear hx554_0
                            try clear hx564_0
                            try clear hx569_0
                            try clear p2
                            try clear p5
                            try clear p55
                            try clear p554
                            try clear p56
                            try clear p564
                            try clear p569
                            try clear p6
                            try clear p64
                            try clear q5
                            try clear q55
                            try clear q554
                            try clear q56
                            try clear q564
                            try clear q569
                            obtain ⟨x15_4, rfl, HA, HK4, HO_12, HO_545002, HO_551002, HO_562002, BK544, BK550, BK561, HB⟩ := hrel
                            cases gk with
                            | zero => exact absurd HA.out (by simp [laws_FnWindows.l1])
                            | succ k4 =>
                              have H := HA.out
                              clear HA
                              simp only [laws_FnWindows.l1] at H
                              by_cases c87 : x15_4 < 6
                              · rw [if_pos c87] at H
                                have c87b0 : decide (x15_4 < 6) = true := decide_eq_true c87
                                clear c87
                                replace H := Option.bind_eq_some_iff.mp H
                                obtain ⟨t578, A880, H⟩ := H
                                replace H : (if t578 = 0 then (if x15_4 = ji11 then (laws_FnWindows.l1 k4 ji11 t565 (wrap64 (x15_4 + 1)) t545 t546 t547 x562000_3 x562001_3 x562002_3) else (if 0 ≤ x15_4 then (if x15_4 < (t565.length : Int) then ((spec_DemandOf.f k4 t545 t546 t547 x15_4).bind fun t580 => (if (rd t565 x15_4) = t580 then (laws_FnWindows.l1 k4 ji11 t565 (wrap64 (x15_4 + 1)) t545 t546 t547 x562000_3 x562001_3 x562002_3) else (some false))) else (none)) else (none))) else (some false)) = some r := H
                                have A88 := Aside0.mk A880
                                clear A880
                                by_cases c89 : t578 = 0
                                · rw [if_pos c89] at H
                                  have c89b0 : (t578 == 0) = true := beq_iff_eq.mpr c89
                                  have c89b1 : (t578 != 0) = false := bne_eq_false_iff_eq.mpr c89
                                  clear c89
                                  by_cases c90 : x15_4 = ji11
                                  · rw [if_pos c90] at H
                                    have c90b0 : (x15_4 == ji11) = true := beq_iff_eq.mpr c90
                                    have c90b1 : (x15_4 != ji11) = false := bne_eq_false_iff_eq.mpr c90
                                    clear c90
                                    have H' := Aside0.mk H
                                    clear H
                                    try go_wp2
                                    have n0_ := Aside0.mk (Kd.R_drew HO_12.out)
                                    have n1_ := Aside0.mk (Kd.R_drew HO_545002.out)
                                    have n2_ := Aside0.mk (Kd.R_drew HO_551002.out)
                                    have n3_ := Aside0.mk (Kd.R_drew HO_562002.out)
                                    have n4_ := Aside0.mk (blk_drew BK544.out)
                                    have n5_ := Aside0.mk (blk_drew BK550.out)
                                    have n6_ := Aside0.mk (blk_drew BK561.out)
                                    have n7_ := Aside0.mk (below_drew1 HB.out)
                                    clear HO_12
                                    clear HO_545002
                                    clear HO_551002
                                    clear HO_562002
                                    clear BK544
                                    clear BK550
                                    clear BK561
                                    clear HB
                                    have HO_12 := n0_
                                    have HO_545002 := n1_
                                    have HO_551002 := n2_
                                    have HO_562002 := n3_
                                    have BK544 := n4_
                                    have BK550 := n5_
                                    have BK561 := n6_
                                    have HB := n7_
                                    clear n0_ n1_ n2_ n3_ n4_ n5_ n6_ n7_
                                    obtain ⟨Ao92, co92, eo92⟩ := Kd.R_slice HO_562002.out
                                    (first | subst eo92 | (injection eo92 with f1_ f2_ f3_; have f4_ := f1_.symm; have f5_ := f3_.symm; clear f1_ f2_ f3_; subst f4_; subst f5_))
                                    refine start_ (n := 19) (S := fun w' => w'.cell? ⟨gb561, 0, none⟩ = some (.int .i64 x562000_3) ∧ w'.cell? ⟨gb561, 1, none⟩ = some (.int .i64 x562001_3) ∧ w'.cell? ⟨gb561, 2, none⟩ = some (.slice Ao92 x562002_3.length co92)) (ds := []) #[false, false, false, false, false, false, false, false, false, false, false, false, false, false, false, false, false, false, false] (by kernel_rfl) rfl rfl ⟨(blk_cell BK561.out 0).trans rfl, (blk_cell BK561.out 1).trans rfl, (blk_cell BK561.out 2).trans rfl⟩ (fun hHeld => ?_); refine with_tabW laws_FnWindows.tab26 laws_FnWindows.bits26 (fun HT_ HW_ => ?_)
                                    generalize wr.drew = w91 at HO_12 HO_545002 HO_551002 HO_562002 BK544 BK550 BK561 HB hHeld ⊢
                                    refine pure_ (i := 1) (N := some 98) (v := ?_) (a' := ?_) #[false, true, false, false, false, false, false, false, false, false, false, false, false, false, false, false, false, false, false] rfl rfl (any_of HT_.out (by kernel_rfl)) (fun _ _ _ h => h) (Or.inl ⟨by rfl, ?_⟩) ?_ ?_
                                    rotate_left
                                    · intro w'
                                      go_simp
                                      with_reducible rfl
                                    rotate_left
                                    · simp only [Act.put, List.setIfInBounds_toArray, List.set_cons_zero, List.set_cons_succ, i64_w, i32_w]
                                      rfl
                                    refine take_ (i := 0) (N := some 97) (v := ?_) (a' := ?_) #[true, true, false, false, false, false, false, false, false, false, false, false, false, false, false, false, false, false, false] rfl rfl (take_ofW HT_.out HW_.out (by kernel_rfl)) (fun _ _ _ h => h) (Or.inl ⟨by rfl, ?_⟩) hHeld ?_ ?_
                                    rotate_left
                                    · rintro w' ⟨s0, s1, s2⟩
                                      go_simp
                                      with_reducible rfl
                                    rotate_left
                                    · simp only [Act.put, List.setIfInBounds_toArray, List.set_cons_zero, List.set_cons_succ, i64_w, i32_w]
                                      rfl
                                    refine one_ (i := 2) (N := some 99) #[true, true, true, false, false, false, false, false, false, false, false, false, false, false, false, false, false, false, false] rfl rfl (one_of HT_.out (by kernel_rfl)) (by decide) (fun K hK => ?_)
                                    refine goes_ Try.func20 (by kernel_rfl) rfl #[.agg #[.int .i64 x562000_3, .int .i64 x562001_3, .slice Ao92 x562002_3.length co92], .int .i64 x15_4] (by rfl) rfl rfl (by (try simp only [List.map_toArray, List.map_cons, List.map_nil]); first | done | rfl | (simp only [List.length_drop, List.length_take]; rfl)) ?_
                                    with_reducible refine (impl_DemandOf.calls k4 x562000_3 x562001_3 _ _ x562002_3 x15_4 t578 _ ?side1 ?side2 A88.out).mono ?_
                                    (case side1 => repeat (first | exact (Kd.R_reads' HO_562002.out).2.2 | (with_reducible refine Kd.C_alloc ?_ _) | (with_reducible refine Kd.C_drewN ?_ _) | (with_reducible refine Kd.C_drew ?_)))
                                    (case side2 => exact (Kd.R_reads' HO_562002.out).2.1)
                                    rintro e w93 ⟨rfl, hb⟩
                                    refine ⟨_, rfl, ?_⟩
                                    have n0_ := Aside0.mk (Kd.R_below (by (with_reducible repeat (first | apply Kd.R_alloc | apply Kd.R_drewN | apply Kd.R_drew)); exact HO_12.out) hb)
                                    have n1_ := Aside0.mk (Kd.R_below (by (with_reducible repeat (first | apply Kd.R_alloc | apply Kd.R_drewN | apply Kd.R_drew)); exact HO_545002.out) hb)
                                    have n2_ := Aside0.mk (Kd.R_below (by (with_reducible repeat (first | apply Kd.R_alloc | apply Kd.R_drewN | apply Kd.R_drew)); exact HO_551002.out) hb)
                                    have n3_ := Aside0.mk (Kd.R_below (by (with_reducible repeat (first | apply Kd.R_alloc | apply Kd.R_drewN | apply Kd.R_drew)); exact HO_562002.out) hb)
                                    have n4_ := Aside0.mk (blk_below (g := gb544) (o := .cells #[.int .i64 t539, .int .i64 t540, .slice Ao18 t541.length co18] 24 (0, 0)) (by (with_reducible repeat (first | refine blk_drewN ?_ _ | refine blk_drew ?_ | refine blk_alloc ?_ _)); exact BK544.out) hb)
                                    have n5_ := Aside0.mk (blk_below (g := gb550) (o := .cells #[.int .i64 t545, .int .i64 t546, .slice (some ad564) t547.length co23] 24 (0, 0)) (by (with_reducible repeat (first | refine blk_drewN ?_ _ | refine blk_drew ?_ | refine blk_alloc ?_ _)); exact BK550.out) hb)
                                    have n6_ := Aside0.mk (blk_below (g := gb561) (o := .cells #[.int .i64 x562000_3, .int .i64 x562001_3, .slice Ao92 x562002_3.length co92] 24 (0, 0)) (by (with_reducible repeat (first | refine blk_drewN ?_ _ | refine blk_drew ?_ | refine blk_alloc ?_ _)); exact BK561.out) hb)
                                    have n7_ := Aside0.mk (below_step (by repeat (first | (with_reducible first | exact HB.out | apply below_alloc | apply pw_below_drewN | apply below_drew1 | refine below_set ?_ GE544.out | refine below_set ?_ GE550.out | refine below_set ?_ GE561.out) | exact HB.out)) hb)
                                    clear HO_12
                                    clear HO_545002
                                    clear HO_551002
                                    clear HO_562002
                                    clear BK544
                                    clear BK550
                                    clear BK561
                                    clear HB
                                    have HO_12 := n0_
                                    have HO_545002 := n1_
                                    have HO_551002 := n2_
                                    have HO_562002 := n3_
                                    have BK544 := n4_
                                    have BK550 := n5_
                                    have BK561 := n6_
                                    have HB := n7_
                                    clear n0_ n1_ n2_ n3_ n4_ n5_ n6_ n7_
                                    (try clear hb)
                                    (try clear hb2)
                                    (try clear hk)
                                    (try clear hi)
                                    refine hK.out _ _ ⟨(blk_cell BK561.out 0).trans rfl, (blk_cell BK561.out 1).trans rfl, (blk_cell BK561.out 2).trans rfl⟩ (fun hHeld => ?_)
                                    clear hK K
                                    refine norm_ (a' := ?_) ?_ ?_
                                    rotate_left
                                    · show Act.put _ (some 99) _ = _
                                      simp only [Act.put, List.setIfInBounds_toArray, List.set_cons_zero, List.set_cons_succ, i64_w, i32_w]
                                      rfl
                                    refine pure_ (i := 3) (N := some 100) (v := ?_) (a' := ?_) #[true, true, true, true, false, false, false, false, false, false, false, false, false, false, false, false, false, false, false] rfl rfl (any_of HT_.out (by kernel_rfl)) (fun _ _ _ h => h) (Or.inl ⟨by rfl, ?_⟩) ?_ ?_
                                    rotate_left
                                    · intro w'
                                      go_simp
                                      with_reducible rfl
                                    rotate_left
                                    · simp only [Act.put, List.setIfInBounds_toArray, List.set_cons_zero, List.set_cons_succ, i64_w, i32_w]
                                      rfl
                                    refine pure_ (i := 4) (N := some 101) (v := ?_) (a' := ?_) #[true, true, true, true, true, false, false, false, false, false, false, false, false, false, false, false, false, false, false] rfl rfl (any_of HT_.out (by kernel_rfl)) (fun _ _ _ h => h) (Or.inl ⟨by rfl, ?_⟩) ?_ ?_
                                    rotate_left
                                    · intro w'
                                      go_simp
                                      with_reducible rfl
                                    rotate_left
                                    · simp only [Act.put, List.setIfInBounds_toArray, List.set_cons_zero, List.set_cons_succ, i64_w, i32_w]
                                      rfl
                                    refine pure_ (i := 5) (N := some 102) (v := ?_) (a' := ?_) #[true, true, true, true, true, true, false, false, false, false, false, false, false, false, false, false, false, false, false] rfl rfl (any_of HT_.out (by kernel_rfl)) (fun _ _ _ h => h) (Or.inl ⟨by rfl, ?_⟩) ?_ ?_
                                    rotate_left
                                    · intro w'
                                      go_simp
                                      with_reducible rfl
                                    rotate_left
                                    · simp only [Act.put, List.setIfInBounds_toArray, List.set_cons_zero, List.set_cons_succ, i64_w, i32_w]
                                      rfl
                                    refine pure_ (i := 6) (N := some 103) (v := ?_) (a' := ?_) #[true, true, true, true, true, true, true, false, false, false, false, false, false, false, false, false, false, false, false] rfl rfl (any_of HT_.out (by kernel_rfl)) (fun _ _ _ h => h) (Or.inl ⟨by rfl, ?_⟩) ?_ ?_
                                    rotate_left
                                    · intro w'
                                      go_simp
                                      with_reducible rfl
                                    rotate_left
                                    · simp only [Act.put, List.setIfInBounds_toArray, List.set_cons_zero, List.set_cons_succ, i64_w, i32_w]
                                      rfl
                                    refine pure_ (i := 7) (N := some 104) (v := ?_) (a' := ?_) #[true, true, true, true, true, true, true, true, false, false, false, false, false, false, false, false, false, false, false] rfl rfl (any_of HT_.out (by kernel_rfl)) (fun _ _ _ h => h) (Or.inl ⟨by rfl, ?_⟩) ?_ ?_
                                    rotate_left
                                    · intro w'
                                      go_simp
                                      with_reducible rfl
                                    rotate_left
                                    · simp only [Act.put, List.setIfInBounds_toArray, List.set_cons_zero, List.set_cons_succ, i64_w, i32_w]
                                      rfl
                                    refine pure_ (i := 8) (N := some 105) (v := ?_) (a' := ?_) #[true, true, true, true, true, true, true, true, true, false, false, false, false, false, false, false, false, false, false] rfl rfl (any_of HT_.out (by kernel_rfl)) (fun _ _ _ h => h) (Or.inl ⟨by rfl, ?_⟩) ?_ ?_
                                    rotate_left
                                    · intro w'
                                      go_simp
                                      with_reducible rfl
                                    rotate_left
                                    · simp only [Act.put, List.setIfInBounds_toArray, List.set_cons_zero, List.set_cons_succ, i64_w, i32_w]
                                      rfl
                                    refine pure_ (i := 9) (N := some 106) (v := undef) (a' := ?_) #[true, true, true, true, true, true, true, true, true, true, false, false, false, false, false, false, false, false, false] rfl rfl (any_of HT_.out (by kernel_rfl)) (fun _ _ _ h => h) (Or.inr ⟨by rfl, rfl⟩) ?_ ?_
                                    rotate_left
                                    · simp only [Act.put, List.setIfInBounds_toArray, List.set_cons_zero, List.set_cons_succ, i64_w, i32_w]
                                      rfl
                                    refine pure_ (i := 10) (N := some 107) (v := undef) (a' := ?_) #[true, true, true, true, true, true, true, true, true, true, true, false, false, false, false, false, false, false, false] rfl rfl (any_of HT_.out (by kernel_rfl)) (fun _ _ _ h => h) (Or.inr ⟨by rfl, rfl⟩) ?_ ?_
                                    rotate_left
                                    · simp only [Act.put, List.setIfInBounds_toArray, List.set_cons_zero, List.set_cons_succ, i64_w, i32_w]
                                      rfl
                                    refine pure_ (i := 11) (N := some 108) (v := undef) (a' := ?_) #[true, true, true, true, true, true, true, true, true, true, true, true, false, false, false, false, false, false, false] rfl rfl (any_of HT_.out (by kernel_rfl)) (fun _ _ _ h => h) (Or.inr ⟨by rfl, rfl⟩) ?_ ?_
                                    rotate_left
                                    · simp only [Act.put, List.setIfInBounds_toArray, List.set_cons_zero, List.set_cons_succ, i64_w, i32_w]
                                      rfl
                                    refine pure_ (i := 12) (N := some 109) (v := undef) (a' := ?_) #[true, true, true, true, true, true, true, true, true, true, true, true, true, false, false, false, false, false, false] rfl rfl (any_of HT_.out (by kernel_rfl)) (fun _ _ _ h => h) (Or.inr ⟨by rfl, rfl⟩) ?_ ?_
                                    rotate_left
                                    · simp only [Act.put, List.setIfInBounds_toArray, List.set_cons_zero, List.set_cons_succ, i64_w, i32_w]
                                      rfl
                                    refine pure_ (i := 13) (N := some 110) (v := undef) (a' := ?_) #[true, true, true, true, true, true, true, true, true, true, true, true, true, true, false, false, false, false, false] rfl rfl (any_of HT_.out (by kernel_rfl)) (fun _ _ _ h => h) (Or.inr ⟨by rfl, rfl⟩) ?_ ?_
                                    rotate_left
                                    · simp only [Act.put, List.setIfInBounds_toArray, List.set_cons_zero, List.set_cons_succ, i64_w, i32_w]
                                      rfl
                                    refine pure_ (i := 14) (N := some 111) (v := undef) (a' := ?_) #[true, true, true, true, true, true, true, true, true, true, true, true, true, true, true, false, false, false, false] rfl rfl (any_of HT_.out (by kernel_rfl)) (fun _ _ _ h => h) (Or.inr ⟨by rfl, rfl⟩) ?_ ?_
                                    rotate_left
                                    · simp only [Act.put, List.setIfInBounds_toArray, List.set_cons_zero, List.set_cons_succ, i64_w, i32_w]
                                      rfl
                                    refine pure_ (i := 15) (N := some 112) (v := undef) (a' := ?_) #[true, true, true, true, true, true, true, true, true, true, true, true, true, true, true, true, false, false, false] rfl rfl (any_of HT_.out (by kernel_rfl)) (fun _ _ _ h => h) (Or.inr ⟨by rfl, rfl⟩) ?_ ?_
                                    rotate_left
                                    · simp only [Act.put, List.setIfInBounds_toArray, List.set_cons_zero, List.set_cons_succ, i64_w, i32_w]
                                      rfl
                                    refine pure_ (i := 16) (N := some 113) (v := undef) (a' := ?_) #[true, true, true, true, true, true, true, true, true, true, true, true, true, true, true, true, true, false, false] rfl rfl (any_of HT_.out (by kernel_rfl)) (fun _ _ _ h => h) (Or.inr ⟨by rfl, rfl⟩) ?_ ?_
                                    rotate_left
                                    · simp only [Act.put, List.setIfInBounds_toArray, List.set_cons_zero, List.set_cons_succ, i64_w, i32_w]
                                      rfl
                                    refine pure_ (i := 17) (N := some 114) (v := ?_) (a' := ?_) #[true, true, true, true, true, true, true, true, true, true, true, true, true, true, true, true, true, true, false] rfl rfl (any_of HT_.out (by kernel_rfl)) (fun _ _ _ h => h) (Or.inl ⟨by rfl, ?_⟩) ?_ ?_
                                    rotate_left
                                    · intro w'
                                      go_simp
                                      with_reducible rfl
                                    rotate_left
                                    · simp only [Act.put, List.setIfInBounds_toArray, List.set_cons_zero, List.set_cons_succ, i64_w, i32_w]
                                      rfl
                                    refine pure_ (i := 18) (N := some 115) (v := ?_) (a' := ?_) #[true, true, true, true, true, true, true, true, true, true, true, true, true, true, true, true, true, true, true] rfl rfl (any_of HT_.out (by kernel_rfl)) (fun _ _ _ h => h) (Or.inl ⟨by rfl, ?_⟩) ?_ ?_
                                    rotate_left
                                    · intro w'
                                      go_simp
                                      with_reducible rfl
                                    rotate_left
                                    · simp only [Act.put, List.setIfInBounds_toArray, List.set_cons_zero, List.set_cons_succ, i64_w, i32_w]
                                      rfl
                                    refine done_ (done_of HT_.out (by kernel_rfl)) ?_
                                    try go_wp2
                                    go_roundg k4
                                    case measure => have := HJ13.out; have := HJ39.out; have := HK3.out; have := HK4.out; omega
                                    case rel => exact ⟨(wrap64 (x15_4 + 1)), (by first | rfl | (simp; done) | (simp [*]; done)), H', ⟨by have := HJ13.out; have := HJ39.out; have := HK3.out; have := HK4.out; omega⟩, ⟨by (with_reducible repeat (first | apply Kd.R_alloc | apply Kd.R_drewN | apply Kd.R_drew)); exact HO_12.out⟩, ⟨by (with_reducible repeat (first | apply Kd.R_alloc | apply Kd.R_drewN | apply Kd.R_drew)); exact HO_545002.out⟩, ⟨by (with_reducible repeat (first | apply Kd.R_alloc | apply Kd.R_drewN | apply Kd.R_drew)); exact HO_551002.out⟩, ⟨by (with_reducible repeat (first | apply Kd.R_alloc | apply Kd.R_drewN | apply Kd.R_drew)); exact HO_562002.out⟩, ⟨by (with_reducible repeat (first | refine blk_drewN ?_ _ | refine blk_drew ?_ | refine blk_alloc ?_ _)); exact BK544.out⟩, ⟨by (with_reducible repeat (first | refine blk_drewN ?_ _ | refine blk_drew ?_ | refine blk_alloc ?_ _)); exact BK550.out⟩, ⟨by (with_reducible repeat (first | refine blk_drewN ?_ _ | refine blk_drew ?_ | refine blk_alloc ?_ _)); exact BK561.out⟩, ⟨by repeat (first | (with_reducible first | exact HB.out | apply below_alloc | apply pw_below_drewN | apply below_drew1 | refine below_set ?_ GE544.out | refine below_set ?_ GE550.out | refine below_set ?_ GE561.out) | exact HB.out)⟩⟩
                                  · rw [if_neg c90] at H
                                    have c90b0 : (x15_4 == ji11) = false := beq_eq_false_iff_ne.mpr c90
                                    have c90b1 : (x15_4 != ji11) = true := bne_iff_ne.mpr c90
                                    by_cases c94 : 0 ≤ x15_4
                                    · rw [if_pos c94] at H
                                      have c94b0 : decide (0 ≤ x15_4) = true := decide_eq_true c94
                                      clear c94
                                      by_cases c95 : x15_4 < (t565.length : Int)
                                      · rw [if_pos c95] at H
                                        have c95b0 : decide (x15_4 < (t565.length : Int)) = true := decide_eq_true c95
                                        clear c95
                                        replace H := Option.bind_eq_some_iff.mp H
                                        obtain ⟨t580, A960, H⟩ := H
                                        replace H : (if (rd t565 x15_4) = t580 then (laws_FnWindows.l1 k4 ji11 t565 (wrap64 (x15_4 + 1)) t545 t546 t547 x562000_3 x562001_3 x562002_3) else (some false)) = some r := H
                                        have A96 := Aside0.mk A960
                                        clear A960
                                        by_cases c97 : (rd t565 x15_4) = t580
                                        · rw [if_pos c97] at H
                                          have c97b0 : ((rd t565 x15_4) == t580) = true := beq_iff_eq.mpr c97
                                          have c97b1 : ((rd t565 x15_4) != t580) = false := bne_eq_false_iff_eq.mpr c97
                                          clear c97
                                          have H' := Aside0.mk H
                                          clear H
                                          try go_wp2
                                          have n0_ := Aside0.mk (Kd.R_drew HO_12.out)
                                          have n1_ := Aside0.mk (Kd.R_drew HO_545002.out)
                                          have n2_ := Aside0.mk (Kd.R_drew HO_551002.out)
                                          have n3_ := Aside0.mk (Kd.R_drew HO_562002.out)
                                          have n4_ := Aside0.mk (blk_drew BK544.out)
                                          have n5_ := Aside0.mk (blk_drew BK550.out)
                                          have n6_ := Aside0.mk (blk_drew BK561.out)
                                          have n7_ := Aside0.mk (below_drew1 HB.out)
                                          clear HO_12
                                          clear HO_545002
                                          clear HO_551002
                                          clear HO_562002
                                          clear BK544
                                          clear BK550
                                          clear BK561
                                          clear HB
                                          have HO_12 := n0_
                                          have HO_545002 := n1_
                                          have HO_551002 := n2_
                                          have HO_562002 := n3_
                                          have BK544 := n4_
                                          have BK550 := n5_
                                          have BK561 := n6_
                                          have HB := n7_
                                          clear n0_ n1_ n2_ n3_ n4_ n5_ n6_ n7_
                                          obtain ⟨Ao99, co99, eo99⟩ := Kd.R_slice HO_562002.out
                                          (first | subst eo99 | (injection eo99 with f1_ f2_ f3_; have f4_ := f1_.symm; have f5_ := f3_.symm; clear f1_ f2_ f3_; subst f4_; subst f5_))
                                          have p579 : 0 ≤ (x15_4 : Int) := of_decide_eq_true (by first | (with_reducible assumption) | assumption)
                                          have q579 : x15_4 < (t565.length : Int) := of_decide_eq_true (by first | (with_reducible assumption) | assumption)
                                          (try (obtain ⟨Az_, cz_, ez_⟩ := Kd.R_slice HO_12.out; subst ez_))
                                          obtain ⟨ad579, e579, hx579_0⟩ := Kd.at_int (Kd.R_reads' HO_12.out).2.2 x15_4 p579 q579
                                          cases e579
                                          replace p579 := eq_true p579
                                          replace q579 := eq_true q579
                                          refine start_ (n := 19) (S := fun w' => w'.cell? ⟨gb561, 0, none⟩ = some (.int .i64 x562000_3) ∧ w'.cell? ⟨gb561, 1, none⟩ = some (.int .i64 x562001_3) ∧ w'.cell? ⟨gb561, 2, none⟩ = some (.slice Ao99 x562002_3.length co99) ∧ w'.cell? ⟨gb550, 0, none⟩ = some (.int .i64 t545) ∧ w'.cell? ⟨gb550, 1, none⟩ = some (.int .i64 t546) ∧ w'.cell? ⟨gb550, 2, none⟩ = some (.slice (some ad564) t547.length co23) ∧ w'.cell? (ad579.add (x15_4).toNat) = some (.int .i64 (rd t565 x15_4))) (ds := []) #[false, false, false, false, false, false, false, false, false, false, false, false, false, false, false, false, false, false, false] (by kernel_rfl) rfl rfl ⟨(blk_cell BK561.out 0).trans rfl, (blk_cell BK561.out 1).trans rfl, (blk_cell BK561.out 2).trans rfl, (blk_cell BK550.out 0).trans rfl, (blk_cell BK550.out 1).trans rfl, (blk_cell BK550.out 2).trans rfl, hx579_0⟩ (fun hHeld => ?_); refine with_tabW laws_FnWindows.tab26 laws_FnWindows.bits26 (fun HT_ HW_ => ?_)
                                          generalize wr.drew = w98 at HO_12 HO_545002 HO_551002 HO_562002 BK544 BK550 BK561 HB hx579_0 hHeld ⊢
                                          refine pure_ (i := 1) (N := some 98) (v := ?_) (a' := ?_) #[false, true, false, false, false, false, false, false, false, false, false, false, false, false, false, false, false, false, false] rfl rfl (any_of HT_.out (by kernel_rfl)) (fun _ _ _ h => h) (Or.inl ⟨by rfl, ?_⟩) ?_ ?_
                                          rotate_left
                                          · intro w'
                                            go_simp
                                            with_reducible rfl
                                          rotate_left
                                          · simp only [Act.put, List.setIfInBounds_toArray, List.set_cons_zero, List.set_cons_succ, i64_w, i32_w]
                                            rfl
                                          refine take_ (i := 0) (N := some 97) (v := ?_) (a' := ?_) #[true, true, false, false, false, false, false, false, false, false, false, false, false, false, false, false, false, false, false] rfl rfl (take_ofW HT_.out HW_.out (by kernel_rfl)) (fun _ _ _ h => h) (Or.inl ⟨by rfl, ?_⟩) hHeld ?_ ?_
                                          rotate_left
                                          · rintro w' ⟨s0, s1, s2, s3, s4, s5, s6⟩
                                            go_simp
                                            with_reducible rfl
                                          rotate_left
                                          · simp only [Act.put, List.setIfInBounds_toArray, List.set_cons_zero, List.set_cons_succ, i64_w, i32_w]
                                            rfl
                                          refine one_ (i := 2) (N := some 99) #[true, true, true, false, false, false, false, false, false, false, false, false, false, false, false, false, false, false, false] rfl rfl (one_of HT_.out (by kernel_rfl)) (by decide) (fun K hK => ?_)
                                          refine goes_ Try.func20 (by kernel_rfl) rfl #[.agg #[.int .i64 x562000_3, .int .i64 x562001_3, .slice Ao99 x562002_3.length co99], .int .i64 x15_4] (by rfl) rfl rfl (by (try simp only [List.map_toArray, List.map_cons, List.map_nil]); first | done | rfl | (simp only [List.length_drop, List.length_take]; rfl)) ?_
                                          with_reducible refine (impl_DemandOf.calls k4 x562000_3 x562001_3 _ _ x562002_3 x15_4 t578 _ ?side1 ?side2 A88.out).mono ?_
                                          (case side1 => repeat (first | exact (Kd.R_reads' HO_562002.out).2.2 | (with_reducible refine Kd.C_alloc ?_ _) | (with_reducible refine Kd.C_drewN ?_ _) | (with_reducible refine Kd.C_drew ?_)))
                                          (case side2 => exact (Kd.R_reads' HO_562002.out).2.1)
                                          rintro e w100 ⟨rfl, hb⟩
                                          have HS6_ := (hb.cell (World.block_lt_of_cell? _ _ (hHeld.2.2.2.2.2.2))).trans (hHeld.2.2.2.2.2.2)
                                          refine ⟨_, rfl, ?_⟩
                                          have n0_ := Aside0.mk (Kd.R_below (by (with_reducible repeat (first | apply Kd.R_alloc | apply Kd.R_drewN | apply Kd.R_drew)); exact HO_12.out) hb)
                                          have n1_ := Aside0.mk (Kd.R_below (by (with_reducible repeat (first | apply Kd.R_alloc | apply Kd.R_drewN | apply Kd.R_drew)); exact HO_545002.out) hb)
                                          have n2_ := Aside0.mk (Kd.R_below (by (with_reducible repeat (first | apply Kd.R_alloc | apply Kd.R_drewN | apply Kd.R_drew)); exact HO_551002.out) hb)
                                          have n3_ := Aside0.mk (Kd.R_below (by (with_reducible repeat (first | apply Kd.R_alloc | apply Kd.R_drewN | apply Kd.R_drew)); exact HO_562002.out) hb)
                                          have n4_ := Aside0.mk (blk_below (g := gb544) (o := .cells #[.int .i64 t539, .int .i64 t540, .slice Ao18 t541.length co18] 24 (0, 0)) (by (with_reducible repeat (first | refine blk_drewN ?_ _ | refine blk_drew ?_ | refine blk_alloc ?_ _)); exact BK544.out) hb)
                                          have n5_ := Aside0.mk (blk_below (g := gb550) (o := .cells #[.int .i64 t545, .int .i64 t546, .slice (some ad564) t547.length co23] 24 (0, 0)) (by (with_reducible repeat (first | refine blk_drewN ?_ _ | refine blk_drew ?_ | refine blk_alloc ?_ _)); exact BK550.out) hb)
                                          have n6_ := Aside0.mk (blk_below (g := gb561) (o := .cells #[.int .i64 x562000_3, .int .i64 x562001_3, .slice Ao99 x562002_3.length co99] 24 (0, 0)) (by (with_reducible repeat (first | refine blk_drewN ?_ _ | refine blk_drew ?_ | refine blk_alloc ?_ _)); exact BK561.out) hb)
                                          have n7_ := Aside0.mk (below_step (by repeat (first | (with_reducible first | exact HB.out | apply below_alloc | apply pw_below_drewN | apply below_drew1 | refine below_set ?_ GE544.out | refine below_set ?_ GE550.out | refine below_set ?_ GE561.out) | exact HB.out)) hb)
                                          clear HO_12
                                          clear HO_545002
                                          clear HO_551002
                                          clear HO_562002
                                          clear BK544
                                          clear BK550
                                          clear BK561
                                          clear HB
                                          have HO_12 := n0_
                                          have HO_545002 := n1_
                                          have HO_551002 := n2_
                                          have HO_562002 := n3_
                                          have BK544 := n4_
                                          have BK550 := n5_
                                          have BK561 := n6_
                                          have HB := n7_
                                          clear n0_ n1_ n2_ n3_ n4_ n5_ n6_ n7_
                                          (try clear hb)
                                          (try clear hb2)
                                          (try clear hk)
                                          (try clear hi)
                                          obtain ⟨Ao101, co101, eo101⟩ := Kd.R_slice HO_12.out
                                          (first | subst eo101 | (injection eo101 with f1_ f2_ f3_; have f4_ := f1_.symm; have f5_ := f3_.symm; clear f1_ f2_ f3_; subst f4_; subst f5_))
                                          refine hK.out _ _ ⟨(blk_cell BK561.out 0).trans rfl, (blk_cell BK561.out 1).trans rfl, (blk_cell BK561.out 2).trans rfl, (blk_cell BK550.out 0).trans rfl, (blk_cell BK550.out 1).trans rfl, (blk_cell BK550.out 2).trans rfl, HS6_⟩ (fun hHeld => ?_)
                                          clear hK K
                                          refine norm_ (a' := ?_) ?_ ?_
                                          rotate_left
                                          · show Act.put _ (some 99) _ = _
                                            simp only [Act.put, List.setIfInBounds_toArray, List.set_cons_zero, List.set_cons_succ, i64_w, i32_w]
                                            rfl
                                          refine pure_ (i := 3) (N := some 100) (v := ?_) (a' := ?_) #[true, true, true, true, false, false, false, false, false, false, false, false, false, false, false, false, false, false, false] rfl rfl (any_of HT_.out (by kernel_rfl)) (fun _ _ _ h => h) (Or.inl ⟨by rfl, ?_⟩) ?_ ?_
                                          rotate_left
                                          · intro w'
                                            go_simp
                                            with_reducible rfl
                                          rotate_left
                                          · simp only [Act.put, List.setIfInBounds_toArray, List.set_cons_zero, List.set_cons_succ, i64_w, i32_w]
                                            rfl
                                          refine pure_ (i := 4) (N := some 101) (v := ?_) (a' := ?_) #[true, true, true, true, true, false, false, false, false, false, false, false, false, false, false, false, false, false, false] rfl rfl (any_of HT_.out (by kernel_rfl)) (fun _ _ _ h => h) (Or.inl ⟨by rfl, ?_⟩) ?_ ?_
                                          rotate_left
                                          · intro w'
                                            go_simp
                                            with_reducible rfl
                                          rotate_left
                                          · simp only [Act.put, List.setIfInBounds_toArray, List.set_cons_zero, List.set_cons_succ, i64_w, i32_w]
                                            rfl
                                          refine pure_ (i := 5) (N := some 102) (v := ?_) (a' := ?_) #[true, true, true, true, true, true, false, false, false, false, false, false, false, false, false, false, false, false, false] rfl rfl (any_of HT_.out (by kernel_rfl)) (fun _ _ _ h => h) (Or.inl ⟨by rfl, ?_⟩) ?_ ?_
                                          rotate_left
                                          · intro w'
                                            go_simp
                                            with_reducible rfl
                                          rotate_left
                                          · simp only [Act.put, List.setIfInBounds_toArray, List.set_cons_zero, List.set_cons_succ, i64_w, i32_w]
                                            rfl
                                          refine pure_ (i := 6) (N := some 103) (v := ?_) (a' := ?_) #[true, true, true, true, true, true, true, false, false, false, false, false, false, false, false, false, false, false, false] rfl rfl (any_of HT_.out (by kernel_rfl)) (fun _ _ _ h => h) (Or.inl ⟨by rfl, ?_⟩) ?_ ?_
                                          rotate_left
                                          · intro w'
                                            go_simp
                                            with_reducible rfl
                                          rotate_left
                                          · simp only [Act.put, List.setIfInBounds_toArray, List.set_cons_zero, List.set_cons_succ, i64_w, i32_w]
                                            rfl
                                          refine pure_ (i := 7) (N := some 104) (v := ?_) (a' := ?_) #[true, true, true, true, true, true, true, true, false, false, false, false, false, false, false, false, false, false, false] rfl rfl (any_of HT_.out (by kernel_rfl)) (fun _ _ _ h => h) (Or.inl ⟨by rfl, ?_⟩) ?_ ?_
                                          rotate_left
                                          · intro w'
                                            go_simp
                                            with_reducible rfl
                                          rotate_left
                                          · simp only [Act.put, List.setIfInBounds_toArray, List.set_cons_zero, List.set_cons_succ, i64_w, i32_w]
                                            rfl
                                          refine pure_ (i := 8) (N := some 105) (v := ?_) (a' := ?_) #[true, true, true, true, true, true, true, true, true, false, false, false, false, false, false, false, false, false, false] rfl rfl (any_of HT_.out (by kernel_rfl)) (fun _ _ _ h => h) (Or.inl ⟨by rfl, ?_⟩) ?_ ?_
                                          rotate_left
                                          · intro w'
                                            go_simp
                                            with_reducible rfl
                                          rotate_left
                                          · simp only [Act.put, List.setIfInBounds_toArray, List.set_cons_zero, List.set_cons_succ, i64_w, i32_w]
                                            rfl
                                          refine pure_ (i := 9) (N := some 106) (v := ?_) (a' := ?_) #[true, true, true, true, true, true, true, true, true, true, false, false, false, false, false, false, false, false, false] rfl rfl (any_of HT_.out (by kernel_rfl)) (fun _ _ _ h => h) (Or.inl ⟨by rfl, ?_⟩) ?_ ?_
                                          rotate_left
                                          · intro w'
                                            go_simp
                                            with_reducible rfl
                                          rotate_left
                                          · simp only [Act.put, List.setIfInBounds_toArray, List.set_cons_zero, List.set_cons_succ, i64_w, i32_w]
                                            rfl
                                          refine pure_ (i := 10) (N := some 107) (v := ?_) (a' := ?_) #[true, true, true, true, true, true, true, true, true, true, true, false, false, false, false, false, false, false, false] rfl rfl (any_of HT_.out (by kernel_rfl)) (fun _ _ _ h => h) (Or.inl ⟨by rfl, ?_⟩) ?_ ?_
                                          rotate_left
                                          · intro w'
                                            go_simp
                                            with_reducible rfl
                                          rotate_left
                                          · simp only [Act.put, List.setIfInBounds_toArray, List.set_cons_zero, List.set_cons_succ, i64_w, i32_w]
                                            rfl
                                          refine pure_ (i := 11) (N := some 108) (v := ?_) (a' := ?_) #[true, true, true, true, true, true, true, true, true, true, true, true, false, false, false, false, false, false, false] rfl rfl (any_of HT_.out (by kernel_rfl)) (fun _ _ _ h => h) (Or.inl ⟨by rfl, ?_⟩) ?_ ?_
                                          rotate_left
                                          · intro w'
                                            go_simp
                                            with_reducible rfl
                                          rotate_left
                                          · simp only [Act.put, List.setIfInBounds_toArray, List.set_cons_zero, List.set_cons_succ, i64_w, i32_w]
                                            rfl
                                          refine pure_ (i := 14) (N := some 111) (v := ?_) (a' := ?_) #[true, true, true, true, true, true, true, true, true, true, true, true, false, false, true, false, false, false, false] rfl rfl (any_of HT_.out (by kernel_rfl)) (fun _ _ _ h => h) (Or.inl ⟨by rfl, ?_⟩) ?_ ?_
                                          rotate_left
                                          · intro w'
                                            go_simp
                                            with_reducible rfl
                                          rotate_left
                                          · simp only [Act.put, List.setIfInBounds_toArray, List.set_cons_zero, List.set_cons_succ, i64_w, i32_w]
                                            rfl
                                          refine take_ (i := 12) (N := some 109) (v := ?_) (a' := ?_) #[true, true, true, true, true, true, true, true, true, true, true, true, true, false, true, false, false, false, false] rfl rfl (take_ofW HT_.out HW_.out (by kernel_rfl)) (fun _ _ _ h => h) (Or.inl ⟨by rfl, ?_⟩) hHeld ?_ ?_
                                          rotate_left
                                          · rintro w' ⟨s0, s1, s2, s3, s4, s5, s6⟩
                                            go_simp
                                            with_reducible rfl
                                          rotate_left
                                          · simp only [Act.put, List.setIfInBounds_toArray, List.set_cons_zero, List.set_cons_succ, i64_w, i32_w]
                                            rfl
                                          refine take_ (i := 13) (N := some 110) (v := ?_) (a' := ?_) #[true, true, true, true, true, true, true, true, true, true, true, true, true, true, true, false, false, false, false] rfl rfl (take_ofW HT_.out HW_.out (by kernel_rfl)) (fun _ _ _ h => h) (Or.inl ⟨by rfl, ?_⟩) hHeld ?_ ?_
                                          rotate_left
                                          · rintro w' ⟨s0, s1, s2, s3, s4, s5, s6⟩
                                            go_simp
                                            with_reducible rfl
                                          rotate_left
                                          · simp only [Act.put, List.setIfInBounds_toArray, List.set_cons_zero, List.set_cons_succ, i64_w, i32_w]
                                            rfl
                                          refine one_ (i := 15) (N := some 112) #[true, true, true, true, true, true, true, true, true, true, true, true, true, true, true, true, false, false, false] rfl rfl (one_of HT_.out (by kernel_rfl)) (by decide) (fun K hK => ?_)
                                          refine goes_ Try.func19 (by kernel_rfl) rfl #[.agg #[.int .i64 t545, .int .i64 t546, .slice (some ad564) t547.length co23], .int .i64 x15_4] (by rfl) rfl rfl (by (try simp only [List.map_toArray, List.map_cons, List.map_nil]); first | done | rfl | (simp only [List.length_drop, List.length_take]; rfl)) ?_
                                          with_reducible refine (spec_DemandOf.calls k4 t545 t546 _ _ t547 x15_4 t580 _ ?side1 ?side2 A96.out).mono ?_
                                          (case side1 => repeat (first | exact (Kd.R_reads' HO_551002.out).2.2 | (with_reducible refine Kd.C_alloc ?_ _) | (with_reducible refine Kd.C_drewN ?_ _) | (with_reducible refine Kd.C_drew ?_)))
                                          (case side2 => exact (Kd.R_reads' HO_551002.out).2.1)
                                          rintro e w102 ⟨rfl, hb⟩
                                          have HS6_ := (hb.cell (World.block_lt_of_cell? _ _ (hHeld.2.2.2.2.2.2))).trans (hHeld.2.2.2.2.2.2)
                                          refine ⟨_, rfl, ?_⟩
                                          have n0_ := Aside0.mk (Kd.R_below (by (with_reducible repeat (first | apply Kd.R_alloc | apply Kd.R_drewN | apply Kd.R_drew)); exact HO_12.out) hb)
                                          have n1_ := Aside0.mk (Kd.R_below (by (with_reducible repeat (first | apply Kd.R_alloc | apply Kd.R_drewN | apply Kd.R_drew)); exact HO_545002.out) hb)
                                          have n2_ := Aside0.mk (Kd.R_below (by (with_reducible repeat (first | apply Kd.R_alloc | apply Kd.R_drewN | apply Kd.R_drew)); exact HO_551002.out) hb)
                                          have n3_ := Aside0.mk (Kd.R_below (by (with_reducible repeat (first | apply Kd.R_alloc | apply Kd.R_drewN | apply Kd.R_drew)); exact HO_562002.out) hb)
                                          have n4_ := Aside0.mk (blk_below (g := gb544) (o := .cells #[.int .i64 t539, .int .i64 t540, .slice Ao18 t541.length co18] 24 (0, 0)) (by (with_reducible repeat (first | refine blk_drewN ?_ _ | refine blk_drew ?_ | refine blk_alloc ?_ _)); exact BK544.out) hb)
                                          have n5_ := Aside0.mk (blk_below (g := gb550) (o := .cells #[.int .i64 t545, .int .i64 t546, .slice (some ad564) t547.length co23] 24 (0, 0)) (by (with_reducible repeat (first | refine blk_drewN ?_ _ | refine blk_drew ?_ | refine blk_alloc ?_ _)); exact BK550.out) hb)
                                          have n6_ := Aside0.mk (blk_below (g := gb561) (o := .cells #[.int .i64 x562000_3, .int .i64 x562001_3, .slice Ao99 x562002_3.length co99] 24 (0, 0)) (by (with_reducible repeat (first | refine blk_drewN ?_ _ | refine blk_drew ?_ | refine blk_alloc ?_ _)); exact BK561.out) hb)
                                          have n7_ := Aside0.mk (below_step (by repeat (first | (with_reducible first | exact HB.out | apply below_alloc | apply pw_below_drewN | apply below_drew1 | refine below_set ?_ GE544.out | refine below_set ?_ GE550.out | refine below_set ?_ GE561.out) | exact HB.out)) hb)
                                          clear HO_12
                                          clear HO_545002
                                          clear HO_551002
                                          clear HO_562002
                                          clear BK544
                                          clear BK550
                                          clear BK561
                                          clear HB
                                          have HO_12 := n0_
                                          have HO_545002 := n1_
                                          have HO_551002 := n2_
                                          have HO_562002 := n3_
                                          have BK544 := n4_
                                          have BK550 := n5_
                                          have BK561 := n6_
                                          have HB := n7_
                                          clear n0_ n1_ n2_ n3_ n4_ n5_ n6_ n7_
                                          (try clear hb)
                                          (try clear hb2)
                                          (try clear hk)
                                          (try clear hi)
                                          refine hK.out _ _ ⟨(blk_cell BK561.out 0).trans rfl, (blk_cell BK561.out 1).trans rfl, (blk_cell BK561.out 2).trans rfl, (blk_cell BK550.out 0).trans rfl, (blk_cell BK550.out 1).trans rfl, (blk_cell BK550.out 2).trans rfl, HS6_⟩ (fun hHeld => ?_)
                                          clear hK K
                                          refine norm_ (a' := ?_) ?_ ?_
                                          rotate_left
                                          · show Act.put _ (some 112) _ = _
                                            simp only [Act.put, List.setIfInBounds_toArray, List.set_cons_zero, List.set_cons_succ, i64_w, i32_w]
                                            rfl
                                          refine pure_ (i := 16) (N := some 113) (v := ?_) (a' := ?_) #[true, true, true, true, true, true, true, true, true, true, true, true, true, true, true, true, true, false, false] rfl rfl (any_of HT_.out (by kernel_rfl)) (fun _ _ _ h => h) (Or.inl ⟨by rfl, ?_⟩) ?_ ?_
                                          rotate_left
                                          · intro w'
                                            go_simp
                                            with_reducible rfl
                                          rotate_left
                                          · simp only [Act.put, List.setIfInBounds_toArray, List.set_cons_zero, List.set_cons_succ, i64_w, i32_w]
                                            rfl
                                          refine pure_ (i := 17) (N := some 114) (v := ?_) (a' := ?_) #[true, true, true, true, true, true, true, true, true, true, true, true, true, true, true, true, true, true, false] rfl rfl (any_of HT_.out (by kernel_rfl)) (fun _ _ _ h => h) (Or.inl ⟨by rfl, ?_⟩) ?_ ?_
                                          rotate_left
                                          · intro w'
                                            go_simp
                                            with_reducible rfl
                                          rotate_left
                                          · simp only [Act.put, List.setIfInBounds_toArray, List.set_cons_zero, List.set_cons_succ, i64_w, i32_w]
                                            rfl
                                          refine pure_ (i := 18) (N := some 115) (v := ?_) (a' := ?_) #[true, true, true, true, true, true, true, true, true, true, true, true, true, true, true, true, true, true, true] rfl rfl (any_of HT_.out (by kernel_rfl)) (fun _ _ _ h => h) (Or.inl ⟨by rfl, ?_⟩) ?_ ?_
                                          rotate_left
                                          · intro w'
                                            go_simp
                                            with_reducible rfl
                                          rotate_left
                                          · simp only [Act.put, List.setIfInBounds_toArray, List.set_cons_zero, List.set_cons_succ, i64_w, i32_w]
                                            rfl
                                          refine done_ (done_of HT_.out (by kernel_rfl)) ?_
                                          try go_wp2
                                          go_roundg k4
                                          case measure => have := HJ13.out; have := HJ39.out; have := HK3.out; have := HK4.out; omega
                                          case rel => exact ⟨(wrap64 (x15_4 + 1)), (by first | rfl | (simp; done) | (simp [*]; done)), H', ⟨by have := HJ13.out; have := HJ39.out; have := HK3.out; have := HK4.out; omega⟩, ⟨by (with_reducible repeat (first | apply Kd.R_alloc | apply Kd.R_drewN | apply Kd.R_drew)); exact HO_12.out⟩, ⟨by (with_reducible repeat (first | apply Kd.R_alloc | apply Kd.R_drewN | apply Kd.R_drew)); exact HO_545002.out⟩, ⟨by (with_reducible repeat (first | apply Kd.R_alloc | apply Kd.R_drewN | apply Kd.R_drew)); exact HO_551002.out⟩, ⟨by (with_reducible repeat (first | apply Kd.R_alloc | apply Kd.R_drewN | apply Kd.R_drew)); exact HO_562002.out⟩, ⟨by (with_reducible repeat (first | refine blk_drewN ?_ _ | refine blk_drew ?_ | refine blk_alloc ?_ _)); exact BK544.out⟩, ⟨by (with_reducible repeat (first | refine blk_drewN ?_ _ | refine blk_drew ?_ | refine blk_alloc ?_ _)); exact BK550.out⟩, ⟨by (with_reducible repeat (first | refine blk_drewN ?_ _ | refine blk_drew ?_ | refine blk_alloc ?_ _)); exact BK561.out⟩, ⟨by repeat (first | (with_reducible first | exact HB.out | apply below_alloc | apply pw_below_drewN | apply below_drew1 | refine below_set ?_ GE544.out | refine below_set ?_ GE550.out | refine below_set ?_ GE561.out) | exact HB.out)⟩⟩
                                        · rw [if_neg c97] at H
                                          have c97b0 : ((rd t565 x15_4) == t580) = false := beq_eq_false_iff_ne.mpr c97
                                          have c97b1 : ((rd t565 x15_4) != t580) = true := bne_iff_ne.mpr c97
                                          exact absurd hr_ (by rw [← Option.some.inj H]; decide)
                                      · rw [if_neg c95] at H
                                        exact absurd H (by simp)
                                    · rw [if_neg c94] at H
                                      exact absurd H (by simp)
                                · rw [if_neg c89] at H
                                  have c89b0 : (t578 == 0) = false := beq_eq_false_iff_ne.mpr c89
                                  have c89b1 : (t578 != 0) = true := bne_iff_ne.mpr c89
                                  exact absurd hr_ (by rw [← Option.some.inj H]; decide)
                              · rw [if_neg c87] at H
                                have c87b0 : decide (x15_4 < 6) = false := decide_eq_false c87
                                clear c87
                                replace H := Option.bind_eq_some_iff.mp H
                                obtain ⟨t577, A1030, H⟩ := H
                                replace H : (some t577) = some r := H
                                have A103 := Aside0.mk A1030
                                clear A1030
                                obtain rfl := Option.some.inj H
                                have hnb104 := NB561_544.out
                                have hnc104 := NB544_561.out
                                have hnb105 := NB561_550.out
                                have hnc105 := NB550_561.out
                                have hcz106_0 : wr.cell? ⟨gb561, 0, none⟩ = some (.int .i64 x562000_3) := (blk_cell BK561.out 0).trans rfl
                                have hcz106_1 : wr.cell? ⟨gb561, 1, none⟩ = some (.int .i64 x562001_3) := (blk_cell BK561.out 1).trans rfl
                                have hcz106_2 : wr.cell? ⟨gb561, 2, none⟩ = some (u562002) := (blk_cell BK561.out 2).trans rfl
                                have hfz106_0 := blk_frozen BK561.out 0
                                have hfz106_1 := blk_frozen BK561.out 1
                                have hfz106_2 := blk_frozen BK561.out 2
                                obtain ⟨Ao107, co107, eo107⟩ := Kd.R_slice HO_562002.out
                                subst eo107
                                go_wp2_with (first | ((with_reducible refine gate_callee (f := 18) rfl ?_); refine goesL_ (some 117) rfl rfl Try.func18 (by kernel_rfl) rfl #[.agg #[.int .i64 x562000_3, .int .i64 x562001_3, .slice Ao107 x562002_3.length co107]] rfl (by (try simp only [List.map_toArray, List.map_cons, List.map_nil]); first | done | rfl | (simp only [List.length_drop, List.length_take]; rfl)) ?_; (with_reducible refine (impl_WindowOk.calls x562000_3 x562001_3 _ _ x562002_3 t577 _ ?side1 ?side2 A103.out).mono ?_); (case side1 => repeat (first | exact (Kd.R_reads' HO_562002.out).2.2 | (with_reducible refine Kd.C_alloc ?_ _) | (with_reducible refine Kd.C_drewN ?_ _) | (with_reducible refine Kd.C_drew ?_))); (case side2 => exact (Kd.R_reads' HO_562002.out).2.1); rintro e w108 ⟨rfl, hb⟩; refine ⟨_, rfl, ?_⟩; have n0_ := Aside0.mk (Kd.R_below (by (with_reducible repeat (first | apply Kd.R_alloc | apply Kd.R_drewN | apply Kd.R_drew)); exact HO_12.out) hb); have n1_ := Aside0.mk (Kd.R_below (by (with_reducible repeat (first | apply Kd.R_alloc | apply Kd.R_drewN | apply Kd.R_drew)); exact HO_545002.out) hb); have n2_ := Aside0.mk (Kd.R_below (by (with_reducible repeat (first | apply Kd.R_alloc | apply Kd.R_drewN | apply Kd.R_drew)); exact HO_551002.out) hb); have n3_ := Aside0.mk (Kd.R_below (by (with_reducible repeat (first | apply Kd.R_alloc | apply Kd.R_drewN | apply Kd.R_drew)); exact HO_562002.out) hb); have n4_ := Aside0.mk (blk_below (g := gb544) (o := .cells #[.int .i64 t539, .int .i64 t540, .slice Ao18 t541.length co18] 24 (0, 0)) (by (with_reducible repeat (first | refine blk_drewN ?_ _ | refine blk_drew ?_ | refine blk_alloc ?_ _)); exact BK544.out) hb); have n5_ := Aside0.mk (blk_below (g := gb550) (o := .cells #[.int .i64 t545, .int .i64 t546, .slice (some ad564) t547.length co23] 24 (0, 0)) (by (with_reducible repeat (first | refine blk_drewN ?_ _ | refine blk_drew ?_ | refine blk_alloc ?_ _)); exact BK550.out) hb); have n6_ := Aside0.mk (blk_below (g := gb561) (o := .cells #[.int .i64 x562000_3, .int .i64 x562001_3, .slice Ao107 x562002_3.length co107] 24 (0, 0)) (by (with_reducible repeat (first | refine blk_drewN ?_ _ | refine blk_drew ?_ | refine blk_alloc ?_ _)); exact BK561.out) hb); have n7_ := Aside0.mk (below_step (by repeat (first | (with_reducible first | exact HB.out | apply below_alloc | apply pw_below_drewN | apply below_drew1 | refine below_set ?_ GE544.out | refine below_set ?_ GE550.out | refine below_set ?_ GE561.out) | exact HB.out)) hb); clear HO_12; clear HO_545002; clear HO_551002; clear HO_562002; clear BK544; clear BK550; clear BK561; clear HB; have HO_12 := n0_; have HO_545002 := n1_; have HO_551002 := n2_; have HO_562002 := n3_; have BK544 := n4_; have BK550 := n5_; have BK561 := n6_; have HB := n7_; clear n0_ n1_ n2_ n3_ n4_ n5_ n6_ n7_; (try clear hb); (try clear hb2); (try clear hk); (try clear hi)))
                                go_ret
                                exact ⟨by first | rfl | (simp [errW_none, errW_some] <;> rfl) | (simp only [← hji11]; first | rfl | (simp [errW_none, errW_some] <;> rfl)) | (simp [*, errW_none, errW_some] <;> rfl), by repeat (first | (with_reducible first | exact HB.out | apply below_alloc | apply pw_below_drewN | apply below_drew1 | refine below_set ?_ GE544.out | refine below_set ?_ GE550.out | refine below_set ?_ GE561.out) | exact HB.out)⟩
        · rw [if_neg c13] at H
          exact absurd H (by simp)
      · rw [if_neg c12] at H
        exact absurd H (by simp)
    · rw [if_neg c7] at H
      exact absurd H (by simp)

/-- THE ONE PURE STATEMENT of laws_FnWindows: yours. -/
def laws_FnWindows.Pure : Prop := ∀ (l0 : List Int), l0.length ≤ maxLen → l0.length * 1 ≤ 140737488351232 → (∀ x ∈ l0, (Lit.int .u8 x).wf = true) → ∃ k, laws_FnWindows.f k l0 = some true
theorem laws_FnWindows.walk (P : laws_FnWindows.Pure) (a0 : Option Addr) (len0 cap0 : Nat) (z0 : List Int) (w : World) (w0 : (a0 = none ∧ len0 = 0 ∧ cap0 = 0 ∧ z0 = []) ∨ ∃ x, a0 = some x ∧ len0 ≤ cap0 ∧ cap0 ≤ maxLen ∧ z0.length = cap0 ∧ (∀ i, i < z0.length → w.cell? (x.add i) = some (.int .u8 (z0.getD i 0))) ∧ ∀ n ∈ z0, (Lit.int .u8 n).wf = true) (y0 : len0 * 1 ≤ 140737488351232) :
    Calls Try.prog 9 #[.slice a0 len0 cap0] w fun e w' => e = .returned (.bool true) ∧ Below w.heap.size w w' := by
  obtain ⟨l0, rfl, hr0, hm0, hw0, hc0⟩ := ReadsInt.ofRowC w0
  obtain ⟨k, h⟩ := P l0 hm0 y0 hw0
  refine (laws_FnWindows.calls k _ _ l0 true w (Kd.C_of_reads (d := (0 : Int)) (h1 := fun _ => rfl) hr0) hc0 rfl h).mono ?_
  rintro e w' ⟨rfl, hd⟩
  exact ⟨rfl, hd⟩

end Go.Proofs.Ytpjmfmnnkcibjaa.Q
