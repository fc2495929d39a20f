-- Written by a session's own program (wip/tools/myprint.py) over the kit's printer, out of the translation. Not trusted: Lean checks it.
import Derived.Test.YtngoejcaabgidaaQ0
import Derived.Test.YtngoejcaabgidaaQ2
import Derived.Test.YtngoejcaabgidaaQ4
namespace Go.Proofs.Ytngoejcaabgidaa.Q
open Go.RowKit Go.Proofs.YtngoejcaabgidaaW.PrintWords Go.Proofs.YtngoejcaabgidaaW.PrintLast Go.Proofs.YtngoejcaabgidaaW.PrintMore
attribute [local go_sem] max2_int min2_int max_two min_two max_three min_three max_four min_four   -- for this text's walks alone
set_option linter.unusedVariables false
set_option linter.unusedSimpArgs false

/-! ### impl_FairDeal: function 20 -/
mutual
def impl_FairDeal.j0 : Nat → List Int → List Int → Int → List Int → Bool → Option (Bool)
 | 0, _, _, _, _, _ => none
 | k + 1, x0, x1, x2, x3, x26 => if x26 = true then (some false) else ((impl_FullIn.f k x0 x1 x2).bind fun t240 => (impl_FairDeal.l0 k x0 x1 x2 x3 t240 0 x3 (x3.length : Int) 0))
def impl_FairDeal.l0 : Nat → List Int → List Int → Int → List Int → List Bool → Int → List Int → Int → Int → Option (Bool)
 | 0, _, _, _, _, _, _, _, _, _ => none
 | k + 1, x0, x1, x2, x3, x9, x10, x31, x32, x33 => if x33 < x32 then (if 0 ≤ x33 then (if x33 < (x31.length : Int) then (if (rd x31 x33) < 0 then (impl_FairDeal.j2 k x0 x1 x2 x3 x9 x10 x33 (rd x31 x33) x31 x32 x33 true) else (if x33 < (x1.length : Int) then (if (rd x31 x33) > (rd x1 x33) then (impl_FairDeal.j2 k x0 x1 x2 x3 x9 x10 x33 (rd x31 x33) x31 x32 x33 true) else (if x33 < (x0.length : Int) then (if (rd x0 x33) = 0 then (impl_FairDeal.j2 k x0 x1 x2 x3 x9 x10 x33 (rd x31 x33) x31 x32 x33 ((rd x31 x33) != 0)) else (impl_FairDeal.j2 k x0 x1 x2 x3 x9 x10 x33 (rd x31 x33) x31 x32 x33 false)) else (none))) else (none))) else (none)) else (none)) else (some (x10 == x2))
def impl_FairDeal.j2 : Nat → List Int → List Int → Int → List Int → List Bool → Int → Int → Int → List Int → Int → Int → Bool → Option (Bool)
 | 0, _, _, _, _, _, _, _, _, _, _, _, _ => none
 | k + 1, x0, x1, x2, x3, x9, x10, x11, x12, x31, x32, x33, x58 => if x58 = true then (some false) else (impl_FairDeal.l1 k x0 x1 x2 x3 x9 (wrap64 (x10 + x12)) x11 x12 x31 x32 x33 x3 (x3.length : Int) 0)
def impl_FairDeal.l1 : Nat → List Int → List Int → Int → List Int → List Bool → Int → Int → Int → List Int → Int → Int → List Int → Int → Int → Option (Bool)
 | 0, _, _, _, _, _, _, _, _, _, _, _, _, _, _ => none
 | k + 1, x0, x1, x2, x3, x9, x10, x11, x12, x31, x32, x33, x62, x63, x64 => if x64 < x63 then (if 0 ≤ x64 then (if x64 < (x62.length : Int) then (if 0 ≤ x11 then (if x11 < (x9.length : Int) then (if rdOf false x9 x11 = true then (impl_FairDeal.l1 k x0 x1 x2 x3 x9 x10 x11 x12 x31 x32 x33 x62 x63 (wrap64 (x64 + 1))) else (if x64 < (x9.length : Int) then (if rdOf false x9 x64 = true then (impl_FairDeal.l1 k x0 x1 x2 x3 x9 x10 x11 x12 x31 x32 x33 x62 x63 (wrap64 (x64 + 1))) else (if x11 < (x0.length : Int) then (if x64 < (x0.length : Int) then (if (rd x0 x11) > (rd x0 x64) then (if x12 < (rd x62 x64) then (some false) else (impl_FairDeal.l1 k x0 x1 x2 x3 x9 x10 x11 x12 x31 x32 x33 x62 x63 (wrap64 (x64 + 1)))) else (impl_FairDeal.l1 k x0 x1 x2 x3 x9 x10 x11 x12 x31 x32 x33 x62 x63 (wrap64 (x64 + 1)))) else (none)) else (none))) else (none))) else (none)) else (none)) else (none)) else (none)) else (impl_FairDeal.l0 k x0 x1 x2 x3 x9 x10 x31 x32 (wrap64 (x33 + 1)))
end
def impl_FairDeal.f (k : Nat) (l0 : List Int) (l1 : List Int) (a2 : Int) (l3 : List Int) : Option (Bool) := (impl_DealOk.f k l0 l1 a2).bind fun t239 => (if t239 = true then (impl_FairDeal.j0 k l0 l1 a2 l3 ((l3.length : Int) != (l0.length : Int))) else (impl_FairDeal.j0 k l0 l1 a2 l3 true))
theorem impl_FairDeal.mono_l : ∀ k, (∀ y0 y1 y2 y3 y4, LeO (impl_FairDeal.j0 k y0 y1 y2 y3 y4) (impl_FairDeal.j0 (k + 1) y0 y1 y2 y3 y4)) ∧ (∀ y0 y1 y2 y3 y4 y5 y6 y7 y8, LeO (impl_FairDeal.l0 k y0 y1 y2 y3 y4 y5 y6 y7 y8) (impl_FairDeal.l0 (k + 1) y0 y1 y2 y3 y4 y5 y6 y7 y8)) ∧ (∀ y0 y1 y2 y3 y4 y5 y6 y7 y8 y9 y10 y11, LeO (impl_FairDeal.j2 k y0 y1 y2 y3 y4 y5 y6 y7 y8 y9 y10 y11) (impl_FairDeal.j2 (k + 1) y0 y1 y2 y3 y4 y5 y6 y7 y8 y9 y10 y11)) ∧ (∀ y0 y1 y2 y3 y4 y5 y6 y7 y8 y9 y10 y11 y12 y13, LeO (impl_FairDeal.l1 k y0 y1 y2 y3 y4 y5 y6 y7 y8 y9 y10 y11 y12 y13) (impl_FairDeal.l1 (k + 1) y0 y1 y2 y3 y4 y5 y6 y7 y8 y9 y10 y11 y12 y13))
 | 0 => ⟨fun _ _ _ _ _ r h => by simp [impl_FairDeal.j0] at h, fun _ _ _ _ _ _ _ _ _ r h => by simp [impl_FairDeal.l0] at h, fun _ _ _ _ _ _ _ _ _ _ _ _ r h => by simp [impl_FairDeal.j2] at h, fun _ _ _ _ _ _ _ _ _ _ _ _ _ _ r h => by simp [impl_FairDeal.l1] at h⟩
 | k + 1 => by
  obtain ⟨ih0, ih1, ih2, ih3⟩ := impl_FairDeal.mono_l k
  refine ⟨?_, ?_, ?_, ?_⟩
  ·intro y0 y1 y2 y3 y4
   unfold impl_FairDeal.j0
   repeat' first
   | (with_reducible exact ih0 _ _ _ _ _)
   | (with_reducible exact ih1 _ _ _ _ _ _ _ _ _)
   | (with_reducible exact ih2 _ _ _ _ _ _ _ _ _ _ _ _)
   | (with_reducible exact ih3 _ _ _ _ _ _ _ _ _ _ _ _ _ _)
   | (with_reducible exact impl_DealOk.mono _ _ _ _)
   | (with_reducible exact impl_FullIn.mono _ _ _ _)
   | (with_reducible exact LeO.refl _)
   | (with_reducible exact LeO.none _)
   | (with_reducible refine LeO.ite ?_ ?_)
   | (with_reducible refine LeO.bind ?_ (fun _ => ?_))
   | exact ih0 _ _ _ _ _
   | exact ih1 _ _ _ _ _ _ _ _ _
   | exact ih2 _ _ _ _ _ _ _ _ _ _ _ _
   | exact ih3 _ _ _ _ _ _ _ _ _ _ _ _ _ _
   | exact impl_DealOk.mono _ _ _ _
   | exact impl_FullIn.mono _ _ _ _
   | exact LeO.none _
   | refine LeO.ite ?_ ?_
   | refine LeO.bind ?_ (fun _ => ?_)
  ·intro y0 y1 y2 y3 y4 y5 y6 y7 y8
   unfold impl_FairDeal.l0
   repeat' first
   | (with_reducible exact ih0 _ _ _ _ _)
   | (with_reducible exact ih1 _ _ _ _ _ _ _ _ _)
   | (with_reducible exact ih2 _ _ _ _ _ _ _ _ _ _ _ _)
   | (with_reducible exact ih3 _ _ _ _ _ _ _ _ _ _ _ _ _ _)
   | (with_reducible exact impl_DealOk.mono _ _ _ _)
   | (with_reducible exact impl_FullIn.mono _ _ _ _)
   | (with_reducible exact LeO.refl _)
   | (with_reducible exact LeO.none _)
   | (with_reducible refine LeO.ite ?_ ?_)
   | (with_reducible refine LeO.bind ?_ (fun _ => ?_))
   | exact ih0 _ _ _ _ _
   | exact ih1 _ _ _ _ _ _ _ _ _
   | exact ih2 _ _ _ _ _ _ _ _ _ _ _ _
   | exact ih3 _ _ _ _ _ _ _ _ _ _ _ _ _ _
   | exact impl_DealOk.mono _ _ _ _
   | exact impl_FullIn.mono _ _ _ _
   | exact LeO.none _
   | refine LeO.ite ?_ ?_
   | refine LeO.bind ?_ (fun _ => ?_)
  ·intro y0 y1 y2 y3 y4 y5 y6 y7 y8 y9 y10 y11
   unfold impl_FairDeal.j2
   repeat' first
   | (with_reducible exact ih0 _ _ _ _ _)
   | (with_reducible exact ih1 _ _ _ _ _ _ _ _ _)
   | (with_reducible exact ih2 _ _ _ _ _ _ _ _ _ _ _ _)
   | (with_reducible exact ih3 _ _ _ _ _ _ _ _ _ _ _ _ _ _)
   | (with_reducible exact impl_DealOk.mono _ _ _ _)
   | (with_reducible exact impl_FullIn.mono _ _ _ _)
   | (with_reducible exact LeO.refl _)
   | (with_reducible exact LeO.none _)
   | (with_reducible refine LeO.ite ?_ ?_)
   | (with_reducible refine LeO.bind ?_ (fun _ => ?_))
   | exact ih0 _ _ _ _ _
   | exact ih1 _ _ _ _ _ _ _ _ _
   | exact ih2 _ _ _ _ _ _ _ _ _ _ _ _
   | exact ih3 _ _ _ _ _ _ _ _ _ _ _ _ _ _
   | exact impl_DealOk.mono _ _ _ _
   | exact impl_FullIn.mono _ _ _ _
   | exact LeO.none _
   | refine LeO.ite ?_ ?_
   | refine LeO.bind ?_ (fun _ => ?_)
  ·intro y0 y1 y2 y3 y4 y5 y6 y7 y8 y9 y10 y11 y12 y13
   unfold impl_FairDeal.l1
   repeat' first
   | (with_reducible exact ih0 _ _ _ _ _)
   | (with_reducible exact ih1 _ _ _ _ _ _ _ _ _)
   | (with_reducible exact ih2 _ _ _ _ _ _ _ _ _ _ _ _)
   | (with_reducible exact ih3 _ _ _ _ _ _ _ _ _ _ _ _ _ _)
   | (with_reducible exact impl_DealOk.mono _ _ _ _)
   | (with_reducible exact impl_FullIn.mono _ _ _ _)
   | (with_reducible exact LeO.refl _)
   | (with_reducible exact LeO.none _)
   | (with_reducible refine LeO.ite ?_ ?_)
   | (with_reducible refine LeO.bind ?_ (fun _ => ?_))
   | exact ih0 _ _ _ _ _
   | exact ih1 _ _ _ _ _ _ _ _ _
   | exact ih2 _ _ _ _ _ _ _ _ _ _ _ _
   | exact ih3 _ _ _ _ _ _ _ _ _ _ _ _ _ _
   | exact impl_DealOk.mono _ _ _ _
   | exact impl_FullIn.mono _ _ _ _
   | exact LeO.none _
   | refine LeO.ite ?_ ?_
   | refine LeO.bind ?_ (fun _ => ?_)
theorem impl_FairDeal.mono : ∀ a0 a1 a2 a3 k, LeO (impl_FairDeal.f k a0 a1 a2 a3) (impl_FairDeal.f (k + 1) a0 a1 a2 a3) := by
 intro a0 a1 a2 a3 k
 obtain ⟨ih0, ih1, ih2, ih3⟩ := impl_FairDeal.mono_l k
 unfold impl_FairDeal.f
 repeat' first
   | (with_reducible exact ih0 _ _ _ _ _)
   | (with_reducible exact ih1 _ _ _ _ _ _ _ _ _)
   | (with_reducible exact ih2 _ _ _ _ _ _ _ _ _ _ _ _)
   | (with_reducible exact ih3 _ _ _ _ _ _ _ _ _ _ _ _ _ _)
   | (with_reducible exact impl_DealOk.mono _ _ _ _)
   | (with_reducible exact impl_FullIn.mono _ _ _ _)
   | (with_reducible exact LeO.refl _)
   | (with_reducible exact LeO.none _)
   | (with_reducible refine LeO.ite ?_ ?_)
   | (with_reducible refine LeO.bind ?_ (fun _ => ?_))
   | exact ih0 _ _ _ _ _
   | exact ih1 _ _ _ _ _ _ _ _ _
   | exact ih2 _ _ _ _ _ _ _ _ _ _ _ _
   | exact ih3 _ _ _ _ _ _ _ _ _ _ _ _ _ _
   | exact impl_DealOk.mono _ _ _ _
   | exact impl_FullIn.mono _ _ _ _
   | exact LeO.none _
   | refine LeO.ite ?_ ?_
   | refine LeO.bind ?_ (fun _ => ?_)
set_option maxHeartbeats 8000000 in
set_option maxRecDepth 100000 in
theorem impl_FairDeal.calls (k : Nat) (A0 : Option Addr) (c0 : Nat) (l0 : List Int) (A1 : Option Addr) (c1 : Nat) (l1 : List Int) (a2 : Int) (A3 : Option Addr) (c3 : Nat) (l3 : List Int) (r : Bool) (w : World) (hr0 : Kd.C (Kd.int .i64) w A0 l0.length l0) (hc0 : l0.length ≤ c0) (hr1 : Kd.C (Kd.int .i64) w A1 l1.length l1) (hc1 : l1.length ≤ c1) (hr3 : Kd.C (Kd.int .i64) w A3 l3.length l3) (hc3 : l3.length ≤ c3) (h : impl_FairDeal.f k l0 l1 a2 l3 = some r) :
  Calls Try.prog 20 #[.slice A0 l0.length c0, .slice A1 l1.length c1, .int .i64 a2, .slice A3 l3.length c3] w fun e w' => e = .returned (.bool r) ∧ Below w.heap.size w w' := by
 have HR0 := Aside0.mk hr0
 have HC0 := Aside0.mk hc0
 clear hr0 hc0
 have HR1 := Aside0.mk hr1
 have HC1 := Aside0.mk hc1
 clear hr1 hc1
 have HR3 := Aside0.mk hr3
 have HC3 := Aside0.mk hc3
 clear hr3 hc3
 have HB := Aside0.mk (Below.refl w.heap.size w)
 have H : ((impl_DealOk.f k l0 l1 a2).bind fun t239 => (if t239 = true then (impl_FairDeal.j0 k l0 l1 a2 l3 ((l3.length : Int) != (l0.length : Int))) else (impl_FairDeal.j0 k l0 l1 a2 l3 true))) = some r := h
 clear h
 have HC5 := Aside0.mk H
 clear H
 go_enter Try.func20, Try.ntmps20
 go_upto_region 1 with (fail)
 repeat (go_quiet (fail); go_upto_region 1 with (fail))
 go_cut [26] (fun v26 wc => ∃ (kq : Nat) (x26_4 : Bool), v26 = .bool x26_4 ∧ Aside0 (impl_FairDeal.j0 kq l0 l1 a2 l3 x26_4 = some r) ∧ Aside0 (kq ≤ k) ∧ Aside0 (Below w.heap.size w wc))
 case first =>
  have H := HC5.out
  clear HC5
  replace H := Option.bind_eq_some_iff.mp H
  obtain ⟨t239, A60, H⟩ := H
  replace H : (if t239 = true then (impl_FairDeal.j0 k l0 l1 a2 l3 ((l3.length : Int) != (l0.length : Int))) else (impl_FairDeal.j0 k l0 l1 a2 l3 true)) = some r := H
  have A6 := Aside0.mk A60
  clear A60
  by_cases c7 : t239 = true
  ·subst c7
   have H1 : (impl_FairDeal.j0 k l0 l1 a2 l3 ((l3.length : Int) != (l0.length : Int))) = some r := by rw [if_pos rfl] at H; exact H
   clear H
   have H := H1
   clear H1
   have H' := Aside0.mk H
   clear H
   repeat ((fail_if_success (first | clear z_ | done)); go_wp2_with (first | (go_at_call 11; (with_reducible refine (impl_DealOk.calls k _ _ l0 _ _ l1 a2 true _ ?side1 ?side2 ?side3 ?side4 A6.out).mono ?_); (case side1 => repeat (first | exact (Kd.C_below HR0.out HB.out) | (with_reducible refine Kd.C_alloc ?_ _) | (with_reducible refine Kd.C_drewN ?_ _) | (with_reducible refine Kd.C_drew ?_))); (case side2 => exact HC0.out); (case side3 => repeat (first | exact (Kd.C_below HR1.out HB.out) | (with_reducible refine Kd.C_alloc ?_ _) | (with_reducible refine Kd.C_drewN ?_ _) | (with_reducible refine Kd.C_drew ?_))); (case side4 => exact HC1.out); rintro e w8 ⟨rfl, hb⟩; have n0_ := Aside0.mk (below_step (uB HB.out) hb); clear HB; have HB := n0_; clear n0_; (try clear hb); (try clear hb2); (try clear hk); (try clear hi))); first | go_quiet (first | (go_at_call 11; (with_reducible refine (impl_DealOk.calls k _ _ l0 _ _ l1 a2 true _ ?side1 ?side2 ?side3 ?side4 A6.out).mono ?_); (case side1 => repeat (first | exact (Kd.C_below HR0.out HB.out) | (with_reducible refine Kd.C_alloc ?_ _) | (with_reducible refine Kd.C_drewN ?_ _) | (with_reducible refine Kd.C_drew ?_))); (case side2 => exact HC0.out); (case side3 => repeat (first | exact (Kd.C_below HR1.out HB.out) | (with_reducible refine Kd.C_alloc ?_ _) | (with_reducible refine Kd.C_drewN ?_ _) | (with_reducible refine Kd.C_drew ?_))); (case side4 => exact HC1.out); rintro e w8 ⟨rfl, hb⟩; have n0_ := Aside0.mk (below_step (uB HB.out) hb); clear HB; have HB := n0_; clear n0_; (try clear hb); (try clear hb2); (try clear hk); (try clear hi))) | have z_ := True.intro | skip)
   (try clear z_)
   go_meet
   case rel => exact ⟨_, (((l3.length : Int) != (l0.length : Int))), (by first | rfl | (simp; done) | (simp [*]; done)), H', ⟨by first | omega | exact Nat.le_refl _⟩, ⟨by repeat (first | (with_reducible first | exact HB.out | apply below_alloc | apply pw_below_drewN | apply below_drew1) | exact HB.out)⟩⟩
  ·replace c7 := Bool.eq_false_iff.mpr c7
   subst c7
   have H1 : (impl_FairDeal.j0 k l0 l1 a2 l3 true) = some r := by rw [if_neg (show ¬ (false = true) by decide)] at H; exact H
   clear H
   have H := H1
   clear H1
   have H' := Aside0.mk H
   clear H
   repeat ((fail_if_success (first | clear z_ | done)); go_wp2_with (first | (go_at_call 11; (with_reducible refine (impl_DealOk.calls k _ _ l0 _ _ l1 a2 false _ ?side1 ?side2 ?side3 ?side4 A6.out).mono ?_); (case side1 => repeat (first | exact (Kd.C_below HR0.out HB.out) | (with_reducible refine Kd.C_alloc ?_ _) | (with_reducible refine Kd.C_drewN ?_ _) | (with_reducible refine Kd.C_drew ?_))); (case side2 => exact HC0.out); (case side3 => repeat (first | exact (Kd.C_below HR1.out HB.out) | (with_reducible refine Kd.C_alloc ?_ _) | (with_reducible refine Kd.C_drewN ?_ _) | (with_reducible refine Kd.C_drew ?_))); (case side4 => exact HC1.out); rintro e w9 ⟨rfl, hb⟩; have n0_ := Aside0.mk (below_step (uB HB.out) hb); clear HB; have HB := n0_; clear n0_; (try clear hb); (try clear hb2); (try clear hk); (try clear hi))); first | go_quiet (first | (go_at_call 11; (with_reducible refine (impl_DealOk.calls k _ _ l0 _ _ l1 a2 false _ ?side1 ?side2 ?side3 ?side4 A6.out).mono ?_); (case side1 => repeat (first | exact (Kd.C_below HR0.out HB.out) | (with_reducible refine Kd.C_alloc ?_ _) | (with_reducible refine Kd.C_drewN ?_ _) | (with_reducible refine Kd.C_drew ?_))); (case side2 => exact HC0.out); (case side3 => repeat (first | exact (Kd.C_below HR1.out HB.out) | (with_reducible refine Kd.C_alloc ?_ _) | (with_reducible refine Kd.C_drewN ?_ _) | (with_reducible refine Kd.C_drew ?_))); (case side4 => exact HC1.out); rintro e w9 ⟨rfl, hb⟩; have n0_ := Aside0.mk (below_step (uB HB.out) hb); clear HB; have HB := n0_; clear n0_; (try clear hb); (try clear hb2); (try clear hk); (try clear hi))) | have z_ := True.intro | skip)
   (try clear z_)
   go_meet
   case rel => exact ⟨_, (true), (by first | rfl | (simp; done) | (simp [*]; done)), H', ⟨by first | omega | exact Nat.le_refl _⟩, ⟨by repeat (first | (with_reducible first | exact HB.out | apply below_alloc | apply pw_below_drewN | apply below_drew1) | exact HB.out)⟩⟩
 case rest =>
  clear HC5
  try clear c1
  try clear c2
  try clear p2
  try clear c3
  try clear c7
  obtain ⟨kq, x26_4, rfl, HA, HJ4, HB⟩ := hcut
  cases kq with
  | zero => exact absurd HA.out (by simp [impl_FairDeal.j0])
  | succ kj4 =>
   have H := HA.out
   clear HA
   simp only [impl_FairDeal.j0] at H
   by_cases c10 : x26_4 = true
   ·subst c10
    have H1 : (some false) = some r := by rw [if_pos rfl] at H; exact H
    clear H
    have H := H1
    clear H1
    obtain rfl := Option.some.inj H
    go_wp2
    repeat (go_quiet (fail); try go_wp2)
    go_ret
    exact ⟨by first | rfl | (simp [errW_none, errW_some] <;> rfl) | (simp [*, errW_none, errW_some] <;> rfl), by repeat (first | (with_reducible first | exact HB.out | apply below_alloc | apply pw_below_drewN | apply below_drew1) | exact HB.out)⟩
   ·replace c10 := Bool.eq_false_iff.mpr c10
    subst c10
    have H1 : ((impl_FullIn.f kj4 l0 l1 a2).bind fun t240 => (impl_FairDeal.l0 kj4 l0 l1 a2 l3 t240 0 l3 (l3.length : Int) 0)) = some r := by rw [if_neg (show ¬ (false = true) by decide)] at H; exact H
    clear H
    have H := H1
    clear H1
    replace H := Option.bind_eq_some_iff.mp H
    obtain ⟨t240, A110, H⟩ := H
    replace H : (impl_FairDeal.l0 kj4 l0 l1 a2 l3 t240 0 l3 (l3.length : Int) 0) = some r := H
    have A11 := Aside0.mk A110
    clear A110
    have H' := Aside0.mk H
    clear H
    repeat ((fail_if_success (first | clear z_ | done)); go_wp2_with (first | (go_at_call 14; (with_reducible refine (impl_FullIn.calls kj4 _ _ l0 _ _ l1 a2 t240 _ ?side1 ?side2 ?side3 ?side4 A11.out).mono ?_); (case side1 => repeat (first | exact (Kd.C_below HR0.out HB.out) | (with_reducible refine Kd.C_alloc ?_ _) | (with_reducible refine Kd.C_drewN ?_ _) | (with_reducible refine Kd.C_drew ?_))); (case side2 => exact HC0.out); (case side3 => repeat (first | exact (Kd.C_below HR1.out HB.out) | (with_reducible refine Kd.C_alloc ?_ _) | (with_reducible refine Kd.C_drewN ?_ _) | (with_reducible refine Kd.C_drew ?_))); (case side4 => exact HC1.out); rintro e w12 ⟨v241, rfl, ho0, hb⟩; have n0_ := Aside0.mk (Kd.R_lower ho0 (below_size (uB HB.out))); have n1_ := Aside0.mk (below_step (uB HB.out) hb); clear HB; have HO242 := n0_; have HB := n1_; clear n0_ n1_; (try clear hb); (try clear hb2); (try clear hk); (try clear hi); (try clear ho0))); first | go_quiet (first | (go_at_call 14; (with_reducible refine (impl_FullIn.calls kj4 _ _ l0 _ _ l1 a2 t240 _ ?side1 ?side2 ?side3 ?side4 A11.out).mono ?_); (case side1 => repeat (first | exact (Kd.C_below HR0.out HB.out) | (with_reducible refine Kd.C_alloc ?_ _) | (with_reducible refine Kd.C_drewN ?_ _) | (with_reducible refine Kd.C_drew ?_))); (case side2 => exact HC0.out); (case side3 => repeat (first | exact (Kd.C_below HR1.out HB.out) | (with_reducible refine Kd.C_alloc ?_ _) | (with_reducible refine Kd.C_drewN ?_ _) | (with_reducible refine Kd.C_drew ?_))); (case side4 => exact HC1.out); rintro e w12 ⟨v241, rfl, ho0, hb⟩; have n0_ := Aside0.mk (Kd.R_lower ho0 (below_size (uB HB.out))); have n1_ := Aside0.mk (below_step (uB HB.out) hb); clear HB; have HO242 := n0_; have HB := n1_; clear n0_ n1_; (try clear hb); (try clear hb2); (try clear hk); (try clear hi); (try clear ho0))) | have z_ := True.intro | skip)
    (try clear z_)
    go_loopg [10, 33] kj4 (fun kq v10 v33 w' => ∃ (x10_2 : Int) (x33_2 : Int), v10 = .int .i64 x10_2 ∧ v33 = .int .i64 x33_2 ∧ Aside0 (impl_FairDeal.l0 kq l0 l1 a2 l3 t240 x10_2 l3 (l3.length : Int) x33_2 = some r) ∧ Aside0 (kq ≤ kj4) ∧ Aside0 (Kd.R Kd.bool 4 w' w.heap.size (fun _ => True) v241 t240) ∧ Aside0 (Below w.heap.size w w'))
    case atStart => exact ⟨(0), (0), (by first | rfl | (simp; done) | (simp [*]; done)), (by first | rfl | (simp; done) | (simp [*]; done)), H', ⟨Nat.le_refl _⟩, ⟨by (with_reducible repeat (first | apply Kd.R_alloc | apply Kd.R_drewN | apply Kd.R_drew)); exact HO242.out⟩, ⟨by repeat (first | (with_reducible first | exact HB.out | apply below_alloc | apply pw_below_drewN | apply below_drew1) | exact HB.out)⟩⟩
    case round =>
     clear H'
     try clear c1
     try clear c2
     try clear p2
     try clear c3
     try clear c7
     try clear c10
     try clear p2
     obtain ⟨x10_2, x33_2, rfl, rfl, HA, HK2, HO_9, HB⟩ := hrel
     cases gk with
     | zero => exact absurd HA.out (by simp [impl_FairDeal.l0])
     | succ k2 =>
      have H := HA.out
      clear HA
      simp only [impl_FairDeal.l0] at H
      by_cases c13 : x33_2 < (l3.length : Int)
      ·rw [if_pos c13] at H
       have c13b0 : decide (x33_2 < (l3.length : Int)) = true := decide_eq_true c13
       clear c13
       by_cases c14 : 0 ≤ x33_2
       ·rw [if_pos c14] at H
        have c14b0 : decide (0 ≤ x33_2) = true := decide_eq_true c14
        clear c14
        by_cases c15 : x33_2 < (l3.length : Int)
        ·rw [if_pos c15] at H
         have c15b0 : decide (x33_2 < (l3.length : Int)) = true := decide_eq_true c15
         clear c15
         have HC16 := Aside0.mk H
         clear H
         have p243 : 0 ≤ (x33_2 : Int) := of_decide_eq_true (by first | (with_reducible assumption) | assumption)
         have q243 : x33_2 < (l3.length : Int) := of_decide_eq_true (by first | (with_reducible assumption) | assumption)
         obtain ⟨ad243, e243, hx243_0⟩ := Kd.at_int HR3.out x33_2 p243 q243
         cases e243
         replace hx243_0 := (HB.out.cell (World.block_lt_of_cell? w _ hx243_0)).trans hx243_0
         replace p243 := eq_true p243
         replace q243 := eq_true q243
         go_upto_region 8 with (fail)
         repeat (go_quiet (fail); go_upto_region 8 with (fail))
         go_cut [58] (fun v58 wc => ∃ (kq : Nat) (x58_15 : Bool), v58 = .bool x58_15 ∧ Aside0 (impl_FairDeal.j2 kq l0 l1 a2 l3 t240 x10_2 x33_2 (rd l3 x33_2) l3 (l3.length : Int) x33_2 x58_15 = some r) ∧ Aside0 (kq ≤ k2) ∧ Aside0 (Kd.R Kd.bool 4 wc w.heap.size (fun _ => True) v241 t240) ∧ Aside0 (Below w.heap.size w wc))
         case first =>
          have H := HC16.out
          clear HC16
          by_cases c17 : (rd l3 x33_2) < 0
          ·rw [if_pos c17] at H
           have c17b0 : decide ((rd l3 x33_2) < 0) = true := decide_eq_true c17
           clear c17
           (first | rw [c17b0] | (simp only [i64_w, i32_w]; rw [c17b0]) | skip)
           have H' := Aside0.mk H
           clear H
           go_wp2
           repeat (go_quiet (fail); try go_wp2)
           go_meet
           case rel => exact ⟨_, (true), (by first | rfl | (simp; done) | (simp [*]; done)), H', ⟨by have := HJ4.out; have := HK2.out; first | omega | exact Nat.le_refl _⟩, ⟨by (with_reducible repeat (first | apply Kd.R_alloc | apply Kd.R_drewN | apply Kd.R_drew)); exact HO_9.out⟩, ⟨by repeat (first | (with_reducible first | exact HB.out | apply below_alloc | apply pw_below_drewN | apply below_drew1) | exact HB.out)⟩⟩
          ·rw [if_neg c17] at H
           have c17b0 : decide ((rd l3 x33_2) < 0) = false := decide_eq_false c17
           clear c17
           (first | rw [c17b0] | (simp only [i64_w, i32_w]; rw [c17b0]) | skip)
           by_cases c18 : x33_2 < (l1.length : Int)
           ·rw [if_pos c18] at H
            have c18b0 : decide (x33_2 < (l1.length : Int)) = true := decide_eq_true c18
            clear c18
            by_cases c19 : (rd l3 x33_2) > (rd l1 x33_2)
            ·rw [if_pos c19] at H
             have c19b0 : decide ((rd l1 x33_2) < (rd l3 x33_2)) = true := decide_eq_true c19
             clear c19
             have H' := Aside0.mk H
             clear H
             have p244 : 0 ≤ (x33_2 : Int) := of_decide_eq_true (by first | (with_reducible assumption) | assumption)
             have q244 : x33_2 < (l1.length : Int) := of_decide_eq_true (by first | (with_reducible assumption) | assumption)
             obtain ⟨ad244, e244, hx244_0⟩ := Kd.at_int HR1.out x33_2 p244 q244
             cases e244
             replace hx244_0 := (HB.out.cell (World.block_lt_of_cell? w _ hx244_0)).trans hx244_0
             replace p244 := eq_true p244
             replace q244 := eq_true q244
             go_wp2
             repeat (go_quiet (fail); try go_wp2)
             go_meet
             case rel => exact ⟨_, (true), (by first | rfl | (simp; done) | (simp [*]; done)), H', ⟨by have := HJ4.out; have := HK2.out; first | omega | exact Nat.le_refl _⟩, ⟨by (with_reducible repeat (first | apply Kd.R_alloc | apply Kd.R_drewN | apply Kd.R_drew)); exact HO_9.out⟩, ⟨by repeat (first | (with_reducible first | exact HB.out | apply below_alloc | apply pw_below_drewN | apply below_drew1) | exact HB.out)⟩⟩
            ·rw [if_neg c19] at H
             have c19b0 : decide ((rd l1 x33_2) < (rd l3 x33_2)) = false := decide_eq_false c19
             clear c19
             by_cases c20 : x33_2 < (l0.length : Int)
             ·rw [if_pos c20] at H
              have c20b0 : decide (x33_2 < (l0.length : Int)) = true := decide_eq_true c20
              clear c20
              by_cases c21 : (rd l0 x33_2) = 0
              ·rw [if_pos c21] at H
               have c21b0 : ((rd l0 x33_2) == 0) = true := beq_iff_eq.mpr c21
               have c21b1 : ((rd l0 x33_2) != 0) = false := bne_eq_false_iff_eq.mpr c21
               clear c21
               have H' := Aside0.mk H
               clear H
               have p244 : 0 ≤ (x33_2 : Int) := of_decide_eq_true (by first | (with_reducible assumption) | assumption)
               have q244 : x33_2 < (l1.length : Int) := of_decide_eq_true (by first | (with_reducible assumption) | assumption)
               obtain ⟨ad244, e244, hx244_0⟩ := Kd.at_int HR1.out x33_2 p244 q244
               cases e244
               replace hx244_0 := (HB.out.cell (World.block_lt_of_cell? w _ hx244_0)).trans hx244_0
               replace p244 := eq_true p244
               replace q244 := eq_true q244
               have p245 : 0 ≤ (x33_2 : Int) := of_decide_eq_true (by first | (with_reducible assumption) | assumption)
               have q245 : x33_2 < (l0.length : Int) := of_decide_eq_true (by first | (with_reducible assumption) | assumption)
               obtain ⟨ad245, e245, hx245_0⟩ := Kd.at_int HR0.out x33_2 p245 q245
               cases e245
               replace hx245_0 := (HB.out.cell (World.block_lt_of_cell? w _ hx245_0)).trans hx245_0
               replace p245 := eq_true p245
               replace q245 := eq_true q245
               go_wp2
               repeat (go_quiet (fail); try go_wp2)
               go_meet
               case rel => exact ⟨_, (((rd l3 x33_2) != 0)), (by first | rfl | (simp; done) | (simp [*]; done)), H', ⟨by have := HJ4.out; have := HK2.out; first | omega | exact Nat.le_refl _⟩, ⟨by (with_reducible repeat (first | apply Kd.R_alloc | apply Kd.R_drewN | apply Kd.R_drew)); exact HO_9.out⟩, ⟨by repeat (first | (with_reducible first | exact HB.out | apply below_alloc | apply pw_below_drewN | apply below_drew1) | exact HB.out)⟩⟩
              ·rw [if_neg c21] at H
               have c21b0 : ((rd l0 x33_2) == 0) = false := beq_eq_false_iff_ne.mpr c21
               have c21b1 : ((rd l0 x33_2) != 0) = true := bne_iff_ne.mpr c21
               have H' := Aside0.mk H
               clear H
               have p244 : 0 ≤ (x33_2 : Int) := of_decide_eq_true (by first | (with_reducible assumption) | assumption)
               have q244 : x33_2 < (l1.length : Int) := of_decide_eq_true (by first | (with_reducible assumption) | assumption)
               obtain ⟨ad244, e244, hx244_0⟩ := Kd.at_int HR1.out x33_2 p244 q244
               cases e244
               replace hx244_0 := (HB.out.cell (World.block_lt_of_cell? w _ hx244_0)).trans hx244_0
               replace p244 := eq_true p244
               replace q244 := eq_true q244
               have p245 : 0 ≤ (x33_2 : Int) := of_decide_eq_true (by first | (with_reducible assumption) | assumption)
               have q245 : x33_2 < (l0.length : Int) := of_decide_eq_true (by first | (with_reducible assumption) | assumption)
               obtain ⟨ad245, e245, hx245_0⟩ := Kd.at_int HR0.out x33_2 p245 q245
               cases e245
               replace hx245_0 := (HB.out.cell (World.block_lt_of_cell? w _ hx245_0)).trans hx245_0
               replace p245 := eq_true p245
               replace q245 := eq_true q245
               go_wp2
               repeat (go_quiet (fail); try go_wp2)
               go_meet
               case rel => exact ⟨_, (false), (by first | rfl | (simp; done) | (simp [*]; done)), H', ⟨by have := HJ4.out; have := HK2.out; first | omega | exact Nat.le_refl _⟩, ⟨by (with_reducible repeat (first | apply Kd.R_alloc | apply Kd.R_drewN | apply Kd.R_drew)); exact HO_9.out⟩, ⟨by repeat (first | (with_reducible first | exact HB.out | apply below_alloc | apply pw_below_drewN | apply below_drew1) | exact HB.out)⟩⟩
             ·rw [if_neg c20] at H
              exact absurd H (by simp)
           ·rw [if_neg c18] at H
            exact absurd H (by simp)
         case rest =>
          clear HC16
          try clear c1
          try clear c2
          try clear p2
          try clear q2
          try clear hx2
          try clear c3
          try clear c7
          try clear c10
          try clear c13
          try clear c13b0
          try clear c14
          try clear c14b0
          try clear c15
          try clear c15b0
          try clear c17
          try clear c17b0
          try clear c18
          try clear c18b0
          try clear c19
          try clear c19b0
          try clear c20
          try clear c20b0
          try clear c21
          try clear c21b0
          try clear c21b1
          try clear hx243_0
          try clear hx244_0
          try clear hx245_0
          try clear p2
          try clear p243
          try clear p244
          try clear p245
          try clear q243
          try clear q244
          try clear q245
          obtain ⟨kq, x58_15, rfl, HA, HJ15, HO_9, HB⟩ := hcut
          cases kq with
          | zero => exact absurd HA.out (by simp [impl_FairDeal.j2])
          | succ kj15 =>
           have H := HA.out
           clear HA
           simp only [impl_FairDeal.j2] at H
           by_cases c22 : x58_15 = true
           ·subst c22
            have H1 : (some false) = some r := by rw [if_pos rfl] at H; exact H
            clear H
            have H := H1
            clear H1
            obtain rfl := Option.some.inj H
            go_wp2
            repeat (go_quiet (fail); try go_wp2)
            go_ret
            exact ⟨by first | rfl | (simp [errW_none, errW_some] <;> rfl) | (simp [*, errW_none, errW_some] <;> rfl), by repeat (first | (with_reducible first | exact HB.out | apply below_alloc | apply pw_below_drewN | apply below_drew1) | exact HB.out)⟩
           ·replace c22 := Bool.eq_false_iff.mpr c22
            subst c22
            have H1 : (impl_FairDeal.l1 kj15 l0 l1 a2 l3 t240 (wrap64 (x10_2 + (rd l3 x33_2))) x33_2 (rd l3 x33_2) l3 (l3.length : Int) x33_2 l3 (l3.length : Int) 0) = some r := by rw [if_neg (show ¬ (false = true) by decide)] at H; exact H
            clear H
            have H := H1
            clear H1
            have H' := Aside0.mk H
            clear H
            go_wp2
            repeat (go_quiet (fail); try go_wp2)
            go_loopg [64] kj15 (fun kq v64 w' => ∃ (x64_4 : Int), v64 = .int .i64 x64_4 ∧ Aside0 (impl_FairDeal.l1 kq l0 l1 a2 l3 t240 (wrap64 (x10_2 + (rd l3 x33_2))) x33_2 (rd l3 x33_2) l3 (l3.length : Int) x33_2 l3 (l3.length : Int) x64_4 = some r) ∧ Aside0 (kq ≤ kj15) ∧ Aside0 (Kd.R Kd.bool 4 w' w.heap.size (fun _ => True) v241 t240) ∧ Aside0 (Below w.heap.size w w'))
            case atStart => exact ⟨(0), (by first | rfl | (simp; done) | (simp [*]; done)), H', ⟨Nat.le_refl _⟩, ⟨by (with_reducible repeat (first | apply Kd.R_alloc | apply Kd.R_drewN | apply Kd.R_drew)); exact HO_9.out⟩, ⟨by repeat (first | (with_reducible first | exact HB.out | apply below_alloc | apply pw_below_drewN | apply below_drew1) | exact HB.out)⟩⟩
            case round =>
             clear H'
             try clear c1
             try clear c2
             try clear p2
             try clear q2
             try clear hx2
             try clear c3
             try clear p6
             try clear c7
             try clear c10
             try clear c13
             try clear c13b0
             try clear c14
             try clear c14b0
             try clear c15
             try clear c15b0
             try clear c17
             try clear c17b0
             try clear c18
             try clear c18b0
             try clear c19
             try clear c19b0
             try clear c20
             try clear c20b0
             try clear c21
             try clear c21b0
             try clear c21b1
             try clear c22
             try clear hx243_0
             try clear hx244_0
             try clear hx245_0
             try clear p2
             try clear p243
             try clear p244
             try clear p245
             try clear q2
             try clear q243
             try clear q244
             try clear q245
             obtain ⟨x64_4, rfl, HA, HK4, HO_9, HB⟩ := hrel
             cases gk with
             | zero => exact absurd HA.out (by simp [impl_FairDeal.l1])
             | succ k4 =>
              have H := HA.out
              clear HA
              simp only [impl_FairDeal.l1] at H
              by_cases c23 : x64_4 < (l3.length : Int)
              ·rw [if_pos c23] at H
               have c23b0 : decide (x64_4 < (l3.length : Int)) = true := decide_eq_true c23
               clear c23
               by_cases c24 : 0 ≤ x64_4
               ·rw [if_pos c24] at H
                have c24b0 : decide (0 ≤ x64_4) = true := decide_eq_true c24
                clear c24
                by_cases c25 : x64_4 < (l3.length : Int)
                ·rw [if_pos c25] at H
                 have c25b0 : decide (x64_4 < (l3.length : Int)) = true := decide_eq_true c25
                 clear c25
                 by_cases c26 : 0 ≤ x33_2
                 ·rw [if_pos c26] at H
                  have c26b0 : decide (0 ≤ x33_2) = true := decide_eq_true c26
                  clear c26
                  by_cases c27 : x33_2 < (t240.length : Int)
                  ·rw [if_pos c27] at H
                   have c27b0 : decide (x33_2 < (t240.length : Int)) = true := decide_eq_true c27
                   clear c27
                   obtain ⟨bq28, hbq28⟩ : ∃ b_ : Bool, b_ = (rdOf false t240 x33_2) := ⟨_, rfl⟩
                   replace H : (if bq28 = true then (impl_FairDeal.l1 k4 l0 l1 a2 l3 t240 (wrap64 (x10_2 + (rd l3 x33_2))) x33_2 (rd l3 x33_2) l3 (l3.length : Int) x33_2 l3 (l3.length : Int) (wrap64 (x64_4 + 1))) else (if x64_4 < (t240.length : Int) then (if rdOf false t240 x64_4 = true then (impl_FairDeal.l1 k4 l0 l1 a2 l3 t240 (wrap64 (x10_2 + (rd l3 x33_2))) x33_2 (rd l3 x33_2) l3 (l3.length : Int) x33_2 l3 (l3.length : Int) (wrap64 (x64_4 + 1))) else (if x33_2 < (l0.length : Int) then (if x64_4 < (l0.length : Int) then (if (rd l0 x33_2) > (rd l0 x64_4) then (if (rd l3 x33_2) < (rd l3 x64_4) then (some false) else (impl_FairDeal.l1 k4 l0 l1 a2 l3 t240 (wrap64 (x10_2 + (rd l3 x33_2))) x33_2 (rd l3 x33_2) l3 (l3.length : Int) x33_2 l3 (l3.length : Int) (wrap64 (x64_4 + 1)))) else (impl_FairDeal.l1 k4 l0 l1 a2 l3 t240 (wrap64 (x10_2 + (rd l3 x33_2))) x33_2 (rd l3 x33_2) l3 (l3.length : Int) x33_2 l3 (l3.length : Int) (wrap64 (x64_4 + 1)))) else (none)) else (none))) else (none))) = some r := by rw [← hbq28] at H; exact H
                   have Nbq28 := Aside0.mk hbq28
                   clear hbq28
                   by_cases c29 : bq28 = true
                   ·subst c29
                    have H1 : (impl_FairDeal.l1 k4 l0 l1 a2 l3 t240 (wrap64 (x10_2 + (rd l3 x33_2))) x33_2 (rd l3 x33_2) l3 (l3.length : Int) x33_2 l3 (l3.length : Int) (wrap64 (x64_4 + 1))) = some r := by rw [if_pos rfl] at H; exact H
                    clear H
                    have H := H1
                    clear H1
                    have H' := Aside0.mk H
                    clear H
                    have p246 : 0 ≤ (x64_4 : Int) := of_decide_eq_true (by first | (with_reducible assumption) | assumption)
                    have q246 : x64_4 < (l3.length : Int) := of_decide_eq_true (by first | (with_reducible assumption) | assumption)
                    obtain ⟨ad246, e246, hx246_0⟩ := Kd.at_int HR3.out x64_4 p246 q246
                    obtain rfl : ad243 = ad246 := (by injection e246)
                    replace hx246_0 := (HB.out.cell (World.block_lt_of_cell? w _ hx246_0)).trans hx246_0
                    replace p246 := eq_true p246
                    replace q246 := eq_true q246
                    obtain ⟨Ao30, co30, eo30⟩ := Kd.R_slice HO_9.out
                    subst eo30
                    have p247 : 0 ≤ (x33_2 : Int) := of_decide_eq_true (by first | (with_reducible assumption) | assumption)
                    have q247 : x33_2 < (t240.length : Int) := of_decide_eq_true (by first | (with_reducible assumption) | assumption)
                    obtain ⟨ad247, e247, hx247_0⟩ := Kd.at_bool (Kd.R_reads' HO_9.out).2.2 x33_2 p247 q247
                    (try rw [← Nbq28.out] at hx247_0)
                    cases e247
                    replace p247 := eq_true p247
                    replace q247 := eq_true q247
                    go_wp2
                    repeat (go_quiet (fail); try go_wp2)
                    go_roundg k4
                    case measure => have := HJ4.out; have := HK2.out; have := HJ15.out; have := HK4.out; omega
                    case rel => exact ⟨(wrap64 (x64_4 + 1)), (by first | rfl | (simp; done) | (simp [*]; done)), H', ⟨by have := HJ4.out; have := HK2.out; have := HJ15.out; have := HK4.out; omega⟩, ⟨by (with_reducible repeat (first | apply Kd.R_alloc | apply Kd.R_drewN | apply Kd.R_drew)); exact HO_9.out⟩, ⟨by repeat (first | (with_reducible first | exact HB.out | apply below_alloc | apply pw_below_drewN | apply below_drew1) | exact HB.out)⟩⟩
                   ·replace c29 := Bool.eq_false_iff.mpr c29
                    subst c29
                    have H1 : (if x64_4 < (t240.length : Int) then (if rdOf false t240 x64_4 = true then (impl_FairDeal.l1 k4 l0 l1 a2 l3 t240 (wrap64 (x10_2 + (rd l3 x33_2))) x33_2 (rd l3 x33_2) l3 (l3.length : Int) x33_2 l3 (l3.length : Int) (wrap64 (x64_4 + 1))) else (if x33_2 < (l0.length : Int) then (if x64_4 < (l0.length : Int) then (if (rd l0 x33_2) > (rd l0 x64_4) then (if (rd l3 x33_2) < (rd l3 x64_4) then (some false) else (impl_FairDeal.l1 k4 l0 l1 a2 l3 t240 (wrap64 (x10_2 + (rd l3 x33_2))) x33_2 (rd l3 x33_2) l3 (l3.length : Int) x33_2 l3 (l3.length : Int) (wrap64 (x64_4 + 1)))) else (impl_FairDeal.l1 k4 l0 l1 a2 l3 t240 (wrap64 (x10_2 + (rd l3 x33_2))) x33_2 (rd l3 x33_2) l3 (l3.length : Int) x33_2 l3 (l3.length : Int) (wrap64 (x64_4 + 1)))) else (none)) else (none))) else (none)) = some r := by rw [if_neg (show ¬ (false = true) by decide)] at H; exact H
                    clear H
                    have H := H1
                    clear H1
                    by_cases c31 : x64_4 < (t240.length : Int)
                    ·rw [if_pos c31] at H
                     have c31b0 : decide (x64_4 < (t240.length : Int)) = true := decide_eq_true c31
                     clear c31
                     obtain ⟨bq32, hbq32⟩ : ∃ b_ : Bool, b_ = (rdOf false t240 x64_4) := ⟨_, rfl⟩
                     replace H : (if bq32 = true then (impl_FairDeal.l1 k4 l0 l1 a2 l3 t240 (wrap64 (x10_2 + (rd l3 x33_2))) x33_2 (rd l3 x33_2) l3 (l3.length : Int) x33_2 l3 (l3.length : Int) (wrap64 (x64_4 + 1))) else (if x33_2 < (l0.length : Int) then (if x64_4 < (l0.length : Int) then (if (rd l0 x33_2) > (rd l0 x64_4) then (if (rd l3 x33_2) < (rd l3 x64_4) then (some false) else (impl_FairDeal.l1 k4 l0 l1 a2 l3 t240 (wrap64 (x10_2 + (rd l3 x33_2))) x33_2 (rd l3 x33_2) l3 (l3.length : Int) x33_2 l3 (l3.length : Int) (wrap64 (x64_4 + 1)))) else (impl_FairDeal.l1 k4 l0 l1 a2 l3 t240 (wrap64 (x10_2 + (rd l3 x33_2))) x33_2 (rd l3 x33_2) l3 (l3.length : Int) x33_2 l3 (l3.length : Int) (wrap64 (x64_4 + 1)))) else (none)) else (none))) = some r := by rw [← hbq32] at H; exact H
                     have Nbq32 := Aside0.mk hbq32
                     clear hbq32
                     by_cases c33 : bq32 = true
                     ·subst c33
                      have H1 : (impl_FairDeal.l1 k4 l0 l1 a2 l3 t240 (wrap64 (x10_2 + (rd l3 x33_2))) x33_2 (rd l3 x33_2) l3 (l3.length : Int) x33_2 l3 (l3.length : Int) (wrap64 (x64_4 + 1))) = some r := by rw [if_pos rfl] at H; exact H
                      clear H
                      have H := H1
                      clear H1
                      have H' := Aside0.mk H
                      clear H
                      have p246 : 0 ≤ (x64_4 : Int) := of_decide_eq_true (by first | (with_reducible assumption) | assumption)
                      have q246 : x64_4 < (l3.length : Int) := of_decide_eq_true (by first | (with_reducible assumption) | assumption)
                      obtain ⟨ad246, e246, hx246_0⟩ := Kd.at_int HR3.out x64_4 p246 q246
                      obtain rfl : ad243 = ad246 := (by injection e246)
                      replace hx246_0 := (HB.out.cell (World.block_lt_of_cell? w _ hx246_0)).trans hx246_0
                      replace p246 := eq_true p246
                      replace q246 := eq_true q246
                      obtain ⟨Ao34, co34, eo34⟩ := Kd.R_slice HO_9.out
                      subst eo34
                      have p247 : 0 ≤ (x33_2 : Int) := of_decide_eq_true (by first | (with_reducible assumption) | assumption)
                      have q247 : x33_2 < (t240.length : Int) := of_decide_eq_true (by first | (with_reducible assumption) | assumption)
                      obtain ⟨ad247, e247, hx247_0⟩ := Kd.at_bool (Kd.R_reads' HO_9.out).2.2 x33_2 p247 q247
                      (try rw [← Nbq28.out] at hx247_0)
                      (try rw [← Nbq32.out] at hx247_0)
                      cases e247
                      replace p247 := eq_true p247
                      replace q247 := eq_true q247
                      have p248 : 0 ≤ (x64_4 : Int) := of_decide_eq_true (by first | (with_reducible assumption) | assumption)
                      have q248 : x64_4 < (t240.length : Int) := of_decide_eq_true (by first | (with_reducible assumption) | assumption)
                      obtain ⟨ad248, e248, hx248_0⟩ := Kd.at_bool (Kd.R_reads' HO_9.out).2.2 x64_4 p248 q248
                      (try rw [← Nbq28.out] at hx248_0)
                      (try rw [← Nbq32.out] at hx248_0)
                      obtain rfl : ad247 = ad248 := (by injection e248)
                      replace p248 := eq_true p248
                      replace q248 := eq_true q248
                      go_wp2
                      repeat (go_quiet (fail); try go_wp2)
                      go_roundg k4
                      case measure => have := HJ4.out; have := HK2.out; have := HJ15.out; have := HK4.out; omega
                      case rel => exact ⟨(wrap64 (x64_4 + 1)), (by first | rfl | (simp; done) | (simp [*]; done)), H', ⟨by have := HJ4.out; have := HK2.out; have := HJ15.out; have := HK4.out; omega⟩, ⟨by (with_reducible repeat (first | apply Kd.R_alloc | apply Kd.R_drewN | apply Kd.R_drew)); exact HO_9.out⟩, ⟨by repeat (first | (with_reducible first | exact HB.out | apply below_alloc | apply pw_below_drewN | apply below_drew1) | exact HB.out)⟩⟩
                     ·replace c33 := Bool.eq_false_iff.mpr c33
                      subst c33
                      have H1 : (if x33_2 < (l0.length : Int) then (if x64_4 < (l0.length : Int) then (if (rd l0 x33_2) > (rd l0 x64_4) then (if (rd l3 x33_2) < (rd l3 x64_4) then (some false) else (impl_FairDeal.l1 k4 l0 l1 a2 l3 t240 (wrap64 (x10_2 + (rd l3 x33_2))) x33_2 (rd l3 x33_2) l3 (l3.length : Int) x33_2 l3 (l3.length : Int) (wrap64 (x64_4 + 1)))) else (impl_FairDeal.l1 k4 l0 l1 a2 l3 t240 (wrap64 (x10_2 + (rd l3 x33_2))) x33_2 (rd l3 x33_2) l3 (l3.length : Int) x33_2 l3 (l3.length : Int) (wrap64 (x64_4 + 1)))) else (none)) else (none)) = some r := by rw [if_neg (show ¬ (false = true) by decide)] at H; exact H
                      clear H
                      have H := H1
                      clear H1
                      by_cases c35 : x33_2 < (l0.length : Int)
                      ·rw [if_pos c35] at H
                       have c35b0 : decide (x33_2 < (l0.length : Int)) = true := decide_eq_true c35
                       clear c35
                       by_cases c36 : x64_4 < (l0.length : Int)
                       ·rw [if_pos c36] at H
                        have c36b0 : decide (x64_4 < (l0.length : Int)) = true := decide_eq_true c36
                        clear c36
                        by_cases c37 : (rd l0 x33_2) > (rd l0 x64_4)
                        ·rw [if_pos c37] at H
                         have c37b0 : decide ((rd l0 x64_4) < (rd l0 x33_2)) = true := decide_eq_true c37
                         clear c37
                         by_cases c38 : (rd l3 x33_2) < (rd l3 x64_4)
                         ·rw [if_pos c38] at H
                          have c38b0 : decide ((rd l3 x33_2) < (rd l3 x64_4)) = true := decide_eq_true c38
                          clear c38
                          obtain rfl := Option.some.inj H
                          have p246 : 0 ≤ (x64_4 : Int) := of_decide_eq_true (by first | (with_reducible assumption) | assumption)
                          have q246 : x64_4 < (l3.length : Int) := of_decide_eq_true (by first | (with_reducible assumption) | assumption)
                          obtain ⟨ad246, e246, hx246_0⟩ := Kd.at_int HR3.out x64_4 p246 q246
                          obtain rfl : ad243 = ad246 := (by injection e246)
                          replace hx246_0 := (HB.out.cell (World.block_lt_of_cell? w _ hx246_0)).trans hx246_0
                          replace p246 := eq_true p246
                          replace q246 := eq_true q246
                          obtain ⟨Ao39, co39, eo39⟩ := Kd.R_slice HO_9.out
                          subst eo39
                          have p247 : 0 ≤ (x33_2 : Int) := of_decide_eq_true (by first | (with_reducible assumption) | assumption)
                          have q247 : x33_2 < (t240.length : Int) := of_decide_eq_true (by first | (with_reducible assumption) | assumption)
                          obtain ⟨ad247, e247, hx247_0⟩ := Kd.at_bool (Kd.R_reads' HO_9.out).2.2 x33_2 p247 q247
                          (try rw [← Nbq28.out] at hx247_0)
                          (try rw [← Nbq32.out] at hx247_0)
                          cases e247
                          replace p247 := eq_true p247
                          replace q247 := eq_true q247
                          have p248 : 0 ≤ (x64_4 : Int) := of_decide_eq_true (by first | (with_reducible assumption) | assumption)
                          have q248 : x64_4 < (t240.length : Int) := of_decide_eq_true (by first | (with_reducible assumption) | assumption)
                          obtain ⟨ad248, e248, hx248_0⟩ := Kd.at_bool (Kd.R_reads' HO_9.out).2.2 x64_4 p248 q248
                          (try rw [← Nbq28.out] at hx248_0)
                          (try rw [← Nbq32.out] at hx248_0)
                          obtain rfl : ad247 = ad248 := (by injection e248)
                          replace p248 := eq_true p248
                          replace q248 := eq_true q248
                          have p249 : 0 ≤ (x33_2 : Int) := of_decide_eq_true (by first | (with_reducible assumption) | assumption)
                          have q249 : x33_2 < (l0.length : Int) := of_decide_eq_true (by first | (with_reducible assumption) | assumption)
                          obtain ⟨ad249, e249, hx249_0⟩ := Kd.at_int HR0.out x33_2 p249 q249
                          cases e249
                          replace hx249_0 := (HB.out.cell (World.block_lt_of_cell? w _ hx249_0)).trans hx249_0
                          replace p249 := eq_true p249
                          replace q249 := eq_true q249
                          have p250 : 0 ≤ (x64_4 : Int) := of_decide_eq_true (by first | (with_reducible assumption) | assumption)
                          have q250 : x64_4 < (l0.length : Int) := of_decide_eq_true (by first | (with_reducible assumption) | assumption)
                          obtain ⟨ad250, e250, hx250_0⟩ := Kd.at_int HR0.out x64_4 p250 q250
                          obtain rfl : ad249 = ad250 := (by injection e250)
                          replace hx250_0 := (HB.out.cell (World.block_lt_of_cell? w _ hx250_0)).trans hx250_0
                          replace p250 := eq_true p250
                          replace q250 := eq_true q250
                          go_wp2
                          repeat (go_quiet (fail); try go_wp2)
                          go_ret
                          exact ⟨by first | rfl | (simp [errW_none, errW_some] <;> rfl) | (simp [*, errW_none, errW_some] <;> rfl), by repeat (first | (with_reducible first | exact HB.out | apply below_alloc | apply pw_below_drewN | apply below_drew1) | exact HB.out)⟩
                         ·rw [if_neg c38] at H
                          have c38b0 : decide ((rd l3 x33_2) < (rd l3 x64_4)) = false := decide_eq_false c38
                          clear c38
                          have H' := Aside0.mk H
                          clear H
                          have p246 : 0 ≤ (x64_4 : Int) := of_decide_eq_true (by first | (with_reducible assumption) | assumption)
                          have q246 : x64_4 < (l3.length : Int) := of_decide_eq_true (by first | (with_reducible assumption) | assumption)
                          obtain ⟨ad246, e246, hx246_0⟩ := Kd.at_int HR3.out x64_4 p246 q246
                          obtain rfl : ad243 = ad246 := (by injection e246)
                          replace hx246_0 := (HB.out.cell (World.block_lt_of_cell? w _ hx246_0)).trans hx246_0
                          replace p246 := eq_true p246
                          replace q246 := eq_true q246
                          obtain ⟨Ao40, co40, eo40⟩ := Kd.R_slice HO_9.out
                          subst eo40
                          have p247 : 0 ≤ (x33_2 : Int) := of_decide_eq_true (by first | (with_reducible assumption) | assumption)
                          have q247 : x33_2 < (t240.length : Int) := of_decide_eq_true (by first | (with_reducible assumption) | assumption)
                          obtain ⟨ad247, e247, hx247_0⟩ := Kd.at_bool (Kd.R_reads' HO_9.out).2.2 x33_2 p247 q247
                          (try rw [← Nbq28.out] at hx247_0)
                          (try rw [← Nbq32.out] at hx247_0)
                          cases e247
                          replace p247 := eq_true p247
                          replace q247 := eq_true q247
                          have p248 : 0 ≤ (x64_4 : Int) := of_decide_eq_true (by first | (with_reducible assumption) | assumption)
                          have q248 : x64_4 < (t240.length : Int) := of_decide_eq_true (by first | (with_reducible assumption) | assumption)
                          obtain ⟨ad248, e248, hx248_0⟩ := Kd.at_bool (Kd.R_reads' HO_9.out).2.2 x64_4 p248 q248
                          (try rw [← Nbq28.out] at hx248_0)
                          (try rw [← Nbq32.out] at hx248_0)
                          obtain rfl : ad247 = ad248 := (by injection e248)
                          replace p248 := eq_true p248
                          replace q248 := eq_true q248
                          have p249 : 0 ≤ (x33_2 : Int) := of_decide_eq_true (by first | (with_reducible assumption) | assumption)
                          have q249 : x33_2 < (l0.length : Int) := of_decide_eq_true (by first | (with_reducible assumption) | assumption)
                          obtain ⟨ad249, e249, hx249_0⟩ := Kd.at_int HR0.out x33_2 p249 q249
                          cases e249
                          replace hx249_0 := (HB.out.cell (World.block_lt_of_cell? w _ hx249_0)).trans hx249_0
                          replace p249 := eq_true p249
                          replace q249 := eq_true q249
                          have p250 : 0 ≤ (x64_4 : Int) := of_decide_eq_true (by first | (with_reducible assumption) | assumption)
                          have q250 : x64_4 < (l0.length : Int) := of_decide_eq_true (by first | (with_reducible assumption) | assumption)
                          obtain ⟨ad250, e250, hx250_0⟩ := Kd.at_int HR0.out x64_4 p250 q250
                          obtain rfl : ad249 = ad250 := (by injection e250)
                          replace hx250_0 := (HB.out.cell (World.block_lt_of_cell? w _ hx250_0)).trans hx250_0
                          replace p250 := eq_true p250
                          replace q250 := eq_true q250
                          go_wp2
                          repeat (go_quiet (fail); try go_wp2)
                          go_roundg k4
                          case measure => have := HJ4.out; have := HK2.out; have := HJ15.out; have := HK4.out; omega
                          case rel => exact ⟨(wrap64 (x64_4 + 1)), (by first | rfl | (simp; done) | (simp [*]; done)), H', ⟨by have := HJ4.out; have := HK2.out; have := HJ15.out; have := HK4.out; omega⟩, ⟨by (with_reducible repeat (first | apply Kd.R_alloc | apply Kd.R_drewN | apply Kd.R_drew)); exact HO_9.out⟩, ⟨by repeat (first | (with_reducible first | exact HB.out | apply below_alloc | apply pw_below_drewN | apply below_drew1) | exact HB.out)⟩⟩
                        ·rw [if_neg c37] at H
                         have c37b0 : decide ((rd l0 x64_4) < (rd l0 x33_2)) = false := decide_eq_false c37
                         clear c37
                         have H' := Aside0.mk H
                         clear H
                         have p246 : 0 ≤ (x64_4 : Int) := of_decide_eq_true (by first | (with_reducible assumption) | assumption)
                         have q246 : x64_4 < (l3.length : Int) := of_decide_eq_true (by first | (with_reducible assumption) | assumption)
                         obtain ⟨ad246, e246, hx246_0⟩ := Kd.at_int HR3.out x64_4 p246 q246
                         obtain rfl : ad243 = ad246 := (by injection e246)
                         replace hx246_0 := (HB.out.cell (World.block_lt_of_cell? w _ hx246_0)).trans hx246_0
                         replace p246 := eq_true p246
                         replace q246 := eq_true q246
                         obtain ⟨Ao41, co41, eo41⟩ := Kd.R_slice HO_9.out
                         subst eo41
                         have p247 : 0 ≤ (x33_2 : Int) := of_decide_eq_true (by first | (with_reducible assumption) | assumption)
                         have q247 : x33_2 < (t240.length : Int) := of_decide_eq_true (by first | (with_reducible assumption) | assumption)
                         obtain ⟨ad247, e247, hx247_0⟩ := Kd.at_bool (Kd.R_reads' HO_9.out).2.2 x33_2 p247 q247
                         (try rw [← Nbq28.out] at hx247_0)
                         (try rw [← Nbq32.out] at hx247_0)
                         cases e247
                         replace p247 := eq_true p247
                         replace q247 := eq_true q247
                         have p248 : 0 ≤ (x64_4 : Int) := of_decide_eq_true (by first | (with_reducible assumption) | assumption)
                         have q248 : x64_4 < (t240.length : Int) := of_decide_eq_true (by first | (with_reducible assumption) | assumption)
                         obtain ⟨ad248, e248, hx248_0⟩ := Kd.at_bool (Kd.R_reads' HO_9.out).2.2 x64_4 p248 q248
                         (try rw [← Nbq28.out] at hx248_0)
                         (try rw [← Nbq32.out] at hx248_0)
                         obtain rfl : ad247 = ad248 := (by injection e248)
                         replace p248 := eq_true p248
                         replace q248 := eq_true q248
                         have p249 : 0 ≤ (x33_2 : Int) := of_decide_eq_true (by first | (with_reducible assumption) | assumption)
                         have q249 : x33_2 < (l0.length : Int) := of_decide_eq_true (by first | (with_reducible assumption) | assumption)
                         obtain ⟨ad249, e249, hx249_0⟩ := Kd.at_int HR0.out x33_2 p249 q249
                         cases e249
                         replace hx249_0 := (HB.out.cell (World.block_lt_of_cell? w _ hx249_0)).trans hx249_0
                         replace p249 := eq_true p249
                         replace q249 := eq_true q249
                         have p250 : 0 ≤ (x64_4 : Int) := of_decide_eq_true (by first | (with_reducible assumption) | assumption)
                         have q250 : x64_4 < (l0.length : Int) := of_decide_eq_true (by first | (with_reducible assumption) | assumption)
                         obtain ⟨ad250, e250, hx250_0⟩ := Kd.at_int HR0.out x64_4 p250 q250
                         obtain rfl : ad249 = ad250 := (by injection e250)
                         replace hx250_0 := (HB.out.cell (World.block_lt_of_cell? w _ hx250_0)).trans hx250_0
                         replace p250 := eq_true p250
                         replace q250 := eq_true q250
                         go_wp2
                         repeat (go_quiet (fail); try go_wp2)
                         go_roundg k4
                         case measure => have := HJ4.out; have := HK2.out; have := HJ15.out; have := HK4.out; omega
                         case rel => exact ⟨(wrap64 (x64_4 + 1)), (by first | rfl | (simp; done) | (simp [*]; done)), H', ⟨by have := HJ4.out; have := HK2.out; have := HJ15.out; have := HK4.out; omega⟩, ⟨by (with_reducible repeat (first | apply Kd.R_alloc | apply Kd.R_drewN | apply Kd.R_drew)); exact HO_9.out⟩, ⟨by repeat (first | (with_reducible first | exact HB.out | apply below_alloc | apply pw_below_drewN | apply below_drew1) | exact HB.out)⟩⟩
                       ·rw [if_neg c36] at H
                        exact absurd H (by simp)
                      ·rw [if_neg c35] at H
                       exact absurd H (by simp)
                    ·rw [if_neg c31] at H
                     exact absurd H (by simp)
                  ·rw [if_neg c27] at H
                   exact absurd H (by simp)
                 ·rw [if_neg c26] at H
                  exact absurd H (by simp)
                ·rw [if_neg c25] at H
                 exact absurd H (by simp)
               ·rw [if_neg c24] at H
                exact absurd H (by simp)
              ·rw [if_neg c23] at H
               have c23b0 : decide (x64_4 < (l3.length : Int)) = false := decide_eq_false c23
               clear c23
               have H' := Aside0.mk H
               clear H
               go_wp2
               repeat (go_quiet (fail); try go_wp2)
               go_roundg k4
               case measure => have := HJ4.out; have := HK2.out; have := HJ15.out; have := HK4.out; omega
               case rel => exact ⟨((wrap64 (x10_2 + (rd l3 x33_2)))), (wrap64 (x33_2 + 1)), (by first | rfl | (simp; done) | (simp [*]; done)), (by first | rfl | (simp; done) | (simp [*]; done)), H', ⟨by have := HJ4.out; have := HK2.out; have := HJ15.out; have := HK4.out; omega⟩, ⟨by (with_reducible repeat (first | apply Kd.R_alloc | apply Kd.R_drewN | apply Kd.R_drew)); exact HO_9.out⟩, ⟨by repeat (first | (with_reducible first | exact HB.out | apply below_alloc | apply pw_below_drewN | apply below_drew1) | exact HB.out)⟩⟩
        ·rw [if_neg c15] at H
         exact absurd H (by simp)
       ·rw [if_neg c14] at H
        exact absurd H (by simp)
      ·rw [if_neg c13] at H
       have c13b0 : decide (x33_2 < (l3.length : Int)) = false := decide_eq_false c13
       clear c13
       obtain rfl := Option.some.inj H
       go_wp2
       repeat (go_quiet (fail); try go_wp2)
       go_ret
       exact ⟨by first | rfl | (simp [errW_none, errW_some] <;> rfl) | (simp [*, errW_none, errW_some] <;> rfl), by repeat (first | (with_reducible first | exact HB.out | apply below_alloc | apply pw_below_drewN | apply below_drew1) | exact HB.out)⟩

end Go.Proofs.Ytngoejcaabgidaa.Q
