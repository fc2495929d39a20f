-- Written by a session's own program (wip/tools/myprint.py) over the kit's printer, out of the translation. Not trusted: Lean checks it.
import Derived.Test.YtbcljfbpkmlgpaaQ0
import Derived.Test.YtbcljfbpkmlgpaaQ8
namespace Go.Proofs.Ytbcljfbpkmlgpaa.Q
open Go.RowKit Go.Proofs.YtbcljfbpkmlgpaaW.PrintWords Go.Proofs.YtbcljfbpkmlgpaaW.PrintLast Go.Proofs.YtbcljfbpkmlgpaaW.PrintMore
attribute [local go_sem] max2_int min2_int max_two min_two max_three min_three max_four min_four   -- for this text's walks alone
set_option linter.unusedVariables false
set_option linter.unusedSimpArgs false

/-! ### spec_l13Ok: function 51 -/
mutual
def spec_l13Ok.j0 : Nat → List (S42) → Bool → Option (Bool)
  | 0, _, _ => none
  | k + 1, x0, x17 => if x17 = true then (some false) else (spec_l13Ok.l0 k x0 0)
def spec_l13Ok.l0 : Nat → List (S42) → Int → Option (Bool)
  | 0, _, _ => none
  | k + 1, x0, x3 => if x3 < (x0.length : Int) then (if 0 ≤ x3 then (if 0 < (x0.length : Int) then (if (((rd_T42 x0 x3).f0).length : Int) = (((rd_T42 x0 0).f0).length : Int) then (spec_l13Ok.l1 k x0 x3 0) else (some false)) else (none)) else (none)) else (some true)
def spec_l13Ok.l1 : Nat → List (S42) → Int → Int → Option (Bool)
  | 0, _, _, _ => none
  | k + 1, x0, x3, x4 => if x4 < x3 then (spec_l13Ok.l2 k x0 x3 x4 0) else (spec_l13Ok.l0 k x0 (wrap64 (x3 + 1)))
def spec_l13Ok.l2 : Nat → List (S42) → Int → Int → Int → Option (Bool)
  | 0, _, _, _, _ => none
  | k + 1, x0, x3, x4, x5 => if 0 < (x0.length : Int) then (if x5 < (((rd_T42 x0 0).f0).length : Int) then (if 0 ≤ x3 then (if x3 < (x0.length : Int) then (if 0 ≤ x5 then (if x5 < (((rd_T42 x0 x3).f0).length : Int) then (if 0 ≤ x4 then (if x4 < (x0.length : Int) then (if x5 < (((rd_T42 x0 x4).f0).length : Int) then (if (rd ((rd_T42 x0 x3).f0) x5) = (rd ((rd_T42 x0 x4).f0) x5) then (if (((rd_T42 x0 0).f0).length : Int) > 1 then (some false) else (spec_l13Ok.l2 k x0 x3 x4 (wrap64 (x5 + 1)))) else (spec_l13Ok.l2 k x0 x3 x4 (wrap64 (x5 + 1)))) else (none)) else (none)) else (none)) else (none)) else (none)) else (none)) else (none)) else (spec_l13Ok.l1 k x0 x3 (wrap64 (x4 + 1)))) else (none)
end
def spec_l13Ok.f (k : Nat) (l0 : List (S42)) : Option (Bool) := (spec_l01In.f (l0.length : Int) 1 10).bind fun t265 => (if t265 = true then (if 0 < (l0.length : Int) then (spec_l13Ok.j0 k l0 ((((rd_T42 l0 0).f0).length : Int) == 0)) else (none)) else (spec_l13Ok.j0 k l0 true))
theorem spec_l13Ok.mono_l : ∀ k, (∀ y0 y1, LeO (spec_l13Ok.j0 k y0 y1) (spec_l13Ok.j0 (k + 1) y0 y1)) ∧ (∀ y0 y1, LeO (spec_l13Ok.l0 k y0 y1) (spec_l13Ok.l0 (k + 1) y0 y1)) ∧ (∀ y0 y1 y2, LeO (spec_l13Ok.l1 k y0 y1 y2) (spec_l13Ok.l1 (k + 1) y0 y1 y2)) ∧ (∀ y0 y1 y2 y3, LeO (spec_l13Ok.l2 k y0 y1 y2 y3) (spec_l13Ok.l2 (k + 1) y0 y1 y2 y3))
  | 0 => ⟨fun _ _ r h => by simp [spec_l13Ok.j0] at h, fun _ _ r h => by simp [spec_l13Ok.l0] at h, fun _ _ _ r h => by simp [spec_l13Ok.l1] at h, fun _ _ _ _ r h => by simp [spec_l13Ok.l2] at h⟩
  | k + 1 => by
    obtain ⟨ih0, ih1, ih2, ih3⟩ := spec_l13Ok.mono_l k
    refine ⟨?_, ?_, ?_, ?_⟩
    · intro y0 y1
      unfold spec_l13Ok.j0
      repeat' first
      | (with_reducible exact ih0 _ _)
      | (with_reducible exact ih1 _ _)
      | (with_reducible exact ih2 _ _ _)
      | (with_reducible exact ih3 _ _ _ _)
      | (with_reducible exact LeO.refl _)
      | (with_reducible exact LeO.none _)
      | (with_reducible refine LeO.ite ?_ ?_)
      | (with_reducible refine LeO.bind ?_ (fun _ => ?_))
      | exact ih0 _ _
      | exact ih1 _ _
      | exact ih2 _ _ _
      | exact ih3 _ _ _ _
      | exact LeO.none _
      | refine LeO.ite ?_ ?_
      | refine LeO.bind ?_ (fun _ => ?_)
    · intro y0 y1
      unfold spec_l13Ok.l0
      repeat' first
      | (with_reducible exact ih0 _ _)
      | (with_reducible exact ih1 _ _)
      | (with_reducible exact ih2 _ _ _)
      | (with_reducible exact ih3 _ _ _ _)
      | (with_reducible exact LeO.refl _)
      | (with_reducible exact LeO.none _)
      | (with_reducible refine LeO.ite ?_ ?_)
      | (with_reducible refine LeO.bind ?_ (fun _ => ?_))
      | exact ih0 _ _
      | exact ih1 _ _
      | exact ih2 _ _ _
      | exact ih3 _ _ _ _
      | exact LeO.none _
      | refine LeO.ite ?_ ?_
      | refine LeO.bind ?_ (fun _ => ?_)
    · intro y0 y1 y2
      unfold spec_l13Ok.l1
      repeat' first
      | (with_reducible exact ih0 _ _)
      | (with_reducible exact ih1 _ _)
      | (with_reducible exact ih2 _ _ _)
      | (with_reducible exact ih3 _ _ _ _)
      | (with_reducible exact LeO.refl _)
      | (with_reducible exact LeO.none _)
      | (with_reducible refine LeO.ite ?_ ?_)
      | (with_reducible refine LeO.bind ?_ (fun _ => ?_))
      | exact ih0 _ _
      | exact ih1 _ _
      | exact ih2 _ _ _
      | exact ih3 _ _ _ _
      | exact LeO.none _
      | refine LeO.ite ?_ ?_
      | refine LeO.bind ?_ (fun _ => ?_)
    · intro y0 y1 y2 y3
      unfold spec_l13Ok.l2
      repeat' first
      | (with_reducible exact ih0 _ _)
      | (with_reducible exact ih1 _ _)
      | (with_reducible exact ih2 _ _ _)
      | (with_reducible exact ih3 _ _ _ _)
      | (with_reducible exact LeO.refl _)
      | (with_reducible exact LeO.none _)
      | (with_reducible refine LeO.ite ?_ ?_)
      | (with_reducible refine LeO.bind ?_ (fun _ => ?_))
      | exact ih0 _ _
      | exact ih1 _ _
      | exact ih2 _ _ _
      | exact ih3 _ _ _ _
      | exact LeO.none _
      | refine LeO.ite ?_ ?_
      | refine LeO.bind ?_ (fun _ => ?_)
theorem spec_l13Ok.mono : ∀ a0 k, LeO (spec_l13Ok.f k a0) (spec_l13Ok.f (k + 1) a0) := by
  intro a0 k
  obtain ⟨ih0, ih1, ih2, ih3⟩ := spec_l13Ok.mono_l k
  unfold spec_l13Ok.f
  repeat' first
      | (with_reducible exact ih0 _ _)
      | (with_reducible exact ih1 _ _)
      | (with_reducible exact ih2 _ _ _)
      | (with_reducible exact ih3 _ _ _ _)
      | (with_reducible exact LeO.refl _)
      | (with_reducible exact LeO.none _)
      | (with_reducible refine LeO.ite ?_ ?_)
      | (with_reducible refine LeO.bind ?_ (fun _ => ?_))
      | exact ih0 _ _
      | exact ih1 _ _
      | exact ih2 _ _ _
      | exact ih3 _ _ _ _
      | exact LeO.none _
      | refine LeO.ite ?_ ?_
      | refine LeO.bind ?_ (fun _ => ?_)
set_option maxHeartbeats 8000000 in
set_option maxRecDepth 100000 in
theorem spec_l13Ok.calls (k : Nat) (A0 : Option Addr) (c0 : Nat) (l0 : List (S42)) (r : Bool) (w : World) (hr0 : Kd.C k42 w A0 l0.length l0) (hc0 : l0.length ≤ c0) (h : spec_l13Ok.f k l0 = some r) :
    Calls Try.prog 51 #[.slice A0 l0.length c0] w fun e w' => e = .returned (.bool r) ∧ Drawn0 w w' := by
  have HR0 := Aside0.mk hr0
  have HC0 := Aside0.mk hc0
  clear hr0 hc0
  have H : ((spec_l01In.f (l0.length : Int) 1 10).bind fun t265 => (if t265 = true then (if 0 < (l0.length : Int) then (spec_l13Ok.j0 k l0 ((((rd_T42 l0 0).f0).length : Int) == 0)) else (none)) else (spec_l13Ok.j0 k l0 true))) = some r := h
  clear h
  have HC2 := Aside0.mk H
  clear H
  go_enter Try.func51, Try.ntmps51
  go_upto_region 1 with (fail)
  repeat (go_quiet (fail); go_upto_region 1 with (fail))
  go_cut [17] (fun v17 wc => ∃ (kq : Nat) (x17_1 : Bool), v17 = .bool x17_1 ∧ Aside0 (spec_l13Ok.j0 kq l0 x17_1 = some r) ∧ Aside0 (kq ≤ k) ∧ Drawn0 w wc)
  case first =>
    have H := HC2.out
    clear HC2
    replace H := Option.bind_eq_some_iff.mp H
    obtain ⟨t265, A30, H⟩ := H
    replace H : (if t265 = true then (if 0 < (l0.length : Int) then (spec_l13Ok.j0 k l0 ((((rd_T42 l0 0).f0).length : Int) == 0)) else (none)) else (spec_l13Ok.j0 k l0 true)) = some r := H
    have A3 := Aside0.mk A30
    clear A30
    by_cases c4 : t265 = true
    · subst c4
      have H1 : (if 0 < (l0.length : Int) then (spec_l13Ok.j0 k l0 ((((rd_T42 l0 0).f0).length : Int) == 0)) else (none)) = some r := by rw [if_pos rfl] at H; exact H
      clear H
      have H := H1
      clear H1
      by_cases c5 : 0 < (l0.length : Int)
      · rw [if_pos c5] at H
        have c5b0 : decide (0 < (l0.length : Int)) = true := decide_eq_true c5
        have c5b1 : decide (0 < l0.length) = true := decide_eq_true (by omega)
        clear c5
        (first | rw [c5b0] | (simp only [i64_w, i32_w]; rw [c5b0]) | skip)
        have H' := Aside0.mk H
        clear H
        go_wp2_with (first | (go_at_call 45; (with_reducible refine (spec_l01In.calls (l0.length : Int) 1 10 true _ A3.out).mono ?_); rintro e w' ⟨rfl, ⟨nd, rfl⟩⟩; (try first | exact ⟨rfl, _, World.drewN_drewN _ _ _⟩ | exact ⟨rfl, _, Eq.trans (World.drewN_drewN _ _ _) (congrArg (World.drewN _) (Nat.add_assoc _ _ _))⟩); have p266 : 0 ≤ (0 : Int) := (by omega); have q266 : 0 < (l0.length : Int) := of_decide_eq_true (by first | (with_reducible assumption) | assumption); obtain ⟨ad266, A266_0, c266_0, e266, hx266_0, hl266_0, hi266_0⟩ := at_T42 HR0.out 0 p266 q266; cases e266; have qi266 : (0 < l0.length) = True := eq_true (by omega); (try rw [show ((0 : Int)).toNat = 0 from rfl] at hx266_0); (try rw [Addr.add_zero'] at hx266_0); have HR266_0 := Aside0.mk hi266_0; have HC266_0 := Aside0.mk hl266_0; clear hi266_0 hl266_0; replace p266 := eq_true p266; replace q266 := eq_true q266))
        repeat (go_quiet (first | (go_at_call 45; (with_reducible refine (spec_l01In.calls (l0.length : Int) 1 10 true _ A3.out).mono ?_); rintro e w' ⟨rfl, ⟨nd, rfl⟩⟩; (try first | exact ⟨rfl, _, World.drewN_drewN _ _ _⟩ | exact ⟨rfl, _, Eq.trans (World.drewN_drewN _ _ _) (congrArg (World.drewN _) (Nat.add_assoc _ _ _))⟩); have p266 : 0 ≤ (0 : Int) := (by omega); have q266 : 0 < (l0.length : Int) := of_decide_eq_true (by first | (with_reducible assumption) | assumption); obtain ⟨ad266, A266_0, c266_0, e266, hx266_0, hl266_0, hi266_0⟩ := at_T42 HR0.out 0 p266 q266; cases e266; have qi266 : (0 < l0.length) = True := eq_true (by omega); (try rw [show ((0 : Int)).toNat = 0 from rfl] at hx266_0); (try rw [Addr.add_zero'] at hx266_0); have HR266_0 := Aside0.mk hi266_0; have HC266_0 := Aside0.mk hl266_0; clear hi266_0 hl266_0; replace p266 := eq_true p266; replace q266 := eq_true q266)); try go_wp2_with (first | (go_at_call 45; (with_reducible refine (spec_l01In.calls (l0.length : Int) 1 10 true _ A3.out).mono ?_); rintro e w' ⟨rfl, ⟨nd, rfl⟩⟩; (try first | exact ⟨rfl, _, World.drewN_drewN _ _ _⟩ | exact ⟨rfl, _, Eq.trans (World.drewN_drewN _ _ _) (congrArg (World.drewN _) (Nat.add_assoc _ _ _))⟩); have p266 : 0 ≤ (0 : Int) := (by omega); have q266 : 0 < (l0.length : Int) := of_decide_eq_true (by first | (with_reducible assumption) | assumption); obtain ⟨ad266, A266_0, c266_0, e266, hx266_0, hl266_0, hi266_0⟩ := at_T42 HR0.out 0 p266 q266; cases e266; have qi266 : (0 < l0.length) = True := eq_true (by omega); (try rw [show ((0 : Int)).toNat = 0 from rfl] at hx266_0); (try rw [Addr.add_zero'] at hx266_0); have HR266_0 := Aside0.mk hi266_0; have HC266_0 := Aside0.mk hl266_0; clear hi266_0 hl266_0; replace p266 := eq_true p266; replace q266 := eq_true q266)))
        go_meet
        case rel => exact ⟨_, (((((rd_T42 l0 0).f0).length : Int) == 0)), (by first | rfl | (simp; done) | (simp [*]; done)), H', ⟨by first | omega | exact Nat.le_refl _⟩, by repeat (first | exact Drawn0.refl _ | apply Drawn0.step)⟩
      · rw [if_neg c5] at H
        exact absurd H (by simp)
    · replace c4 := Bool.eq_false_iff.mpr c4
      subst c4
      have H1 : (spec_l13Ok.j0 k l0 true) = some r := by rw [if_neg (show ¬ (false = true) by decide)] at H; exact H
      clear H
      have H := H1
      clear H1
      have H' := Aside0.mk H
      clear H
      go_wp2_with (first | (go_at_call 45; (with_reducible refine (spec_l01In.calls (l0.length : Int) 1 10 false _ A3.out).mono ?_); rintro e w' ⟨rfl, ⟨nd, rfl⟩⟩; (try first | exact ⟨rfl, _, World.drewN_drewN _ _ _⟩ | exact ⟨rfl, _, Eq.trans (World.drewN_drewN _ _ _) (congrArg (World.drewN _) (Nat.add_assoc _ _ _))⟩)))
      repeat (go_quiet (first | (go_at_call 45; (with_reducible refine (spec_l01In.calls (l0.length : Int) 1 10 false _ A3.out).mono ?_); rintro e w' ⟨rfl, ⟨nd, rfl⟩⟩; (try first | exact ⟨rfl, _, World.drewN_drewN _ _ _⟩ | exact ⟨rfl, _, Eq.trans (World.drewN_drewN _ _ _) (congrArg (World.drewN _) (Nat.add_assoc _ _ _))⟩))); try go_wp2_with (first | (go_at_call 45; (with_reducible refine (spec_l01In.calls (l0.length : Int) 1 10 false _ A3.out).mono ?_); rintro e w' ⟨rfl, ⟨nd, rfl⟩⟩; (try first | exact ⟨rfl, _, World.drewN_drewN _ _ _⟩ | exact ⟨rfl, _, Eq.trans (World.drewN_drewN _ _ _) (congrArg (World.drewN _) (Nat.add_assoc _ _ _))⟩))))
      go_meet
      case rel => exact ⟨_, (true), (by first | rfl | (simp; done) | (simp [*]; done)), H', ⟨by first | omega | exact Nat.le_refl _⟩, by repeat (first | exact Drawn0.refl _ | apply Drawn0.step)⟩
  case rest =>
    clear HC2
    try clear c2
    try clear p2
    try clear q2
    try clear hx2
    try clear qi2
    try clear c4
    try clear c5
    try clear c5b0
    try clear c5b1
    try clear hx266_0
    try clear p266
    try clear q266
    obtain ⟨kq, x17_1, rfl, HA, HJ1, ⟨mc1, rfl⟩⟩ := hcut
    cases kq with
    | zero => exact absurd HA.out (by simp [spec_l13Ok.j0])
    | succ kj1 =>
      have H := HA.out
      clear HA
      simp only [spec_l13Ok.j0] at H
      by_cases c6 : x17_1 = true
      · subst c6
        have H1 : (some false) = some r := by rw [if_pos rfl] at H; exact H
        clear H
        have H := H1
        clear H1
        obtain rfl := Option.some.inj H
        go_wp2
        repeat (go_quiet (fail); try go_wp2)
        go_ret
        exact ⟨by first | rfl | (simp; done) | (simp [*]; done), by repeat (first | exact Drawn0.refl _ | apply Drawn0.step)⟩
      · replace c6 := Bool.eq_false_iff.mpr c6
        subst c6
        have H1 : (spec_l13Ok.l0 kj1 l0 0) = some r := by rw [if_neg (show ¬ (false = true) by decide)] at H; exact H
        clear H
        have H := H1
        clear H1
        have H' := Aside0.mk H
        clear H
        go_wp2
        repeat (go_quiet (fail); try go_wp2)
        go_loopg [3] kj1 (fun kq v3 w' => ∃ (x3_2 : Int), v3 = .int .i64 x3_2 ∧ Aside0 (spec_l13Ok.l0 kq l0 x3_2 = some r) ∧ Aside0 (kq ≤ kj1) ∧ Drawn0 w w')
        case atStart => exact ⟨(0), (by first | rfl | (simp; done) | (simp [*]; done)), H', ⟨Nat.le_refl _⟩, by repeat (first | exact Drawn0.refl _ | apply Drawn0.step)⟩
        case round =>
          clear H'
          try clear c1
          try clear c2
          try clear p2
          try clear q2
          try clear hx2
          try clear qi2
          try clear c4
          try clear c5
          try clear c5b0
          try clear c5b1
          try clear c6
          try clear hx266_0
          try clear p2
          try clear p266
          try clear q2
          try clear q266
          obtain ⟨x3_2, rfl, HA, HK2, ⟨m2, rfl⟩⟩ := hrel
          cases gk with
          | zero => exact absurd HA.out (by simp [spec_l13Ok.l0])
          | succ k2 =>
            have H := HA.out
            clear HA
            simp only [spec_l13Ok.l0] at H
            by_cases c7 : x3_2 < (l0.length : Int)
            · rw [if_pos c7] at H
              have c7b0 : decide (x3_2 < (l0.length : Int)) = true := decide_eq_true c7
              clear c7
              by_cases c8 : 0 ≤ x3_2
              · rw [if_pos c8] at H
                have c8b0 : decide (0 ≤ x3_2) = true := decide_eq_true c8
                clear c8
                by_cases c9 : 0 < (l0.length : Int)
                · rw [if_pos c9] at H
                  have c9b0 : decide (0 < (l0.length : Int)) = true := decide_eq_true c9
                  have c9b1 : decide (0 < l0.length) = true := decide_eq_true (by omega)
                  clear c9
                  by_cases c10 : (((rd_T42 l0 x3_2).f0).length : Int) = (((rd_T42 l0 0).f0).length : Int)
                  · rw [if_pos c10] at H
                    have c10b0 : ((((rd_T42 l0 x3_2).f0).length : Int) == (((rd_T42 l0 0).f0).length : Int)) = true := beq_iff_eq.mpr c10
                    have c10b1 : ((((rd_T42 l0 x3_2).f0).length : Int) != (((rd_T42 l0 0).f0).length : Int)) = false := bne_eq_false_iff_eq.mpr c10
                    have c10b2 : (((rd_T42 l0 x3_2).f0).length == ((rd_T42 l0 0).f0).length) = true := by first | simpa using c10 | (simp at c10 ⊢; omega)
                    clear c10
                    have H' := Aside0.mk H
                    clear H
                    have p267 : 0 ≤ (x3_2 : Int) := of_decide_eq_true (by first | (with_reducible assumption) | assumption)
                    have q267 : x3_2 < (l0.length : Int) := of_decide_eq_true (by first | (with_reducible assumption) | assumption)
                    obtain ⟨ad267, A267_0, c267_0, e267, hx267_0, hl267_0, hi267_0⟩ := at_T42 HR0.out x3_2 p267 q267
                    cases e267
                    have HR267_0 := Aside0.mk hi267_0
                    have HC267_0 := Aside0.mk hl267_0
                    clear hi267_0 hl267_0
                    replace p267 := eq_true p267
                    replace q267 := eq_true q267
                    have p268 : 0 ≤ (0 : Int) := (by omega)
                    have q268 : 0 < (l0.length : Int) := of_decide_eq_true (by first | (with_reducible assumption) | assumption)
                    obtain ⟨ad268, A268_0, c268_0, e268, hx268_0, hl268_0, hi268_0⟩ := at_T42 HR0.out 0 p268 q268
                    obtain rfl : ad267 = ad268 := (by injection e268)
                    have qi268 : (0 < l0.length) = True := eq_true (by omega)
                    (try rw [show ((0 : Int)).toNat = 0 from rfl] at hx268_0)
                    (try rw [Addr.add_zero'] at hx268_0)
                    have HR268_0 := Aside0.mk hi268_0
                    have HC268_0 := Aside0.mk hl268_0
                    clear hi268_0 hl268_0
                    replace p268 := eq_true p268
                    replace q268 := eq_true q268
                    go_wp2
                    repeat (go_quiet (fail); try go_wp2)
                    go_loopg [4] k2 (fun kq v4 w' => ∃ (x4_3 : Int), v4 = .int .i64 x4_3 ∧ Aside0 (spec_l13Ok.l1 kq l0 x3_2 x4_3 = some r) ∧ Aside0 (kq ≤ k2) ∧ Drawn0 w w')
                    case atStart => exact ⟨(0), (by first | rfl | (simp; done) | (simp [*]; done)), H', ⟨Nat.le_refl _⟩, by repeat (first | exact Drawn0.refl _ | apply Drawn0.step)⟩
                    case round =>
                      clear H'
                      try clear c1
                      try clear c2
                      try clear p2
                      try clear q2
                      try clear hx2
                      try clear qi2
                      try clear c4
                      try clear c5
                      try clear c5b0
                      try clear c5b1
                      try clear c6
                      try clear c7
                      try clear c7b0
                      try clear c8
                      try clear c8b0
                      try clear c9
                      try clear c9b0
                      try clear c9b1
                      try clear c10
                      try clear c10b0
                      try clear c10b1
                      try clear c10b2
                      try clear hx266_0
                      try clear hx267_0
                      try clear hx268_0
                      try clear p2
                      try clear p266
                      try clear p267
                      try clear p268
                      try clear q2
                      try clear q266
                      try clear q267
                      try clear q268
                      obtain ⟨x4_3, rfl, HA, HK3, ⟨m3, rfl⟩⟩ := hrel
                      cases gk with
                      | zero => exact absurd HA.out (by simp [spec_l13Ok.l1])
                      | succ k3 =>
                        have H := HA.out
                        clear HA
                        simp only [spec_l13Ok.l1] at H
                        by_cases c11 : x4_3 < x3_2
                        · rw [if_pos c11] at H
                          have c11b0 : decide (x4_3 < x3_2) = true := decide_eq_true c11
                          clear c11
                          have H' := Aside0.mk H
                          clear H
                          go_wp2
                          repeat (go_quiet (fail); try go_wp2)
                          go_loopg [5] k3 (fun kq v5 w' => ∃ (x5_4 : Int), v5 = .int .i64 x5_4 ∧ Aside0 (spec_l13Ok.l2 kq l0 x3_2 x4_3 x5_4 = some r) ∧ Aside0 (kq ≤ k3) ∧ Drawn0 w w')
                          case atStart => exact ⟨(0), (by first | rfl | (simp; done) | (simp [*]; done)), H', ⟨Nat.le_refl _⟩, by repeat (first | exact Drawn0.refl _ | apply Drawn0.step)⟩
                          case round =>
                            clear H'
                            try clear c1
                            try clear c2
                            try clear p2
                            try clear q2
                            try clear hx2
                            try clear qi2
                            try clear c4
                            try clear c5
                            try clear c5b0
                            try clear c5b1
                            try clear c6
                            try clear c7
                            try clear c7b0
                            try clear c8
                            try clear c8b0
                            try clear c9
                            try clear c9b0
                            try clear c9b1
                            try clear c10
                            try clear c10b0
                            try clear c10b1
                            try clear c10b2
                            try clear c11
                            try clear c11b0
                            try clear hx266_0
                            try clear hx267_0
                            try clear hx268_0
                            try clear p2
                            try clear p266
                            try clear p267
                            try clear p268
                            try clear q2
                            try clear q266
                            try clear q267
                            try clear q268
                            obtain ⟨x5_4, rfl, HA, HK4, ⟨m4, rfl⟩⟩ := hrel
                            cases gk with
                            | zero => exact absurd HA.out (by simp [spec_l13Ok.l2])
                            | succ k4 =>
                              have H := HA.out
                              clear HA
                              simp only [spec_l13Ok.l2] at H
                              by_cases c12 : 0 < (l0.length : Int)
                              · rw [if_pos c12] at H
                                have c12b0 : decide (0 < (l0.length : Int)) = true := decide_eq_true c12
                                have c12b1 : decide (0 < l0.length) = true := decide_eq_true (by omega)
                                clear c12
                                by_cases c13 : x5_4 < (((rd_T42 l0 0).f0).length : Int)
                                · rw [if_pos c13] at H
                                  have c13b0 : decide (x5_4 < (((rd_T42 l0 0).f0).length : Int)) = true := decide_eq_true c13
                                  clear c13
                                  by_cases c14 : 0 ≤ x3_2
                                  · rw [if_pos c14] at H
                                    have c14b0 : decide (0 ≤ x3_2) = true := decide_eq_true c14
                                    clear c14
                                    by_cases c15 : x3_2 < (l0.length : Int)
                                    · rw [if_pos c15] at H
                                      have c15b0 : decide (x3_2 < (l0.length : Int)) = true := decide_eq_true c15
                                      clear c15
                                      by_cases c16 : 0 ≤ x5_4
                                      · rw [if_pos c16] at H
                                        have c16b0 : decide (0 ≤ x5_4) = true := decide_eq_true c16
                                        clear c16
                                        by_cases c17 : x5_4 < (((rd_T42 l0 x3_2).f0).length : Int)
                                        · rw [if_pos c17] at H
                                          have c17b0 : decide (x5_4 < (((rd_T42 l0 x3_2).f0).length : Int)) = true := decide_eq_true c17
                                          clear c17
                                          by_cases c18 : 0 ≤ x4_3
                                          · rw [if_pos c18] at H
                                            have c18b0 : decide (0 ≤ x4_3) = true := decide_eq_true c18
                                            clear c18
                                            by_cases c19 : x4_3 < (l0.length : Int)
                                            · rw [if_pos c19] at H
                                              have c19b0 : decide (x4_3 < (l0.length : Int)) = true := decide_eq_true c19
                                              clear c19
                                              by_cases c20 : x5_4 < (((rd_T42 l0 x4_3).f0).length : Int)
                                              · rw [if_pos c20] at H
                                                have c20b0 : decide (x5_4 < (((rd_T42 l0 x4_3).f0).length : Int)) = true := decide_eq_true c20
                                                clear c20
                                                by_cases c21 : (rd ((rd_T42 l0 x3_2).f0) x5_4) = (rd ((rd_T42 l0 x4_3).f0) x5_4)
                                                · rw [if_pos c21] at H
                                                  have c21b0 : ((rd ((rd_T42 l0 x3_2).f0) x5_4) == (rd ((rd_T42 l0 x4_3).f0) x5_4)) = true := beq_iff_eq.mpr c21
                                                  have c21b1 : ((rd ((rd_T42 l0 x3_2).f0) x5_4) != (rd ((rd_T42 l0 x4_3).f0) x5_4)) = false := bne_eq_false_iff_eq.mpr c21
                                                  clear c21
                                                  by_cases c22 : (((rd_T42 l0 0).f0).length : Int) > 1
                                                  · rw [if_pos c22] at H
                                                    have c22b0 : decide (1 < (((rd_T42 l0 0).f0).length : Int)) = true := decide_eq_true c22
                                                    have c22b1 : decide (1 < ((rd_T42 l0 0).f0).length) = true := decide_eq_true (by omega)
                                                    clear c22
                                                    obtain rfl := Option.some.inj H
                                                    have p269 : 0 ≤ (0 : Int) := (by omega)
                                                    have q269 : 0 < (l0.length : Int) := of_decide_eq_true (by first | (with_reducible assumption) | assumption)
                                                    obtain ⟨ad269, A269_0, c269_0, e269, hx269_0, hl269_0, hi269_0⟩ := at_T42 HR0.out 0 p269 q269
                                                    obtain rfl : ad267 = ad269 := (by injection e269)
                                                    have qi269 : (0 < l0.length) = True := eq_true (by omega)
                                                    (try rw [show ((0 : Int)).toNat = 0 from rfl] at hx269_0)
                                                    (try rw [Addr.add_zero'] at hx269_0)
                                                    have HR269_0 := Aside0.mk hi269_0
                                                    have HC269_0 := Aside0.mk hl269_0
                                                    clear hi269_0 hl269_0
                                                    replace p269 := eq_true p269
                                                    replace q269 := eq_true q269
                                                    have p270 : 0 ≤ (x3_2 : Int) := of_decide_eq_true (by first | (with_reducible assumption) | assumption)
                                                    have q270 : x3_2 < (l0.length : Int) := of_decide_eq_true (by first | (with_reducible assumption) | assumption)
                                                    obtain ⟨ad270, A270_0, c270_0, e270, hx270_0, hl270_0, hi270_0⟩ := at_T42 HR0.out x3_2 p270 q270
                                                    obtain rfl : ad267 = ad270 := (by injection e270)
                                                    have HR270_0 := Aside0.mk hi270_0
                                                    have HC270_0 := Aside0.mk hl270_0
                                                    clear hi270_0 hl270_0
                                                    replace p270 := eq_true p270
                                                    replace q270 := eq_true q270
                                                    have p271 : 0 ≤ (x5_4 : Int) := of_decide_eq_true (by first | (with_reducible assumption) | assumption)
                                                    have q271 : x5_4 < (((rd_T42 l0 x3_2).f0).length : Int) := of_decide_eq_true (by first | (with_reducible assumption) | assumption)
                                                    obtain ⟨ad271, e271, hx271_0⟩ := Kd.at_int HR270_0.out x5_4 p271 q271
                                                    cases e271
                                                    replace p271 := eq_true p271
                                                    replace q271 := eq_true q271
                                                    have p272 : 0 ≤ (x4_3 : Int) := of_decide_eq_true (by first | (with_reducible assumption) | assumption)
                                                    have q272 : x4_3 < (l0.length : Int) := of_decide_eq_true (by first | (with_reducible assumption) | assumption)
                                                    obtain ⟨ad272, A272_0, c272_0, e272, hx272_0, hl272_0, hi272_0⟩ := at_T42 HR0.out x4_3 p272 q272
                                                    obtain rfl : ad267 = ad272 := (by injection e272)
                                                    have HR272_0 := Aside0.mk hi272_0
                                                    have HC272_0 := Aside0.mk hl272_0
                                                    clear hi272_0 hl272_0
                                                    replace p272 := eq_true p272
                                                    replace q272 := eq_true q272
                                                    have p273 : 0 ≤ (x5_4 : Int) := of_decide_eq_true (by first | (with_reducible assumption) | assumption)
                                                    have q273 : x5_4 < (((rd_T42 l0 x4_3).f0).length : Int) := of_decide_eq_true (by first | (with_reducible assumption) | assumption)
                                                    obtain ⟨ad273, e273, hx273_0⟩ := Kd.at_int HR272_0.out x5_4 p273 q273
                                                    cases e273
                                                    replace p273 := eq_true p273
                                                    replace q273 := eq_true q273
                                                    have p274 : 0 ≤ (0 : Int) := (by omega)
                                                    have q274 : 0 < (l0.length : Int) := of_decide_eq_true (by first | (with_reducible assumption) | assumption)
                                                    obtain ⟨ad274, A274_0, c274_0, e274, hx274_0, hl274_0, hi274_0⟩ := at_T42 HR0.out 0 p274 q274
                                                    obtain rfl : ad267 = ad274 := (by injection e274)
                                                    have qi274 : (0 < l0.length) = True := eq_true (by omega)
                                                    (try rw [show ((0 : Int)).toNat = 0 from rfl] at hx274_0)
                                                    (try rw [Addr.add_zero'] at hx274_0)
                                                    have HR274_0 := Aside0.mk hi274_0
                                                    have HC274_0 := Aside0.mk hl274_0
                                                    clear hi274_0 hl274_0
                                                    replace p274 := eq_true p274
                                                    replace q274 := eq_true q274
                                                    have ea_ := Option.some.inj (hx269_0.symm.trans hx274_0)
                                                    injection ea_ with ea_ en_ ec_
                                                    subst ea_
                                                    subst ec_
                                                    clear en_
                                                    go_wp2
                                                    repeat (go_quiet (fail); try go_wp2)
                                                    go_ret
                                                    exact ⟨by first | rfl | (simp; done) | (simp [*]; done), by repeat (first | exact Drawn0.refl _ | apply Drawn0.step)⟩
                                                  · rw [if_neg c22] at H
                                                    have c22b0 : decide (1 < (((rd_T42 l0 0).f0).length : Int)) = false := decide_eq_false c22
                                                    have c22b1 : decide (1 < ((rd_T42 l0 0).f0).length) = false := decide_eq_false (by omega)
                                                    clear c22
                                                    have H' := Aside0.mk H
                                                    clear H
                                                    have p269 : 0 ≤ (0 : Int) := (by omega)
                                                    have q269 : 0 < (l0.length : Int) := of_decide_eq_true (by first | (with_reducible assumption) | assumption)
                                                    obtain ⟨ad269, A269_0, c269_0, e269, hx269_0, hl269_0, hi269_0⟩ := at_T42 HR0.out 0 p269 q269
                                                    obtain rfl : ad267 = ad269 := (by injection e269)
                                                    have qi269 : (0 < l0.length) = True := eq_true (by omega)
                                                    (try rw [show ((0 : Int)).toNat = 0 from rfl] at hx269_0)
                                                    (try rw [Addr.add_zero'] at hx269_0)
                                                    have HR269_0 := Aside0.mk hi269_0
                                                    have HC269_0 := Aside0.mk hl269_0
                                                    clear hi269_0 hl269_0
                                                    replace p269 := eq_true p269
                                                    replace q269 := eq_true q269
                                                    have p270 : 0 ≤ (x3_2 : Int) := of_decide_eq_true (by first | (with_reducible assumption) | assumption)
                                                    have q270 : x3_2 < (l0.length : Int) := of_decide_eq_true (by first | (with_reducible assumption) | assumption)
                                                    obtain ⟨ad270, A270_0, c270_0, e270, hx270_0, hl270_0, hi270_0⟩ := at_T42 HR0.out x3_2 p270 q270
                                                    obtain rfl : ad267 = ad270 := (by injection e270)
                                                    have HR270_0 := Aside0.mk hi270_0
                                                    have HC270_0 := Aside0.mk hl270_0
                                                    clear hi270_0 hl270_0
                                                    replace p270 := eq_true p270
                                                    replace q270 := eq_true q270
                                                    have p271 : 0 ≤ (x5_4 : Int) := of_decide_eq_true (by first | (with_reducible assumption) | assumption)
                                                    have q271 : x5_4 < (((rd_T42 l0 x3_2).f0).length : Int) := of_decide_eq_true (by first | (with_reducible assumption) | assumption)
                                                    obtain ⟨ad271, e271, hx271_0⟩ := Kd.at_int HR270_0.out x5_4 p271 q271
                                                    cases e271
                                                    replace p271 := eq_true p271
                                                    replace q271 := eq_true q271
                                                    have p272 : 0 ≤ (x4_3 : Int) := of_decide_eq_true (by first | (with_reducible assumption) | assumption)
                                                    have q272 : x4_3 < (l0.length : Int) := of_decide_eq_true (by first | (with_reducible assumption) | assumption)
                                                    obtain ⟨ad272, A272_0, c272_0, e272, hx272_0, hl272_0, hi272_0⟩ := at_T42 HR0.out x4_3 p272 q272
                                                    obtain rfl : ad267 = ad272 := (by injection e272)
                                                    have HR272_0 := Aside0.mk hi272_0
                                                    have HC272_0 := Aside0.mk hl272_0
                                                    clear hi272_0 hl272_0
                                                    replace p272 := eq_true p272
                                                    replace q272 := eq_true q272
                                                    have p273 : 0 ≤ (x5_4 : Int) := of_decide_eq_true (by first | (with_reducible assumption) | assumption)
                                                    have q273 : x5_4 < (((rd_T42 l0 x4_3).f0).length : Int) := of_decide_eq_true (by first | (with_reducible assumption) | assumption)
                                                    obtain ⟨ad273, e273, hx273_0⟩ := Kd.at_int HR272_0.out x5_4 p273 q273
                                                    cases e273
                                                    replace p273 := eq_true p273
                                                    replace q273 := eq_true q273
                                                    have p274 : 0 ≤ (0 : Int) := (by omega)
                                                    have q274 : 0 < (l0.length : Int) := of_decide_eq_true (by first | (with_reducible assumption) | assumption)
                                                    obtain ⟨ad274, A274_0, c274_0, e274, hx274_0, hl274_0, hi274_0⟩ := at_T42 HR0.out 0 p274 q274
                                                    obtain rfl : ad267 = ad274 := (by injection e274)
                                                    have qi274 : (0 < l0.length) = True := eq_true (by omega)
                                                    (try rw [show ((0 : Int)).toNat = 0 from rfl] at hx274_0)
                                                    (try rw [Addr.add_zero'] at hx274_0)
                                                    have HR274_0 := Aside0.mk hi274_0
                                                    have HC274_0 := Aside0.mk hl274_0
                                                    clear hi274_0 hl274_0
                                                    replace p274 := eq_true p274
                                                    replace q274 := eq_true q274
                                                    have ea_ := Option.some.inj (hx269_0.symm.trans hx274_0)
                                                    injection ea_ with ea_ en_ ec_
                                                    subst ea_
                                                    subst ec_
                                                    clear en_
                                                    go_wp2
                                                    repeat (go_quiet (fail); try go_wp2)
                                                    go_roundg k4
                                                    case measure => have := HJ1.out; have := HK2.out; have := HK3.out; have := HK4.out; omega
                                                    case rel => exact ⟨(wrap64 (x5_4 + 1)), (by first | rfl | (simp; done) | (simp [*]; done)), H', ⟨by have := HJ1.out; have := HK2.out; have := HK3.out; have := HK4.out; omega⟩, by repeat (first | exact Drawn0.refl _ | apply Drawn0.step)⟩
                                                · rw [if_neg c21] at H
                                                  have c21b0 : ((rd ((rd_T42 l0 x3_2).f0) x5_4) == (rd ((rd_T42 l0 x4_3).f0) x5_4)) = false := beq_eq_false_iff_ne.mpr c21
                                                  have c21b1 : ((rd ((rd_T42 l0 x3_2).f0) x5_4) != (rd ((rd_T42 l0 x4_3).f0) x5_4)) = true := bne_iff_ne.mpr c21
                                                  have H' := Aside0.mk H
                                                  clear H
                                                  have p269 : 0 ≤ (0 : Int) := (by omega)
                                                  have q269 : 0 < (l0.length : Int) := of_decide_eq_true (by first | (with_reducible assumption) | assumption)
                                                  obtain ⟨ad269, A269_0, c269_0, e269, hx269_0, hl269_0, hi269_0⟩ := at_T42 HR0.out 0 p269 q269
                                                  obtain rfl : ad267 = ad269 := (by injection e269)
                                                  have qi269 : (0 < l0.length) = True := eq_true (by omega)
                                                  (try rw [show ((0 : Int)).toNat = 0 from rfl] at hx269_0)
                                                  (try rw [Addr.add_zero'] at hx269_0)
                                                  have HR269_0 := Aside0.mk hi269_0
                                                  have HC269_0 := Aside0.mk hl269_0
                                                  clear hi269_0 hl269_0
                                                  replace p269 := eq_true p269
                                                  replace q269 := eq_true q269
                                                  have p270 : 0 ≤ (x3_2 : Int) := of_decide_eq_true (by first | (with_reducible assumption) | assumption)
                                                  have q270 : x3_2 < (l0.length : Int) := of_decide_eq_true (by first | (with_reducible assumption) | assumption)
                                                  obtain ⟨ad270, A270_0, c270_0, e270, hx270_0, hl270_0, hi270_0⟩ := at_T42 HR0.out x3_2 p270 q270
                                                  obtain rfl : ad267 = ad270 := (by injection e270)
                                                  have HR270_0 := Aside0.mk hi270_0
                                                  have HC270_0 := Aside0.mk hl270_0
                                                  clear hi270_0 hl270_0
                                                  replace p270 := eq_true p270
                                                  replace q270 := eq_true q270
                                                  have p271 : 0 ≤ (x5_4 : Int) := of_decide_eq_true (by first | (with_reducible assumption) | assumption)
                                                  have q271 : x5_4 < (((rd_T42 l0 x3_2).f0).length : Int) := of_decide_eq_true (by first | (with_reducible assumption) | assumption)
                                                  obtain ⟨ad271, e271, hx271_0⟩ := Kd.at_int HR270_0.out x5_4 p271 q271
                                                  cases e271
                                                  replace p271 := eq_true p271
                                                  replace q271 := eq_true q271
                                                  have p272 : 0 ≤ (x4_3 : Int) := of_decide_eq_true (by first | (with_reducible assumption) | assumption)
                                                  have q272 : x4_3 < (l0.length : Int) := of_decide_eq_true (by first | (with_reducible assumption) | assumption)
                                                  obtain ⟨ad272, A272_0, c272_0, e272, hx272_0, hl272_0, hi272_0⟩ := at_T42 HR0.out x4_3 p272 q272
                                                  obtain rfl : ad267 = ad272 := (by injection e272)
                                                  have HR272_0 := Aside0.mk hi272_0
                                                  have HC272_0 := Aside0.mk hl272_0
                                                  clear hi272_0 hl272_0
                                                  replace p272 := eq_true p272
                                                  replace q272 := eq_true q272
                                                  have p273 : 0 ≤ (x5_4 : Int) := of_decide_eq_true (by first | (with_reducible assumption) | assumption)
                                                  have q273 : x5_4 < (((rd_T42 l0 x4_3).f0).length : Int) := of_decide_eq_true (by first | (with_reducible assumption) | assumption)
                                                  obtain ⟨ad273, e273, hx273_0⟩ := Kd.at_int HR272_0.out x5_4 p273 q273
                                                  cases e273
                                                  replace p273 := eq_true p273
                                                  replace q273 := eq_true q273
                                                  go_wp2
                                                  repeat (go_quiet (fail); try go_wp2)
                                                  go_roundg k4
                                                  case measure => have := HJ1.out; have := HK2.out; have := HK3.out; have := HK4.out; omega
                                                  case rel => exact ⟨(wrap64 (x5_4 + 1)), (by first | rfl | (simp; done) | (simp [*]; done)), H', ⟨by have := HJ1.out; have := HK2.out; have := HK3.out; have := HK4.out; omega⟩, by repeat (first | exact Drawn0.refl _ | apply Drawn0.step)⟩
                                              · rw [if_neg c20] at H
                                                exact absurd H (by simp)
                                            · rw [if_neg c19] at H
                                              exact absurd H (by simp)
                                          · rw [if_neg c18] at H
                                            exact absurd H (by simp)
                                        · rw [if_neg c17] at H
                                          exact absurd H (by simp)
                                      · rw [if_neg c16] at H
                                        exact absurd H (by simp)
                                    · rw [if_neg c15] at H
                                      exact absurd H (by simp)
                                  · rw [if_neg c14] at H
                                    exact absurd H (by simp)
                                · rw [if_neg c13] at H
                                  have c13b0 : decide (x5_4 < (((rd_T42 l0 0).f0).length : Int)) = false := decide_eq_false c13
                                  clear c13
                                  have H' := Aside0.mk H
                                  clear H
                                  have p269 : 0 ≤ (0 : Int) := (by omega)
                                  have q269 : 0 < (l0.length : Int) := of_decide_eq_true (by first | (with_reducible assumption) | assumption)
                                  obtain ⟨ad269, A269_0, c269_0, e269, hx269_0, hl269_0, hi269_0⟩ := at_T42 HR0.out 0 p269 q269
                                  obtain rfl : ad267 = ad269 := (by injection e269)
                                  have qi269 : (0 < l0.length) = True := eq_true (by omega)
                                  (try rw [show ((0 : Int)).toNat = 0 from rfl] at hx269_0)
                                  (try rw [Addr.add_zero'] at hx269_0)
                                  have HR269_0 := Aside0.mk hi269_0
                                  have HC269_0 := Aside0.mk hl269_0
                                  clear hi269_0 hl269_0
                                  replace p269 := eq_true p269
                                  replace q269 := eq_true q269
                                  go_wp2
                                  repeat (go_quiet (fail); try go_wp2)
                                  go_roundg k4
                                  case measure => have := HJ1.out; have := HK2.out; have := HK3.out; have := HK4.out; omega
                                  case rel => exact ⟨(wrap64 (x4_3 + 1)), (by first | rfl | (simp; done) | (simp [*]; done)), H', ⟨by have := HJ1.out; have := HK2.out; have := HK3.out; have := HK4.out; omega⟩, by repeat (first | exact Drawn0.refl _ | apply Drawn0.step)⟩
                              · rw [if_neg c12] at H
                                exact absurd H (by simp)
                        · rw [if_neg c11] at H
                          have c11b0 : decide (x4_3 < x3_2) = false := decide_eq_false c11
                          clear c11
                          have H' := Aside0.mk H
                          clear H
                          go_wp2
                          repeat (go_quiet (fail); try go_wp2)
                          go_roundg k3
                          case measure => have := HJ1.out; have := HK2.out; have := HK3.out; omega
                          case rel => exact ⟨(wrap64 (x3_2 + 1)), (by first | rfl | (simp; done) | (simp [*]; done)), H', ⟨by have := HJ1.out; have := HK2.out; have := HK3.out; omega⟩, by repeat (first | exact Drawn0.refl _ | apply Drawn0.step)⟩
                  · rw [if_neg c10] at H
                    have c10b0 : ((((rd_T42 l0 x3_2).f0).length : Int) == (((rd_T42 l0 0).f0).length : Int)) = false := beq_eq_false_iff_ne.mpr c10
                    have c10b1 : ((((rd_T42 l0 x3_2).f0).length : Int) != (((rd_T42 l0 0).f0).length : Int)) = true := bne_iff_ne.mpr c10
                    have c10b2 : (((rd_T42 l0 x3_2).f0).length == ((rd_T42 l0 0).f0).length) = false := by first | simpa using c10 | (simp at c10 ⊢; omega)
                    obtain rfl := Option.some.inj H
                    have p267 : 0 ≤ (x3_2 : Int) := of_decide_eq_true (by first | (with_reducible assumption) | assumption)
                    have q267 : x3_2 < (l0.length : Int) := of_decide_eq_true (by first | (with_reducible assumption) | assumption)
                    obtain ⟨ad267, A267_0, c267_0, e267, hx267_0, hl267_0, hi267_0⟩ := at_T42 HR0.out x3_2 p267 q267
                    cases e267
                    have HR267_0 := Aside0.mk hi267_0
                    have HC267_0 := Aside0.mk hl267_0
                    clear hi267_0 hl267_0
                    replace p267 := eq_true p267
                    replace q267 := eq_true q267
                    have p268 : 0 ≤ (0 : Int) := (by omega)
                    have q268 : 0 < (l0.length : Int) := of_decide_eq_true (by first | (with_reducible assumption) | assumption)
                    obtain ⟨ad268, A268_0, c268_0, e268, hx268_0, hl268_0, hi268_0⟩ := at_T42 HR0.out 0 p268 q268
                    obtain rfl : ad267 = ad268 := (by injection e268)
                    have qi268 : (0 < l0.length) = True := eq_true (by omega)
                    (try rw [show ((0 : Int)).toNat = 0 from rfl] at hx268_0)
                    (try rw [Addr.add_zero'] at hx268_0)
                    have HR268_0 := Aside0.mk hi268_0
                    have HC268_0 := Aside0.mk hl268_0
                    clear hi268_0 hl268_0
                    replace p268 := eq_true p268
                    replace q268 := eq_true q268
                    go_wp2
                    repeat (go_quiet (fail); try go_wp2)
                    go_ret
                    exact ⟨by first | rfl | (simp; done) | (simp [*]; done), by repeat (first | exact Drawn0.refl _ | apply Drawn0.step)⟩
                · rw [if_neg c9] at H
                  exact absurd H (by simp)
              · rw [if_neg c8] at H
                exact absurd H (by simp)
            · rw [if_neg c7] at H
              have c7b0 : decide (x3_2 < (l0.length : Int)) = false := decide_eq_false c7
              clear c7
              obtain rfl := Option.some.inj H
              go_wp2
              repeat (go_quiet (fail); try go_wp2)
              go_ret
              exact ⟨by first | rfl | (simp; done) | (simp [*]; done), by repeat (first | exact Drawn0.refl _ | apply Drawn0.step)⟩

end Go.Proofs.Ytbcljfbpkmlgpaa.Q
