-- Written by a session's own program (wip/tools/myprint.py) over the kit's printer, out of the translation. Not trusted: Lean checks it.
import Derived.Test.YtdebpmdbeogglaaQ0
import Derived.Test.YtdebpmdbeogglaaQ1
-- squeezed
namespace Go.Proofs.Ytdebpmdbeogglaa.Q
open Go.RowKit Go.Proofs.YtdebpmdbeogglaaW.PrintWords Go.Proofs.YtdebpmdbeogglaaW.PrintLast Go.Proofs.YtdebpmdbeogglaaW.PrintMore
attribute [local go_sem] max2_int min2_int max_two min_two max_three min_three max_four min_four   -- for this text's walks alone
set_option linter.unusedVariables false
set_option linter.unusedSimpArgs false

/-! ### impl_ringOf: function 38 -/
def impl_ringOf.l0 : Nat → List Int → Int → Int → Int → Option (Int)
 | 0, _, _, _, _ => none
 | k + 1, x0, x1, x5, x6 => if x6 = x1 then (some x5) else (if x6 < 0 then (some 0) else (if x5 > (x0.length : Int) then (some 0) else (if 0 ≤ x6 then (if x6 < (x0.length : Int) then (impl_ringOf.l0 k x0 x1 (wrap64 (x5 + 1)) (rd x0 x6)) else (none)) else (none))))
def impl_ringOf.f (k : Nat) (l0 : List Int) (a1 : Int) : Option (Int) := if 0 ≤ a1 then (if a1 < (l0.length : Int) then (impl_ringOf.l0 k l0 a1 1 (rd l0 a1)) else (none)) else (none)
set_option maxHeartbeats 8000000 in
set_option maxRecDepth 100000 in
theorem impl_ringOf.calls (k : Nat) (A0 : Option Addr) (c0 : Nat) (l0 : List Int) (a1 : Int) (r : Int) (w : World) (hr0 : Kd.C (Kd.int .i64) w A0 l0.length l0) (hc0 : l0.length ≤ c0) (h : impl_ringOf.f k l0 a1 = some r) :
  Calls Try.prog 38 #[.slice A0 l0.length c0, .int .i64 a1] w fun e w' => e = .returned (.int .i64 r) ∧ Drawn0 w w' := by
 have HR0 := Aside0.mk hr0; have HC0 := Aside0.mk hc0; clear hr0 hc0; have H : (if 0 ≤ a1 then (if a1 < (l0.length : Int) then (impl_ringOf.l0 k l0 a1 1 (rd l0 a1)) else (none)) else (none)) = some r := h; clear h; by_cases c3 : 0 ≤ a1
 ·rw [if_pos c3] at H; have c3b0 : decide (0 ≤ a1) = true := decide_eq_true c3; clear c3; by_cases c4 : a1 < (l0.length : Int)
  ·rw [if_pos c4] at H; have c4b0 : decide (a1 < (l0.length : Int)) = true := decide_eq_true c4; clear c4; have H' := Aside0.mk H; clear H; have p125 : 0 ≤ (a1 : Int) := od_; have q125 : a1 < (l0.length : Int) := od_; obtain ⟨ad125, e125, hx125_0⟩ := Kd.at_int HR0.out a1 p125 q125
   cases e125; replace p125 := eq_true p125; replace q125 := eq_true q125; go_enter Try.func38, Try.ntmps38; go_wp2; go_loopg [5, 6] k (fun kq v5 v6 w' => ∃ (x5_1 : Int) (x6_1 : Int), v5 = .int .i64 x5_1 ∧ v6 = .int .i64 x6_1 ∧ Aside0 (impl_ringOf.l0 kq l0 a1 x5_1 x6_1 = some r) ∧ Aside0 (kq ≤ k) ∧ Drawn0 w w')
   case atStart => exact ⟨(1), (rd l0 a1), ev_, ev_, H', ⟨Nat.le_refl _⟩, by repeat (first | exact Drawn0.refl _ | apply Drawn0.step)⟩
   case round =>
    clear H'; (try clear p1); (try clear q1); (try clear hx1); (try clear p2); (try clear c3); (try clear c3b0); (try clear c4); (try clear c4b0); (try clear hx125_0); (try clear p125); (try clear q125); obtain ⟨x5_1, x6_1, rfl, rfl, HA, HK1, ⟨m1, rfl⟩⟩ := hrel
    cases gk with
    | zero => exact absurd HA.out (by simp [impl_ringOf.l0])
    | succ k1 =>
     have H := HA.out; clear HA; simp only [impl_ringOf.l0] at H; by_cases c5 : x6_1 = a1
     ·rw [if_pos c5] at H; have c5b0 : (x6_1 == a1) = true := beq_iff_eq.mpr c5; have c5b1 : (x6_1 != a1) = false := bne_eq_false_iff_eq.mpr c5; clear c5; obtain rfl := Option.some.inj H; go_wp2; go_ret; exact ⟨by first | rfl | (simp; done) | (simp [*]; done), by repeat (first | exact Drawn0.refl _ | apply Drawn0.step)⟩
     ·rw [if_neg c5] at H; have c5b0 : (x6_1 == a1) = false := beq_eq_false_iff_ne.mpr c5; have c5b1 : (x6_1 != a1) = true := bne_iff_ne.mpr c5; by_cases c6 : x6_1 < 0
      ·rw [if_pos c6] at H; have c6b0 : decide (x6_1 < 0) = true := decide_eq_true c6; clear c6; obtain rfl := Option.some.inj H; go_wp2; go_ret; exact ⟨by first | rfl | (simp; done) | (simp [*]; done), by repeat (first | exact Drawn0.refl _ | apply Drawn0.step)⟩
      ·rw [if_neg c6] at H; have c6b0 : decide (x6_1 < 0) = false := decide_eq_false c6; clear c6; by_cases c7 : x5_1 > (l0.length : Int)
       ·rw [if_pos c7] at H; have c7b0 : decide ((l0.length : Int) < x5_1) = true := decide_eq_true c7; clear c7; obtain rfl := Option.some.inj H; go_wp2; go_ret; exact ⟨by first | rfl | (simp; done) | (simp [*]; done), by repeat (first | exact Drawn0.refl _ | apply Drawn0.step)⟩
       ·rw [if_neg c7] at H; have c7b0 : decide ((l0.length : Int) < x5_1) = false := decide_eq_false c7; clear c7; by_cases c8 : 0 ≤ x6_1
        ·rw [if_pos c8] at H; have c8b0 : decide (0 ≤ x6_1) = true := decide_eq_true c8; clear c8; by_cases c9 : x6_1 < (l0.length : Int)
         ·rw [if_pos c9] at H; have c9b0 : decide (x6_1 < (l0.length : Int)) = true := decide_eq_true c9; clear c9; have H' := Aside0.mk H; clear H; have p126 : 0 ≤ (x6_1 : Int) := od_; have q126 : x6_1 < (l0.length : Int) := od_; obtain ⟨ad126, e126, hx126_0⟩ := Kd.at_int HR0.out x6_1 p126 q126; obtain rfl : ad125 = ad126 := (by injection e126); replace p126 := eq_true p126; replace q126 := eq_true q126; go_wp2; go_roundg k1
          case measure => have := HK1.out; omega
          case rel => exact ⟨(wrap64 (x5_1 + 1)), (rd l0 x6_1), ev_, ev_, H', ⟨by have := HK1.out; omega⟩, by repeat (first | exact Drawn0.refl _ | apply Drawn0.step)⟩
         ·rw [if_neg c9] at H; exact absurd H (by simp)
        ·rw [if_neg c8] at H; exact absurd H (by simp)
  ·rw [if_neg c4] at H; exact absurd H (by simp)
 ·rw [if_neg c3] at H; exact absurd H (by simp)

/-! ### impl_RingsAt: function 11 -/
def impl_RingsAt.l0 : Nat → List Int → Int → Int → Int → Option (Int)
 | 0, _, _, _, _ => none
 | k + 1, x5, x6, x12, x13 => if x13 < x12 then ((impl_ringOf.f k x5 x13).bind fun t130 => (if t130 > 2 then (impl_RingsAt.l0 k x5 (wrap64 (x6 + 1)) x12 (wrap64 (x13 + 1))) else (impl_RingsAt.l0 k x5 x6 x12 (wrap64 (x13 + 1))))) else (some x6)
def impl_RingsAt.f (k : Nat) (l0 : List (S52)) (a1 : Int) : Option (Int) := (impl_nextOf.f k l0 a1).bind fun t127 => (impl_RingsAt.l0 k t127 0 (t127.length : Int) 0)
set_option maxHeartbeats 8000000 in
set_option maxRecDepth 100000 in
theorem impl_RingsAt.calls (k : Nat) (A0 : Option Addr) (c0 : Nat) (l0 : List (S52)) (a1 : Int) (r : Int) (w : World) (hr0 : Kd.C k52 w A0 l0.length l0) (hc0 : l0.length ≤ c0) (h : impl_RingsAt.f k l0 a1 = some r) :
  Calls Try.prog 11 #[.slice A0 l0.length c0, .int .i64 a1] w fun e w' => e = .returned (.int .i64 r) ∧ Below w.heap.size w w' := by
 have HR0 := Aside0.mk hr0; have HC0 := Aside0.mk hc0; clear hr0 hc0; have HB := Aside0.mk (Below.refl w.heap.size w); have H : ((impl_nextOf.f k l0 a1).bind fun t127 => (impl_RingsAt.l0 k t127 0 (t127.length : Int) 0)) = some r := h; clear h; replace H := Option.bind_eq_some_iff.mp H; obtain ⟨t127, A30, H⟩ := H; have A3 := Aside0.mk A30; clear A30; have H' := Aside0.mk H; clear H; go_enter Try.func11, Try.ntmps11; go_wp2_with (first | ((with_reducible refine gate_callee (f := 37) rfl ?_); refine gL_ (some 10) Try.func37 #[.slice A0 l0.length c0, .int .i64 a1] ?_; (with_reducible refine (impl_nextOf.calls k _ _ l0 a1 t127 _ ?side1 ?side2 A3.out).mono ?_); (case side1 => exact uC HR0.out); (case side2 => exact HC0.out); rintro e w4 ⟨v128, rfl, ho0, hb⟩; refine ⟨_, rfl, ?_⟩; have HO129 := Aside0.mk (Kd.R_lower ho0 (below_size (uB HB.out))); replace HB := Aside0.mk (below_step (uB HB.out) hb); (try clear hb); (try clear hb2); (try clear hk); (try clear hi); (try clear ho0); obtain ⟨Ao5, co5, eo5⟩ := Kd.R_slice HO129.out; subst eo5))
 go_loopg [6, 13] k (fun kq v6 v13 w' => ∃ (x6_1 : Int) (x13_1 : Int), v6 = .int .i64 x6_1 ∧ v13 = .int .i64 x13_1 ∧ Aside0 (impl_RingsAt.l0 kq t127 x6_1 (t127.length : Int) x13_1 = some r) ∧ Aside0 (kq ≤ k) ∧ Aside0 (Kd.R (Kd.int .i64) 3 w' w.heap.size (fun _ => True) (.slice Ao5 t127.length co5) t127) ∧ Aside0 (Below w.heap.size w w'))
 case atStart => exact ⟨(0), (0), ev_, ev_, H', ⟨Nat.le_refl _⟩, ⟨uR HO129.out⟩, ⟨uB HB.out⟩⟩
 case round =>
  clear H'; (try clear c1); (try clear p2); (try clear c3); obtain ⟨x6_1, x13_1, rfl, rfl, HA, HK1, HO_5, HB⟩ := hrel
  cases gk with
  | zero => exact absurd HA.out (by simp [impl_RingsAt.l0])
  | succ k1 =>
   have H := HA.out; clear HA; simp only [impl_RingsAt.l0] at H; by_cases c6 : x13_1 < (t127.length : Int)
   ·rw [if_pos c6] at H; have c6b0 : decide (x13_1 < (t127.length : Int)) = true := decide_eq_true c6; clear c6; replace H := Option.bind_eq_some_iff.mp H; obtain ⟨t130, A70, H⟩ := H; have A7 := Aside0.mk A70; clear A70; by_cases c8 : t130 > 2
    ·rw [if_pos c8] at H; have c8b0 : decide (2 < t130) = true := decide_eq_true c8; clear c8; have H' := Aside0.mk H; clear H; go_wp2_with (first | ((with_reducible refine gate_callee (f := 38) rfl ?_); refine gL_ (some 18) Try.func38 #[.slice Ao5 t127.length co5, .int .i64 x13_1] ?_; (with_reducible refine (impl_ringOf.calls k1 _ _ t127 x13_1 t130 _ ?side1 ?side2 A7.out).mono ?_); (case side1 => exact uC (Kd.R_reads' HO_5.out).2.2); (case side2 => exact (Kd.R_reads' HO_5.out).2.1); rintro e w' ⟨rfl, ⟨nd, rfl⟩⟩; refine ⟨_, rfl, ?_⟩))
     go_roundg k1
     case measure => have := HK1.out; omega
     case rel => exact ⟨(wrap64 (x6_1 + 1)), (wrap64 (x13_1 + 1)), ev_, ev_, H', ⟨by have := HK1.out; omega⟩, ⟨uR HO_5.out⟩, ⟨uB HB.out⟩⟩
    ·rw [if_neg c8] at H; have c8b0 : decide (2 < t130) = false := decide_eq_false c8; clear c8; have H' := Aside0.mk H; clear H; go_wp2_with (first | ((with_reducible refine gate_callee (f := 38) rfl ?_); refine gL_ (some 18) Try.func38 #[.slice Ao5 t127.length co5, .int .i64 x13_1] ?_; (with_reducible refine (impl_ringOf.calls k1 _ _ t127 x13_1 t130 _ ?side1 ?side2 A7.out).mono ?_); (case side1 => exact uC (Kd.R_reads' HO_5.out).2.2); (case side2 => exact (Kd.R_reads' HO_5.out).2.1); rintro e w' ⟨rfl, ⟨nd, rfl⟩⟩; refine ⟨_, rfl, ?_⟩))
     go_roundg k1
     case measure => have := HK1.out; omega
     case rel => exact ⟨(x6_1), (wrap64 (x13_1 + 1)), ev_, ev_, H', ⟨by have := HK1.out; omega⟩, ⟨uR HO_5.out⟩, ⟨uB HB.out⟩⟩
   ·rw [if_neg c6] at H; have c6b0 : decide (x13_1 < (t127.length : Int)) = false := decide_eq_false c6; clear c6; obtain rfl := Option.some.inj H; go_wp2; go_ret; exact ⟨by first | rfl | (simp [errW_none, errW_some] <;> rfl) | (simp [*, errW_none, errW_some] <;> rfl), uB HB.out⟩

/-! ### impl_SwapsAt: function 12 -/
def impl_SwapsAt.l0 : Nat → List Int → Int → Int → Int → Option (Int)
 | 0, _, _, _, _ => none
 | k + 1, x5, x6, x12, x13 => if x13 < x12 then ((impl_ringOf.f k x5 x13).bind fun t134 => (if t134 = 2 then (impl_SwapsAt.l0 k x5 (wrap64 (x6 + 1)) x12 (wrap64 (x13 + 1))) else (impl_SwapsAt.l0 k x5 x6 x12 (wrap64 (x13 + 1))))) else (some (wrap64 (Int.tdiv x6 2)))
def impl_SwapsAt.f (k : Nat) (l0 : List (S52)) (a1 : Int) : Option (Int) := (impl_nextOf.f k l0 a1).bind fun t131 => (impl_SwapsAt.l0 k t131 0 (t131.length : Int) 0)
set_option maxHeartbeats 8000000 in
set_option maxRecDepth 100000 in
theorem impl_SwapsAt.calls (k : Nat) (A0 : Option Addr) (c0 : Nat) (l0 : List (S52)) (a1 : Int) (r : Int) (w : World) (hr0 : Kd.C k52 w A0 l0.length l0) (hc0 : l0.length ≤ c0) (h : impl_SwapsAt.f k l0 a1 = some r) :
  Calls Try.prog 12 #[.slice A0 l0.length c0, .int .i64 a1] w fun e w' => e = .returned (.int .i64 r) ∧ Below w.heap.size w w' := by
 have HR0 := Aside0.mk hr0; have HC0 := Aside0.mk hc0; clear hr0 hc0; have HB := Aside0.mk (Below.refl w.heap.size w); have H : ((impl_nextOf.f k l0 a1).bind fun t131 => (impl_SwapsAt.l0 k t131 0 (t131.length : Int) 0)) = some r := h; clear h; replace H := Option.bind_eq_some_iff.mp H; obtain ⟨t131, A30, H⟩ := H; have A3 := Aside0.mk A30; clear A30; have H' := Aside0.mk H; clear H; go_enter Try.func12, Try.ntmps12; go_wp2_with (first | ((with_reducible refine gate_callee (f := 37) rfl ?_); refine gL_ (some 10) Try.func37 #[.slice A0 l0.length c0, .int .i64 a1] ?_; (with_reducible refine (impl_nextOf.calls k _ _ l0 a1 t131 _ ?side1 ?side2 A3.out).mono ?_); (case side1 => exact uC HR0.out); (case side2 => exact HC0.out); rintro e w4 ⟨v132, rfl, ho0, hb⟩; refine ⟨_, rfl, ?_⟩; have HO133 := Aside0.mk (Kd.R_lower ho0 (below_size (uB HB.out))); replace HB := Aside0.mk (below_step (uB HB.out) hb); (try clear hb); (try clear hb2); (try clear hk); (try clear hi); (try clear ho0); obtain ⟨Ao5, co5, eo5⟩ := Kd.R_slice HO133.out; subst eo5))
 go_loopg [6, 13] k (fun kq v6 v13 w' => ∃ (x6_1 : Int) (x13_1 : Int), v6 = .int .i64 x6_1 ∧ v13 = .int .i64 x13_1 ∧ Aside0 (impl_SwapsAt.l0 kq t131 x6_1 (t131.length : Int) x13_1 = some r) ∧ Aside0 (kq ≤ k) ∧ Aside0 (Kd.R (Kd.int .i64) 3 w' w.heap.size (fun _ => True) (.slice Ao5 t131.length co5) t131) ∧ Aside0 (Below w.heap.size w w'))
 case atStart => exact ⟨(0), (0), ev_, ev_, H', ⟨Nat.le_refl _⟩, ⟨uR HO133.out⟩, ⟨uB HB.out⟩⟩
 case round =>
  clear H'; (try clear c1); (try clear p2); (try clear c3); obtain ⟨x6_1, x13_1, rfl, rfl, HA, HK1, HO_5, HB⟩ := hrel
  cases gk with
  | zero => exact absurd HA.out (by simp [impl_SwapsAt.l0])
  | succ k1 =>
   have H := HA.out; clear HA; simp only [impl_SwapsAt.l0] at H; by_cases c6 : x13_1 < (t131.length : Int)
   ·rw [if_pos c6] at H; have c6b0 : decide (x13_1 < (t131.length : Int)) = true := decide_eq_true c6; clear c6; replace H := Option.bind_eq_some_iff.mp H; obtain ⟨t134, A70, H⟩ := H; have A7 := Aside0.mk A70; clear A70; by_cases c8 : t134 = 2
    ·rw [if_pos c8] at H; have c8b0 : (t134 == 2) = true := beq_iff_eq.mpr c8; have c8b1 : (t134 != 2) = false := bne_eq_false_iff_eq.mpr c8; clear c8; have H' := Aside0.mk H; clear H; go_wp2_with (first | ((with_reducible refine gate_callee (f := 38) rfl ?_); refine gL_ (some 18) Try.func38 #[.slice Ao5 t131.length co5, .int .i64 x13_1] ?_; (with_reducible refine (impl_ringOf.calls k1 _ _ t131 x13_1 t134 _ ?side1 ?side2 A7.out).mono ?_); (case side1 => exact uC (Kd.R_reads' HO_5.out).2.2); (case side2 => exact (Kd.R_reads' HO_5.out).2.1); rintro e w' ⟨rfl, ⟨nd, rfl⟩⟩; refine ⟨_, rfl, ?_⟩))
     go_roundg k1
     case measure => have := HK1.out; omega
     case rel => exact ⟨(wrap64 (x6_1 + 1)), (wrap64 (x13_1 + 1)), ev_, ev_, H', ⟨by have := HK1.out; omega⟩, ⟨uR HO_5.out⟩, ⟨uB HB.out⟩⟩
    ·rw [if_neg c8] at H; have c8b0 : (t134 == 2) = false := beq_eq_false_iff_ne.mpr c8; have c8b1 : (t134 != 2) = true := bne_iff_ne.mpr c8; have H' := Aside0.mk H; clear H; go_wp2_with (first | ((with_reducible refine gate_callee (f := 38) rfl ?_); refine gL_ (some 18) Try.func38 #[.slice Ao5 t131.length co5, .int .i64 x13_1] ?_; (with_reducible refine (impl_ringOf.calls k1 _ _ t131 x13_1 t134 _ ?side1 ?side2 A7.out).mono ?_); (case side1 => exact uC (Kd.R_reads' HO_5.out).2.2); (case side2 => exact (Kd.R_reads' HO_5.out).2.1); rintro e w' ⟨rfl, ⟨nd, rfl⟩⟩; refine ⟨_, rfl, ?_⟩))
     go_roundg k1
     case measure => have := HK1.out; omega
     case rel => exact ⟨(x6_1), (wrap64 (x13_1 + 1)), ev_, ev_, H', ⟨by have := HK1.out; omega⟩, ⟨uR HO_5.out⟩, ⟨uB HB.out⟩⟩
   ·rw [if_neg c6] at H; have c6b0 : decide (x13_1 < (t131.length : Int)) = false := decide_eq_false c6; clear c6; obtain rfl := Option.some.inj H; go_wp2; go_ret; exact ⟨by first | rfl | (simp [errW_none, errW_some] <;> rfl) | (simp [*, errW_none, errW_some] <;> rfl), uB HB.out⟩

/-! ### impl_ordered: function 56 -/
/-! ### Rows of whole numbers of the call's own that the library's sort has turned -/
theorem R_setCells (g n cap base e : Nat) (ok : Nat → Prop) (w0 : World) (hge : w0.heap.size ≤ g) : ∀ (vs : List Int) (i : Nat) (W : World) (xs : List Int), i + vs.length ≤ xs.length → Kd.R (Kd.int .i64) e W base ok (.slice (some ⟨g, 0, none⟩) n cap) xs → Below w0.heap.size w0 W →
    Kd.R (Kd.int .i64) e (W.setCells g i (vs.map (Value.int .i64))) base ok (.slice (some ⟨g, 0, none⟩) n cap) (xs.take i ++ vs ++ xs.drop (i + vs.length)) ∧ Below w0.heap.size w0 (W.setCells g i (vs.map (Value.int .i64))) ∧ (∀ k, k ≠ g → (W.setCells g i (vs.map (Value.int .i64))).heap[k]? = W.heap[k]?) ∧ (W.setCells g i (vs.map (Value.int .i64))).heap.size = W.heap.size
  | [], i, W, xs, _, h, hb => ⟨by rw [List.length_nil, Nat.add_zero, List.append_nil, List.take_append_drop]; exact h, hb, fun _ _ => rfl, rfl⟩
  | v :: vs, i, W, xs, hl, h, hb => by
    have h1 := Kd.R_putn h (i : Int) v
    rw [Int.toNat_natCast] at h1
    obtain ⟨h2, h3, h4, h5⟩ := R_setCells g n cap base e ok w0 hge vs (i + 1) _ _ (by simp at hl ⊢; omega) h1 (below_set hb hge)
    refine ⟨?_, h3, fun k hk => (h4 k hk).trans (Below.heap_setCell _ _ _ _ hk), h5.trans (by simp [World.setCell])⟩
    have e : (xs.set i v).take (i + 1) ++ vs ++ (xs.set i v).drop (i + 1 + vs.length) = xs.take i ++ (v :: vs) ++ xs.drop (i + (v :: vs).length) := by
      have hi : i < xs.length := by simp at hl; omega
      rw [List.take_succ_eq_append_getElem (by simpa using hi), List.drop_set_of_lt (by omega), List.take_set_of_le (Nat.le_refl i)]
      simp [show i + 1 + vs.length = i + (vs.length + 1) by omega]
    rw [← e]
    exact h2
theorem R_putRow {g n cap base e q : Nat} {ok : Nat → Prop} {W : World} {xs ys : List Int} {os : Array Obj} (w0 : World) (hge : w0.heap.size ≤ g) (hl : ys.length = xs.length) (h : Kd.R (Kd.int .i64) e W base ok (.slice (some ⟨g, 0, none⟩) n cap) xs) (hb : Below w0.heap.size w0 W) :
    Kd.R (Kd.int .i64) e (Go.Sort.grow (Go.Sort.putRow (Value.int .i64) (Go.Sort.ahead W q) g 0 ys.toArray) os) base ok (.slice (some ⟨g, 0, none⟩) n cap) ys ∧ Below w0.heap.size w0 (Go.Sort.grow (Go.Sort.putRow (Value.int .i64) (Go.Sort.ahead W q) g 0 ys.toArray) os) ∧ (∀ k, k < W.heap.size → k ≠ g → (Go.Sort.grow (Go.Sort.putRow (Value.int .i64) (Go.Sort.ahead W q) g 0 ys.toArray) os).heap[k]? = W.heap[k]?) ∧ W.heap.size ≤ (Go.Sort.grow (Go.Sort.putRow (Value.int .i64) (Go.Sort.ahead W q) g 0 ys.toArray) os).heap.size := by
  have hn := (Kd.R_reads' h).1
  have hH : Go.Sort.Holds (Value.int .i64) W g 0 xs.toArray := by
    intro j hj
    have hj' : j < xs.length := by simpa using hj
    obtain ⟨h1, h2⟩ := Kd.R_celln (0 : Int) h (j : Int) (by omega) (by omega)
    rw [Int.toNat_natCast] at h1 h2
    refine ⟨?_, by rw [Nat.zero_add]; exact h2⟩
    rw [Nat.zero_add, h1]
    congr 2
    rw [getElem!_pos xs.toArray j hj]
    unfold rdOf
    rw [Int.toNat_natCast, List.getD_eq_getElem?_getD, List.getElem?_eq_getElem hj']
    simp
  have hA : Go.Sort.putRow (Value.int .i64) (Go.Sort.ahead W q) g 0 xs.toArray = Go.Sort.ahead W q := Go.Sort.putRow_self (Value.int .i64) _ g 0 xs.toArray (Go.Sort.holds_ahead (Value.int .i64) W q g 0 xs.toArray hH)
  have hlay : Lib.lay xs.toArray 0 ys = ys.toArray := by
    apply Array.ext_getElem?
    intro j
    rw [Lib.lay_get? _ _ _ _ (by simp [hl])]
    by_cases c : j < ys.length
    · rw [if_pos (by omega), Nat.sub_zero]; simp
    · rw [if_neg (by omega), Array.getElem?_eq_none (by simp; omega), Array.getElem?_eq_none (by simp; omega)]
  have hS := Lib.putRow_setCells (Value.int .i64) (Go.Sort.ahead W q) g 0 ys xs.toArray 0 (by simp [hl])
  rw [hA, hlay, Nat.add_zero] at hS
  rw [← hS]
  have hRa : Kd.R (Kd.int .i64) e (Go.Sort.ahead W q) base ok (.slice (some ⟨g, 0, none⟩) n cap) xs := Kd.R_step h (fun _ _ _ => rfl)
  obtain ⟨h1, h2, h3, h4⟩ := R_setCells g n cap base e ok w0 hge ys 0 (Go.Sort.ahead W q) xs (by omega) hRa (hb.trans ⟨rfl, rfl, rfl, Nat.le_refl _, fun _ _ => rfl⟩)
  have e1 : xs.take 0 ++ ys ++ xs.drop (0 + ys.length) = ys := by rw [List.drop_of_length_le (by omega)]; simp
  rw [e1] at h1
  have h4' : ((Go.Sort.ahead W q).setCells g 0 (ys.map (Value.int .i64))).heap.size = W.heap.size := h4
  refine ⟨Kd.R_step h1 (fun k _ hk => Go.Sort.heap_grow_old _ os hk), h2.trans ⟨rfl, rfl, rfl, by simp, fun k hk => Go.Sort.heap_grow_old _ os (by have := h2.size; omega)⟩, fun k hk hne => (Go.Sort.heap_grow_old _ os (by omega)).trans (h3 k hne), by rw [Go.Sort.size_grow]; omega⟩
theorem R_holds {g n cap base e : Nat} {ok : Nat → Prop} {W : World} {xs : List Int} (h : Kd.R (Kd.int .i64) e W base ok (.slice (some ⟨g, 0, none⟩) n cap) xs) : Go.Sort.Holds (Value.int .i64) W g 0 xs.toArray := by
  have hn := (Kd.R_reads' h).1
  intro j hj
  have hj' : j < xs.length := by simpa using hj
  obtain ⟨h1, h2⟩ := Kd.R_celln (0 : Int) h (j : Int) (by omega) (by omega)
  rw [Int.toNat_natCast] at h1 h2
  refine ⟨?_, by rw [Nat.zero_add]; exact h2⟩
  rw [Nat.zero_add, h1]
  congr 2
  rw [getElem!_pos xs.toArray j hj]
  unfold rdOf
  rw [Int.toNat_natCast, List.getD_eq_getElem?_getD, List.getElem?_eq_getElem hj']
  simp

/-! ### ordered: a list in ascending order, each number once -/
def ascI (l : List Int) : List Int := Lib.compact (l.mergeSort fun x y => decide (x ≤ y))
def impl_ordered.f (l0 : List Int) : Option (List Int) := if l0.length < 4611686018427387904 then some (ascI l0) else none
theorem compact_len (l : List Int) : (Lib.compact l).length ≤ l.length := by
  unfold Lib.compact Lib.compactUpTo
  rw [List.length_map]
  exact Nat.le_trans (List.length_filter_le _ _) (by simp)
set_option maxHeartbeats 8000000 in
set_option maxRecDepth 100000 in
theorem impl_ordered.calls (P0_ : Nat → Prop) (u9000_ : Value) (l0 : List Int) (r : List Int) (w0 w : World) (hB : Below w0.heap.size w0 w) (ho0 : Kd.R (Kd.int .i64) 3 w w0.heap.size P0_ u9000_ l0) (h : impl_ordered.f l0 = some r) :
    Calls Try.prog 56 #[u9000_] w fun e w' => ∃ v0_ : Value, e = .returned (v0_) ∧ Kd.R (Kd.int .i64) 3 w' w0.heap.size (fun k_ => (P0_ k_ ∨ w.heap.size ≤ k_)) v0_ r ∧ Below w0.heap.size w0 w' ∧ Kept w w' (fun k_ => P0_ k_) := by
  unfold impl_ordered.f at h
  by_cases hsz : l0.length < 4611686018427387904
  · rw [if_pos hsz] at h
    obtain rfl := Option.some.inj h; obtain ⟨A, c, rfl⟩ := Kd.R_slice ho0
    rcases Nat.eq_zero_or_pos l0.length with hz | hp
    · obtain rfl := List.eq_nil_of_length_eq_zero hz
      have HS := Aside0.mk (fun W => Any.slices_Sort_int_none Try.sortL A c W); have HC := Aside0.mk (fun W => Any.slices_Compact_int_empty Try.compactL A c W); have HB := Aside0.mk hB; have e0 : ascI [] = [] := by simp [ascI, Lib.compact, Lib.compactUpTo]
      have HO : Aside0 (Kd.R (Kd.int .i64) 3 w w0.heap.size P0_ (.slice A 0 c) (ascI [])) := ⟨by rw [e0]; exact ho0⟩; generalize ascI [] = r0 at HO ⊢; clear hB ho0 hz hsz h e0
      show Calls Try.prog 56 #[.slice A 0 c] w _
      go_enter Try.func56, Try.ntmps56; go_wp2_with (first
        | (go_at_call 82; refine (HS.out _).mono ?_; rintro e w1 ⟨rfl, rfl⟩)
        | (go_at_call 83; refine (HC.out _).mono ?_; rintro e w2 ⟨rfl, rfl⟩))
      go_ret; exact ⟨_, rfl, Kd.R_mono HO.out (fun k hk => .inl hk), HB.out, Kept.refl _ _⟩
    · obtain ⟨g, cap, e, hge, hlt, _⟩ := Kd.R_form ho0 hp
      cases e; have hP : P0_ g := ho0.1 g rfl; have hcap : l0.length ≤ c := (Kd.R_reads' ho0).2.1; have HS := Aside0.mk (Any.slices_Sort_int Try.sortL g 0 c l0 w (R_holds ho0) hlt hsz); have HO := Aside0.mk ho0; have HB := Aside0.mk hB; have HGE := Aside0.mk hge; have HLT := Aside0.mk hlt; have HP := Aside0.mk hP; have HCP := Aside0.mk hcap; have HSZ := Aside0.mk hsz; have hml : (l0.mergeSort fun x y => decide (x ≤ y)).length = l0.length := List.length_mergeSort _; have HA : Aside0 (ascI l0 = Lib.compact (l0.mergeSort fun x y => decide (x ≤ y))) := ⟨rfl⟩; have HML := Aside0.mk hml; generalize (l0.mergeSort fun x y => decide (x ≤ y)) = s at HS HA HML; generalize ascI l0 = r at HA; clear hB ho0 hge hlt hP hcap hsz h hml hp; go_enter Try.func56, Try.ntmps56; go_wp2_with (go_at_call 82; refine HS.out.mono ?_; rintro e w1 ⟨rfl, q1, os1, hw1⟩; obtain ⟨x1, x2, x3, x4⟩ := R_putRow (q := q1) (os := os1) w0 HGE.out HML.out HO.out HB.out; rw [← hw1] at x1 x2 x3 x4; clear hw1; have HO1 := Aside0.mk x1; have HB1 := Aside0.mk x2; have HK1 := Aside0.mk x3; have HL1 := Aside0.mk x4; clear x1 x2 x3 x4; have HC := Aside0.mk (Any.slices_Compact_int Try.compactL g 0 c s w1 (R_holds HO1.out) (by have := HSZ.out; have := HML.out; omega) (by have := HCP.out; have := HML.out; omega)))
      rw [HML.out] at HC; go_wp2_with (go_at_call 83; refine HC.out.mono ?_; rintro e w2 ⟨rfl, q2, hw2⟩; obtain ⟨x1, x2, x3, x4⟩ := R_putRow (q := q2) (os := #[]) (ys := Lib.compact s ++ List.replicate (l0.length - (Lib.compact s).length) 0) w0 HGE.out (by have := compact_len s; have := HML.out; simp; omega) HO1.out HB1.out; rw [Go.Sort.grow_empty, ← hw2] at x1 x2 x3 x4; clear hw2; have HO2 := Aside0.mk x1; have HB2 := Aside0.mk x2; have HK2 := Aside0.mk x3; have HL2 := Aside0.mk x4; clear x1 x2 x3 x4)
      go_ret; have hR := Kd.R_take (m := (Lib.compact s).length) HO2.out (by simp); rw [List.take_left] at hR; rw [← HA.out] at hR ⊢; exact ⟨_, rfl, Kd.R_mono hR (fun k hk => .inl hk), HB2.out, Nat.le_trans HL1.out HL2.out, fun k hk hne => (HK2.out k (Nat.lt_of_lt_of_le hk HL1.out) (fun e => hne (e ▸ HP.out))).trans (HK1.out k hk (fun e => hne (e ▸ HP.out)))⟩
  · rw [if_neg hsz] at h
    cases h


/-! ### impl_EndsOf: function 23 -/
def impl_EndsOf.l0 : Nat → List Int → List (S52) → Int → Int → Option (List Int)
 | 0, _, _, _, _ => none
 | k + 1, x3, x6, x7, x8 => if x8 < x7 then (if 0 ≤ x8 then (if x8 < (x6.length : Int) then (if (((rd_T52 x6 x8).f0).length : Int) > 0 then (if 0 ≤ (wrap64 ((((rd_T52 x6 x8).f0).length : Int) - 1)) then (if (wrap64 ((((rd_T52 x6 x8).f0).length : Int) - 1)) < (((rd_T52 x6 x8).f0).length : Int) then (if x3.length < 17592186044416 then (impl_EndsOf.l0 k (x3 ++ [rd ((rd_T52 x6 x8).f0) (wrap64 ((((rd_T52 x6 x8).f0).length : Int) - 1))]) x6 x7 (wrap64 (x8 + 1))) else (none)) else (none)) else (none)) else (impl_EndsOf.l0 k x3 x6 x7 (wrap64 (x8 + 1)))) else (none)) else (none)) else ((impl_ordered.f x3).bind fun t141 => (some t141))
def impl_EndsOf.f (k : Nat) (l0 : List (S52)) : Option (List Int) := impl_EndsOf.l0 k ([] : List Int) l0 (l0.length : Int) 0
set_option maxHeartbeats 8000000 in
set_option maxRecDepth 100000 in
theorem impl_EndsOf.calls (k : Nat) (A0 : Option Addr) (c0 : Nat) (l0 : List (S52)) (r : List Int) (w : World) (hr0 : Kd.C k52 w A0 l0.length l0) (hc0 : l0.length ≤ c0) (h : impl_EndsOf.f k l0 = some r) :
  Calls Try.prog 23 #[.slice A0 l0.length c0] w fun e w' => ∃ v0_ : Value, e = .returned (v0_) ∧ Kd.R (Kd.int .i64) 3 w' w.heap.size (fun _ => True) v0_ r ∧ Below w.heap.size w w' := by
 have hu52 := Try.underlying52; have HR0 := Aside0.mk hr0; have HC0 := Aside0.mk hc0; clear hr0 hc0; have HB := Aside0.mk (Below.refl w.heap.size w); have H : (impl_EndsOf.l0 k ([] : List Int) l0 (l0.length : Int) 0) = some r := h; clear h; have H' := Aside0.mk H; clear H; go_enter Try.func23, Try.ntmps23; go_wp2; go_loopg [3, 8] k (fun kq v3 v8 w' => ∃ (x3_1 : List Int) (x8_1 : Int), v8 = .int .i64 x8_1 ∧ Aside0 (impl_EndsOf.l0 kq x3_1 l0 (l0.length : Int) x8_1 = some r) ∧ Aside0 (kq ≤ k) ∧ Aside0 (Kd.R (Kd.int .i64) 3 w' w.heap.size (fun _ => True) v3 x3_1) ∧ Aside0 (Below w.heap.size w w'))
 case atStart => exact ⟨(([] : List Int)), (0), ev_, H', ⟨Nat.le_refl _⟩, ⟨by first | exact Kd.R_nil _ _ _ _ _ | exact Kd.N_nil _ _ _ _ _ | exact Kd.V_nil _ _ _ _ _ | exact Kd.Q_nil _ _ _ _ _ | exact Kd.S_nil _ _ _ _ _⟩, ⟨uB HB.out⟩⟩
 case round =>
  clear H'; obtain ⟨x3_1, x8_1, rfl, HA, HK1, HO_3, HB⟩ := hrel
  cases gk with
  | zero => exact absurd HA.out (by simp [impl_EndsOf.l0])
  | succ k1 =>
   have H := HA.out; clear HA; simp only [impl_EndsOf.l0] at H; by_cases c2 : x8_1 < (l0.length : Int)
   ·rw [if_pos c2] at H; have c2b0 : decide (x8_1 < (l0.length : Int)) = true := decide_eq_true c2; clear c2; by_cases c3 : 0 ≤ x8_1
    ·rw [if_pos c3] at H; have c3b0 : decide (0 ≤ x8_1) = true := decide_eq_true c3; clear c3; by_cases c4 : x8_1 < (l0.length : Int)
     ·rw [if_pos c4] at H; have c4b0 : decide (x8_1 < (l0.length : Int)) = true := decide_eq_true c4; clear c4; by_cases c5 : (((rd_T52 l0 x8_1).f0).length : Int) > 0
      ·rw [if_pos c5] at H; have c5b0 : decide (0 < (((rd_T52 l0 x8_1).f0).length : Int)) = true := decide_eq_true c5; have c5b1 : decide (0 < ((rd_T52 l0 x8_1).f0).length) = true := decide_eq_true (by omega); clear c5; obtain ⟨ji6, hji6⟩ : ∃ j_ : Int, (wrap64 ((((rd_T52 l0 x8_1).f0).length : Int) - 1)) = j_ := ⟨_, rfl⟩; replace H : (if 0 ≤ (ji6) then (if (ji6) < (((rd_T52 l0 x8_1).f0).length : Int) then (if x3_1.length < 17592186044416 then (impl_EndsOf.l0 k1 (x3_1 ++ [rd ((rd_T52 l0 x8_1).f0) (ji6)]) l0 (l0.length : Int) (wrap64 (x8_1 + 1))) else (none)) else (none)) else (none)) = some r := by first | (rw [hji6] at H; exact H) | (simp only [hji6] at H ⊢; exact H)
       have hji6w : (IntKind.i64.wrap ((((rd_T52 l0 x8_1).f0).length : Int) - 1)) = ji6 := (i64_w _).trans hji6; by_cases c7 : 0 ≤ (ji6)
       ·rw [if_pos c7] at H; have c7b0 : decide (0 ≤ (ji6)) = true := decide_eq_true c7; clear c7; by_cases c8 : (ji6) < (((rd_T52 l0 x8_1).f0).length : Int)
        ·rw [if_pos c8] at H; have c8b0 : decide ((ji6) < (((rd_T52 l0 x8_1).f0).length : Int)) = true := decide_eq_true c8; clear c8; by_cases c9 : x3_1.length < 17592186044416
         ·rw [if_pos c9] at H; have LMc9 := Aside0.mk c9; clear c9; obtain ⟨y138, hy138⟩ : ∃ y_ : List Int, y_ = (x3_1 ++ [rd ((rd_T52 l0 x8_1).f0) (ji6)]) := ⟨_, rfl⟩; replace H : (impl_EndsOf.l0 k1 y138 l0 (l0.length : Int) (wrap64 (x8_1 + 1))) = some r := by first | (rw [hy138]; with_reducible exact H) | (have H2_ := (Option.bind_some _ _).symm.trans H; rw [hy138]; with_reducible exact H2_) | (have H2_ := (Option.bind_some _ _).symm.trans H; with_reducible exact H2_) | with_reducible exact H | (rw [hy138]; exact H) | exact H
          have Ny138 := Aside0.mk hy138; clear hy138; have H' := Aside0.mk H; clear H; have p135 : 0 ≤ (x8_1 : Int) := od_; have q135 : x8_1 < (l0.length : Int) := od_; obtain ⟨ad135, A135_0, c135_0, e135, hx135_0, hl135_0, hi135_0⟩ := at_T52 HR0.out x8_1 p135 q135
          cases e135; replace hx135_0 := (HB.out.cell (World.block_lt_of_cell? w _ hx135_0)).trans hx135_0; have HR135_0 := Aside0.mk hi135_0; have HC135_0 := Aside0.mk hl135_0; clear hi135_0 hl135_0; replace p135 := eq_true p135; replace q135 := eq_true q135; go_wp2_with (first | ((with_reducible refine gate_dst (N := 5) rfl ?_); refine box_event ?hg (N := 5) ?hd (cs := #[.slice none 0 0]) (t := 52) ?hr ?_; (case hd => rfl); (case hg => rfl); (case hr => first | (go_simp; done) | (go_simp; rfl)); intro gb136 hg w10 hbox hb; replace HO_3 := Aside0.mk (Kd.R_below (uR HO_3.out) hb); have BK136 := Aside0.mk (hbox); have GW136 := Aside0.mk ((by rw [hg]; exact (below_size (uB HB.out)) : w.heap.size ≤ gb136)); have GE136 := Aside0.mk ((by rw [hg]; exact (below_size (uB HB.out)) : w.heap.size ≤ gb136)); replace HB := Aside0.mk (below_step (uB HB.out) hb); clear hb hbox hg; obtain ⟨hcz11_0, hfz11_0⟩ := bx1 BK136.out; have p137 : 0 ≤ ((ji6) : Int) := od_; have q137 : (ji6) < (((rd_T52 l0 x8_1).f0).length : Int) := od_; obtain ⟨ad137, e137, hx137_0⟩ := Kd.at_int HR135_0.out (ji6) p137 q137; cases e137; have hn137_0 : ad137.block ≠ gb136 := Nat.ne_of_lt (Nat.lt_of_lt_of_le (by have := World.block_lt_of_cell? _ _ hx137_0; first | rwa [add_block] at this | exact this) GW136.out); replace hx137_0 := (HB.out.cell (World.block_lt_of_cell? w _ hx137_0)).trans hx137_0; replace hx137_0 := (cell_far (p := ⟨gb136, 0, none⟩) (by first | (rw [add_block]; exact hn137_0) | (show (Addr.add _ _).block ≠ _; rw [add_block]; exact hn137_0) | exact hn137_0) (.slice (some ad137) ((rd_T52 l0 x8_1).f0).length c135_0)).trans hx137_0; clear hn137_0; replace p137 := eq_true p137; replace q137 := eq_true q137) | ((with_reducible refine gate_builtin (b := .append) (xs := #[.tmp 16, .tmp 25]) rfl ?_); at_builtin; refine Kd.R_append (Kd.int .i64) (w0 := w) w.heap.size rfl (.tmp 16) (.tmp 25) 26 3 (.int .i64 0) 8 rfl Try.underlying26 info3 rfl (by decide) (by omega) u3 x3_1 (rd ((rd_T52 l0 x8_1).f0) (ji6)) [.int .i64 (rd ((rd_T52 l0 x8_1).f0) (ji6))] (fun _ => True) (fun _ => False) rfl (by first | (go_simp; done) | (go_simp; rfl)) ?aP (fun _ hk => hk.elim) ?aF ?aO ?aB ?aS ?aL ?_; (case aP => exact rfl); (case aB => exact (by repeat (first | (with_reducible first | exact HB.out | apply below_alloc | apply pw_below_drewN | apply below_drew1 | refine below_set ?_ GE136.out) | exact HB.out))); (case aF => exact (fun _ _ => trivial)); (case aO => exact (uR (Kd.R_mono (Kd.R_far (p := ⟨gb136, 0, none⟩) (Kd.R_types HO_3.out BK136.out (by decide)) (fun _ hk => hk.2) (.slice (some ad137) ((rd_T52 l0 x8_1).f0).length c135_0)) (fun _ hk => trivial)))); (case aS => exact (below_size (by repeat (first | (with_reducible first | exact HB.out | apply below_alloc | apply pw_below_drewN | apply below_drew1 | refine below_set ?_ GE136.out) | exact HB.out)))); (case aL => have := LMc9.out; omega); intro v139 w12 ho hb hg hat; rw [← Ny138.out] at ho; replace BK136 := Aside0.mk (blk_grown (g := gb136) (o := .cells #[.slice (some ad137) ((rd_T52 l0 x8_1).f0).length c135_0] 52 (0, 0)) (by (with_reducible repeat (first | refine blk_drewN ?_ _ | refine blk_drew ?_ | refine blk_alloc ?_ _)); refine blk_put (cs := #[.slice none 0 0]) ?_ 0 _ rfl; (with_reducible repeat (first | refine blk_drewN ?_ _ | refine blk_drew ?_ | refine blk_alloc ?_ _)); exact BK136.out) hg (Kd.R_ne HO_3.out BK136.out (by decide))); replace HB := Aside0.mk (hb); have HO140 := Aside0.mk (ho); clear HO_3; clear ho hb hg hat))
          go_roundg k1
          case measure => have := HK1.out; omega
          case rel => exact ⟨(y138), (wrap64 (x8_1 + 1)), ev_, H', ⟨by have := HK1.out; omega⟩, ⟨uR HO140.out⟩, ⟨by repeat (first | (with_reducible first | exact HB.out | apply below_alloc | apply pw_below_drewN | apply below_drew1 | refine below_set ?_ GE136.out) | exact HB.out)⟩⟩
         ·rw [if_neg c9] at H; exact absurd H (by simp)
        ·rw [if_neg c8] at H; exact absurd H (by simp)
       ·rw [if_neg c7] at H; exact absurd H (by simp)
      ·rw [if_neg c5] at H; have c5b0 : decide (0 < (((rd_T52 l0 x8_1).f0).length : Int)) = false := decide_eq_false c5; have c5b1 : decide (0 < ((rd_T52 l0 x8_1).f0).length) = false := decide_eq_false (by omega); clear c5; have H' := Aside0.mk H; clear H; have p135 : 0 ≤ (x8_1 : Int) := od_; have q135 : x8_1 < (l0.length : Int) := od_; obtain ⟨ad135, A135_0, c135_0, e135, hx135_0, hl135_0, hi135_0⟩ := at_T52 HR0.out x8_1 p135 q135
       cases e135; replace hx135_0 := (HB.out.cell (World.block_lt_of_cell? w _ hx135_0)).trans hx135_0; have HR135_0 := Aside0.mk hi135_0; have HC135_0 := Aside0.mk hl135_0; clear hi135_0 hl135_0; replace p135 := eq_true p135; replace q135 := eq_true q135; go_wp2_with (first | ((with_reducible refine gate_dst (N := 5) rfl ?_); refine box_event ?hg (N := 5) ?hd (cs := #[.slice none 0 0]) (t := 52) ?hr ?_; (case hd => rfl); (case hg => rfl); (case hr => first | (go_simp; done) | (go_simp; rfl)); intro gb136 hg w13 hbox hb; replace HO_3 := Aside0.mk (Kd.R_below (uR HO_3.out) hb); have BK136 := Aside0.mk (hbox); have GW136 := Aside0.mk ((by rw [hg]; exact (below_size (uB HB.out)) : w.heap.size ≤ gb136)); have GE136 := Aside0.mk ((by rw [hg]; exact (below_size (uB HB.out)) : w.heap.size ≤ gb136)); replace HB := Aside0.mk (below_step (uB HB.out) hb); clear hb hbox hg; obtain ⟨hcz14_0, hfz14_0⟩ := bx1 BK136.out))
       go_roundg k1
       case measure => have := HK1.out; omega
       case rel => exact ⟨(x3_1), (wrap64 (x8_1 + 1)), ev_, H', ⟨by have := HK1.out; omega⟩, ⟨uR (Kd.R_mono (Kd.R_far (p := ⟨gb136, 0, none⟩) (Kd.R_types HO_3.out BK136.out (by decide)) (fun _ hk => hk.2) (.slice A135_0 ((rd_T52 l0 x8_1).f0).length c135_0)) (fun _ hk => trivial))⟩, ⟨by repeat (first | (with_reducible first | exact HB.out | apply below_alloc | apply pw_below_drewN | apply below_drew1 | refine below_set ?_ GE136.out) | exact HB.out)⟩⟩
     ·rw [if_neg c4] at H; exact absurd H (by simp)
    ·rw [if_neg c3] at H; exact absurd H (by simp)
   ·rw [if_neg c2] at H; have c2b0 : decide (x8_1 < (l0.length : Int)) = false := decide_eq_false c2; clear c2; replace H := Option.bind_eq_some_iff.mp H; obtain ⟨t141, A150, H⟩ := H; have A15 := Aside0.mk A150; clear A150; obtain rfl := Option.some.inj H; obtain ⟨Ao16, co16, eo16⟩ := Kd.R_slice HO_3.out; subst eo16; go_wp2_with (first | ((with_reducible refine gate_callee (f := 56) rfl ?_); refine gL_ (some 29) Try.func56 #[.slice Ao16 x3_1.length co16] ?_; (with_reducible refine (impl_ordered.calls (fun k_ => some k_ = (.slice Ao16 x3_1.length co16 : Value).ownBlock) (.slice Ao16 x3_1.length co16) x3_1 t141 w _ ?side1 ?side2 A15.out).mono ?_); (case side1 => repeat (first | (with_reducible first | exact HB.out | apply below_alloc | apply pw_below_drewN | apply below_drew1) | exact HB.out)); (case side2 => exact Kd.R_tight rfl HO_3.out); rintro e w17 ⟨v142, rfl, ho0, hb, hkp⟩; refine ⟨_, rfl, ?_⟩; have HO143 := Aside0.mk (Kd.R_mono (ok' := fun k_ => True) ho0 (fun k_ hk_ => trivial)); replace HB := Aside0.mk (hb); clear HO_3; (try clear hb); (try clear hkp); (try clear ho0)))
    go_ret; exact ⟨_, by first | rfl | (simp [errW_none, errW_some] <;> rfl) | (simp [*, errW_none, errW_some] <;> rfl), by (with_reducible repeat (first | apply Kd.R_alloc | apply Kd.R_drewN | apply Kd.R_drew)); exact HO143.out, uB HB.out⟩

/-! ### slices_IndexFunc_int_int: function 61 -/
set_option maxHeartbeats 8000000 in
set_option maxRecDepth 100000 in
theorem indexFunc_int (p : Int → Bool) (g : Nat) (lb : Array Value) (eg : ∀ args w, (callFunc g args).run Try.prog w = .ok (.enter g args) w)
    (A : Option Addr) (c : Nat) (l : List Int) (w : World) (hr : Kd.C (Kd.int .i64) w A l.length l) (hc : l.length ≤ c) (hp : Tells g lb (Value.int .i64) p l w) :
    Calls Try.prog 61 #[.slice A l.length c, .func (.func g) #[] lb] w fun e w' => e = .returned (.int .i64 (findI p l)) ∧ Below w.heap.size w w' := by
  have HP : Aside0 (∀ (W : World) (x : Int), x ∈ l → Below w.heap.size w W → Calls Try.prog g (#[Value.int .i64 x] ++ lb) W fun e w' => e = .returned (.bool (p x)) ∧ Below W.heap.size W w') := ⟨hp⟩
  have HR := Aside0.mk hr
  have hn : l.length ≤ 9223372036854775807 := hr.2.1
  clear hp hr
  go_enter Try.func61, Try.ntmps61
  go_wp2
  go_loopg [5, 8] l.length (fun gg _ s8 wr => ∃ kk : Nat, kk ≤ l.length ∧ l.length - kk ≤ gg ∧ s8 = .int .i64 kk ∧ Aside0 (Below w.heap.size w wr) ∧ Aside0 (∀ j, j < kk → p (l.getD j 0) = false))
  case atStart => exact ⟨0, Nat.zero_le _, by omega, rfl, ⟨Below.refl _ _⟩, ⟨fun j hj => absurd hj (Nat.not_lt_zero _)⟩⟩
  case round =>
    obtain ⟨kk, hkk, hg, rfl, HB, HA⟩ := hrel
    by_cases hlt : kk < l.length
    · have hltz : (kk : Int) < (l.length : Int) := by omega
      obtain ⟨ad, ead, hx⟩ := Kd.at_int HR.out (kk : Int) (by omega) hltz
      cases ead
      rw [Int.toNat_natCast] at hx
      replace hx := (HB.out.cell (World.block_lt_of_cell? w _ hx)).trans hx
      have hcall := HP.out _ (rd l kk) (by rw [rd, Int.toNat_natCast, List.getD_eq_getElem?_getD, List.getElem?_eq_getElem hlt]; exact List.getElem_mem hlt) HB.out
      have HX : Aside0 (rd l kk = l.getD kk 0) := ⟨by simp [rd]⟩
      generalize hy : rd l kk = y at hcall hx HX
      clear hy
      cases hq : p y with
      | true =>
        rw [hq] at hcall
        have HCALL := Aside0.mk hcall
        clear hcall
        have HQ := Aside0.mk hq
        clear hq
        go_wp2_with fail
        refine HCALL.out.mono ?_
        rintro e w' ⟨rfl, hb⟩
        go_wp2
        go_ret
        refine ⟨?_, below_step HB.out hb⟩
        rw [findI_hit p l 0 kk hlt (by rw [← HX.out]; exact HQ.out) HA.out]
        rfl
      | false =>
        rw [hq] at hcall
        have HCALL := Aside0.mk hcall
        clear hcall
        have HQ := Aside0.mk hq
        clear hq
        go_wp2_with fail
        refine HCALL.out.mono ?_
        rintro e w' ⟨rfl, hb⟩
        go_wp2
        have HB2 := Aside0.mk (below_step HB.out hb)
        go_roundg (l.length - (kk + 1))
        case measure => omega
        case rel =>
          refine ⟨kk + 1, by omega, by omega, by go_num, HB2, ⟨fun j hj => ?_⟩⟩
          by_cases e : j = kk
          · subst e; rw [← HX.out]; exact HQ.out
          · exact HA.out j (by omega)
    · have hltz : ¬ (kk : Int) < (l.length : Int) := by omega
      have hkl : kk = l.length := by omega
      have HA2 : Aside0 (∀ j, j < l.length → p (l.getD j 0) = false) := ⟨by rw [← hkl]; exact HA.out⟩
      clear hkl HA
      go_wp2
      go_ret
      exact ⟨by rw [findI_miss p l 0 HA2.out]; rfl, HB.out⟩


/-! ### slices_ContainsFunc_int_int: function 31 -/
set_option maxHeartbeats 8000000 in
set_option maxRecDepth 100000 in
theorem containsFunc_int (p : Int → Bool) (g : Nat) (lb : Array Value) (eg : ∀ args w, (callFunc g args).run Try.prog w = .ok (.enter g args) w)
    (A : Option Addr) (c : Nat) (l : List Int) (w : World) (hr : Kd.C (Kd.int .i64) w A l.length l) (hc : l.length ≤ c) (hp : Tells g lb (Value.int .i64) p l w) :
    Calls Try.prog 31 #[.slice A l.length c, .func (.func g) #[] lb] w fun e w' => e = .returned (.bool (l.any p)) ∧ Below w.heap.size w w' := by
  have H := indexFunc_int p g lb eg A c l w hr hc hp
  rw [← findI_any]
  generalize findI p l = y at H
  clear hp hr
  go_enter Try.func31, Try.ntmps31
  go_wp2_with (go_at_call 61; refine H.mono ?_; rintro e w' ⟨rfl, hb⟩)
  go_ret
  exact ⟨rfl, hb⟩


/-! ### impl_isFree: function 59 -/
def impl_isFree.f (a0_0 : Int) (a0_1 : Int) (a0_2 : ByteArray) (a1 : Int) : Option (Bool) := if a1 ≥ 0 then (if a1 < (a0_2.size : Int) then (if 0 ≤ a1 then (some ((bt a0_2 a1) != 35)) else (none)) else (some false)) else (some false)
set_option maxHeartbeats 8000000 in
set_option maxRecDepth 100000 in
theorem impl_isFree.calls (a0_0 : Int) (a0_1 : Int) (a0_2 : ByteArray) (a1 : Int) (r : Bool) (w : World) (h : impl_isFree.f a0_0 a0_1 a0_2 a1 = some r) :
  Calls Try.prog 59 #[.agg #[.int .i64 a0_0, .int .i64 a0_1, .string a0_2], .int .i64 a1] w fun e w' => e = .returned (.bool r) ∧ Below w.heap.size w w' := by
 have hu25 := Try.underlying25; have HB := Aside0.mk (Below.refl w.heap.size w); have H : (if a1 ≥ 0 then (if a1 < (a0_2.size : Int) then (if 0 ≤ a1 then (some ((bt a0_2 a1) != 35)) else (none)) else (some false)) else (some false)) = some r := h; clear h; by_cases c3 : a1 ≥ 0
 ·rw [if_pos c3] at H; have c3b0 : decide (0 ≤ a1) = true := decide_eq_true c3; clear c3; by_cases c4 : a1 < (a0_2.size : Int)
  ·rw [if_pos c4] at H; have c4b0 : decide (a1 < (a0_2.size : Int)) = true := decide_eq_true c4; clear c4; by_cases c5 : 0 ≤ a1
   ·rw [if_pos c5] at H; have c5b0 : decide (0 ≤ a1) = true := decide_eq_true c5; clear c5; obtain rfl := Option.some.inj H; go_enter Try.func59, Try.ntmps59; go_wp2_with (first | ((with_reducible refine gate_dst (N := 2) rfl ?_); (try (refine gate_guard (by rfl) ?_; dsimp only)); refine box_event ?hg (N := 2) ?hd (cs := #[.int .i64 a0_0, .int .i64 a0_1, .string a0_2]) (t := 25) ?hr ?_; (case hd => rfl); (case hg => rfl); (case hr => first | (go_simp; done) | (go_simp; rfl)); intro gb144 hg w7 hbox hb; have BK144 := Aside0.mk (hbox); have GW144 := Aside0.mk ((by rw [hg]; exact (below_size (uB HB.out)) : w.heap.size ≤ gb144)); have GE144 := Aside0.mk ((by rw [hg]; exact (below_size (uB HB.out)) : w.heap.size ≤ gb144)); replace HB := Aside0.mk (below_step (uB HB.out) hb); clear hb hbox hg; obtain ⟨hcz8_0, hcz8_1, hcz8_2, hfz8_0, hfz8_1, hfz8_2⟩ := bx3 BK144.out; have p6 : 0 ≤ (a1 : Int) := od_; have q6 : a1 < (a0_2.size : Int) := od_; have hx6 := bt_at a0_2 a1; replace p6 := eq_true p6; replace q6 := eq_true q6))
    go_ret; exact ⟨by first | rfl | (simp [errW_none, errW_some] <;> rfl) | (simp [*, errW_none, errW_some] <;> rfl), uB HB.out⟩
   ·rw [if_neg c5] at H; exact absurd H (by simp)
  ·rw [if_neg c4] at H; have c4b0 : decide (a1 < (a0_2.size : Int)) = false := decide_eq_false c4; clear c4; obtain rfl := Option.some.inj H; go_enter Try.func59, Try.ntmps59; go_wp2_with (first | ((with_reducible refine gate_dst (N := 2) rfl ?_); (try (refine gate_guard (by rfl) ?_; dsimp only)); refine box_event ?hg (N := 2) ?hd (cs := #[.int .i64 a0_0, .int .i64 a0_1, .string a0_2]) (t := 25) ?hr ?_; (case hd => rfl); (case hg => rfl); (case hr => first | (go_simp; done) | (go_simp; rfl)); intro gb144 hg w9 hbox hb; have BK144 := Aside0.mk (hbox); have GW144 := Aside0.mk ((by rw [hg]; exact (below_size (uB HB.out)) : w.heap.size ≤ gb144)); have GE144 := Aside0.mk ((by rw [hg]; exact (below_size (uB HB.out)) : w.heap.size ≤ gb144)); replace HB := Aside0.mk (below_step (uB HB.out) hb); clear hb hbox hg; obtain ⟨hcz10_0, hcz10_1, hcz10_2, hfz10_0, hfz10_1, hfz10_2⟩ := bx3 BK144.out))
   go_ret; exact ⟨by first | rfl | (simp [errW_none, errW_some] <;> rfl) | (simp [*, errW_none, errW_some] <;> rfl), uB HB.out⟩
 ·rw [if_neg c3] at H; have c3b0 : decide (0 ≤ a1) = false := decide_eq_false c3; clear c3; obtain rfl := Option.some.inj H; go_enter Try.func59, Try.ntmps59; go_wp2_with (first | ((with_reducible refine gate_dst (N := 2) rfl ?_); (try (refine gate_guard (by rfl) ?_; dsimp only)); refine box_event ?hg (N := 2) ?hd (cs := #[.int .i64 a0_0, .int .i64 a0_1, .string a0_2]) (t := 25) ?hr ?_; (case hd => rfl); (case hg => rfl); (case hr => first | (go_simp; done) | (go_simp; rfl)); intro gb144 hg w11 hbox hb; have BK144 := Aside0.mk (hbox); have GW144 := Aside0.mk ((by rw [hg]; exact (below_size (uB HB.out)) : w.heap.size ≤ gb144)); have GE144 := Aside0.mk ((by rw [hg]; exact (below_size (uB HB.out)) : w.heap.size ≤ gb144)); replace HB := Aside0.mk (below_step (uB HB.out) hb); clear hb hbox hg))
  go_ret; exact ⟨by first | rfl | (simp [errW_none, errW_some] <;> rfl) | (simp [*, errW_none, errW_some] <;> rfl), uB HB.out⟩

end Go.Proofs.Ytdebpmdbeogglaa.Q
