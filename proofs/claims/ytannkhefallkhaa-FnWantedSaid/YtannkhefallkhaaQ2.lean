-- Written by a session's own program (wip/tools/myprint.py) over the kit's printer, out of the translation. Not trusted: Lean checks it.
import Derived.Test.YtannkhefallkhaaQ0
import Derived.Test.YtannkhefallkhaaQ1
namespace Go.Proofs.Ytannkhefallkhaa.Q
open Go.RowKit Go.Proofs.YtannkhefallkhaaW.PrintWords Go.Proofs.YtannkhefallkhaaW.PrintLast Go.Proofs.YtannkhefallkhaaW.PrintMore
attribute [local go_sem] max2_int min2_int max_two min_two max_three min_three max_four min_four   -- for this text's walks alone
set_option linter.unusedVariables false
set_option linter.unusedSimpArgs false

/-! ### spec_ParksIn: function 25 -/
mutual
def spec_ParksIn.l0 : Nat → Int → List Int → Int → Int → Int → ByteArray → Option (List Int)
 | 0, _, _, _, _, _, _ => none
 | k + 1, x1, x5, x6, x115000, x115001, x115002 => if x6 < (x115002.size : Int) then (spec_ParksIn.j1 k x1 x5 x6 (decide (x6 < 64)) x115000 x115001 x115002) else (spec_ParksIn.j1 k x1 x5 x6 false x115000 x115001 x115002)
def spec_ParksIn.j1 : Nat → Int → List Int → Int → Bool → Int → Int → ByteArray → Option (List Int)
 | 0, _, _, _, _, _, _, _ => none
 | k + 1, x1, x5, x6, x16, x115000, x115001, x115002 => if x16 = true then ((spec_ParkAt.f k x115000 x115001 x115002 x6).bind fun t118 => (if t118 = true then ((spec_ZoneOf.f k x115000 x115001 x115002 x6).bind fun t119 => (if t119 = x1 then (if x5.length < 17592186044416 then (spec_ParksIn.l0 k x1 (x5 ++ [x6]) (wrap64 (x6 + 1)) x115000 x115001 x115002) else (none)) else (spec_ParksIn.l0 k x1 x5 (wrap64 (x6 + 1)) x115000 x115001 x115002))) else (spec_ParksIn.l0 k x1 x5 (wrap64 (x6 + 1)) x115000 x115001 x115002))) else (some x5)
end
def spec_ParksIn.f (k : Nat) (a0_0 : Int) (a0_1 : Int) (a0_2 : ByteArray) (a1 : Int) : Option (List Int) := spec_ParksIn.l0 k a1 (([] : List Int)) 0 a0_0 a0_1 a0_2
/-! ### spec_l03Has: function 26 -/
def spec_l03Has.l0 : Nat → List Int → Int → Int → Option (Bool)
 | 0, _, _, _ => none
 | k + 1, x0, x1, x5 => if x5 < (x0.length : Int) then (if 0 ≤ x5 then (if (rd x0 x5) = x1 then (some true) else (spec_l03Has.l0 k x0 x1 (wrap64 (x5 + 1)))) else (none)) else (some false)
def spec_l03Has.f (k : Nat) (l0 : List Int) (a1 : Int) : Option (Bool) := spec_l03Has.l0 k l0 a1 0
set_option maxHeartbeats 8000000 in
set_option maxRecDepth 100000 in
theorem spec_l03Has.calls (k : Nat) (A0 : Option Addr) (c0 : Nat) (l0 : List Int) (a1 : Int) (r : Bool) (w : World) (hr0 : Kd.C (Kd.int .i64) w A0 l0.length l0) (hc0 : l0.length ≤ c0) (h : spec_l03Has.f k l0 a1 = some r) :
  Calls Try.prog 26 #[.slice A0 l0.length c0, .int .i64 a1] w fun e w' => e = .returned (.bool r) ∧ Drawn0 w w' := by
 have HR0 := Aside0.mk hr0
 have HC0 := Aside0.mk hc0
 clear hr0 hc0
 have H : (spec_l03Has.l0 k l0 a1 0) = some r := h
 clear h
 have H' := Aside0.mk H
 clear H
 go_enter Try.func26, Try.ntmps26
 go_wp2
 go_loopg [5] k (fun kq v5 w' => ∃ (x5_1 : Int), v5 = .int .i64 x5_1 ∧ Aside0 (spec_l03Has.l0 kq l0 a1 x5_1 = some r) ∧ Aside0 (kq ≤ k) ∧ Drawn0 w w')
 case atStart => exact ⟨(0), (by first | rfl | (simp; done) | (simp [*]; done)), H', ⟨Nat.le_refl _⟩, by repeat (first | exact Drawn0.refl _ | apply Drawn0.step)⟩
 case round =>
  clear H'
  try clear c2
  try clear p2
  obtain ⟨x5_1, rfl, HA, HK1, ⟨m1, rfl⟩⟩ := hrel
  cases gk with
  | zero => exact absurd HA.out (by simp [spec_l03Has.l0])
  | succ k1 =>
   have H := HA.out
   clear HA
   simp only [spec_l03Has.l0] at H
   by_cases c3 : x5_1 < (l0.length : Int)
   ·rw [if_pos c3] at H
    have c3b0 : decide (x5_1 < (l0.length : Int)) = true := decide_eq_true c3
    clear c3
    by_cases c4 : 0 ≤ x5_1
    ·rw [if_pos c4] at H
     have c4b0 : decide (0 ≤ x5_1) = true := decide_eq_true c4
     clear c4
     by_cases c5 : (rd l0 x5_1) = a1
     ·rw [if_pos c5] at H
      have c5b0 : ((rd l0 x5_1) == a1) = true := beq_iff_eq.mpr c5
      have c5b1 : ((rd l0 x5_1) != a1) = false := bne_eq_false_iff_eq.mpr c5
      clear c5
      obtain rfl := Option.some.inj H
      have p123 : 0 ≤ (x5_1 : Int) := of_decide_eq_true (by first | (with_reducible assumption) | assumption)
      have q123 : x5_1 < (l0.length : Int) := of_decide_eq_true (by first | (with_reducible assumption) | assumption)
      obtain ⟨ad123, e123, hx123_0⟩ := Kd.at_int HR0.out x5_1 p123 q123
      cases e123
      replace p123 := eq_true p123
      replace q123 := eq_true q123
      go_wp2
      go_ret
      exact ⟨by first | rfl | (simp; done) | (simp [*]; done), by repeat (first | exact Drawn0.refl _ | apply Drawn0.step)⟩
     ·rw [if_neg c5] at H
      have c5b0 : ((rd l0 x5_1) == a1) = false := beq_eq_false_iff_ne.mpr c5
      have c5b1 : ((rd l0 x5_1) != a1) = true := bne_iff_ne.mpr c5
      have H' := Aside0.mk H
      clear H
      have p123 : 0 ≤ (x5_1 : Int) := of_decide_eq_true (by first | (with_reducible assumption) | assumption)
      have q123 : x5_1 < (l0.length : Int) := of_decide_eq_true (by first | (with_reducible assumption) | assumption)
      obtain ⟨ad123, e123, hx123_0⟩ := Kd.at_int HR0.out x5_1 p123 q123
      cases e123
      replace p123 := eq_true p123
      replace q123 := eq_true q123
      go_wp2
      go_roundg k1
      case measure => have := HK1.out; omega
      case rel => exact ⟨(wrap64 (x5_1 + 1)), (by first | rfl | (simp; done) | (simp [*]; done)), H', ⟨by have := HK1.out; omega⟩, by repeat (first | exact Drawn0.refl _ | apply Drawn0.step)⟩
    ·rw [if_neg c4] at H
     exact absurd H (by simp)
   ·rw [if_neg c3] at H
    have c3b0 : decide (x5_1 < (l0.length : Int)) = false := decide_eq_false c3
    clear c3
    obtain rfl := Option.some.inj H
    go_wp2
    go_ret
    exact ⟨by first | rfl | (simp; done) | (simp [*]; done), by repeat (first | exact Drawn0.refl _ | apply Drawn0.step)⟩

/-! ### spec_RoomsOf: function 22 -/
mutual
def spec_RoomsOf.l0 : Nat → List Int → List Int → Int → Int → Int → ByteArray → Option (List Int)
 | 0, _, _, _, _, _, _ => none
 | k + 1, x1, x5, x6, x125000, x125001, x125002 => if x6 < 6 then ((spec_GridOk.f k x125000 x125001 x125002).bind fun t128 => (spec_RoomsOf.j1 k x1 x5 x6 t128 x125000 x125001 x125002)) else (spec_RoomsOf.j1 k x1 x5 x6 false x125000 x125001 x125002)
def spec_RoomsOf.j1 : Nat → List Int → List Int → Int → Bool → Int → Int → ByteArray → Option (List Int)
 | 0, _, _, _, _, _, _, _ => none
 | k + 1, x1, x5, x6, x16, x125000, x125001, x125002 => if x16 = true then ((spec_ParksIn.f k x125000 x125001 x125002 x6).bind fun t129 => (spec_RoomsOf.l1 k x1 x5 x6 0 t129 0 x125000 x125001 x125002)) else (some x5)
def spec_RoomsOf.l1 : Nat → List Int → List Int → Int → Int → List Int → Int → Int → Int → ByteArray → Option (List Int)
 | 0, _, _, _, _, _, _, _, _, _ => none
 | k + 1, x1, x5, x6, x7, x8, x9, x125000, x125001, x125002 => if x9 < (x8.length : Int) then (if 0 ≤ x9 then ((spec_l03Has.f k x1 (rd x8 x9)).bind fun t133 => (if t133 = true then (spec_RoomsOf.l1 k x1 x5 x6 x7 x8 (wrap64 (x9 + 1)) x125000 x125001 x125002) else (spec_RoomsOf.l1 k x1 x5 x6 (wrap64 (x7 + 1)) x8 (wrap64 (x9 + 1)) x125000 x125001 x125002))) else (none)) else (if x5.length < 17592186044416 then (spec_RoomsOf.l0 k x1 (x5 ++ [x7]) (wrap64 (x6 + 1)) x125000 x125001 x125002) else (none))
end
def spec_RoomsOf.f (k : Nat) (a0_0 : Int) (a0_1 : Int) (a0_2 : ByteArray) (l1 : List Int) : Option (List Int) := spec_RoomsOf.l0 k l1 (([] : List Int)) 0 a0_0 a0_1 a0_2
/-! ### spec_Brought: function 23 -/
def spec_Brought.j0 : Nat → Int → Int → Int → Bool → Option (Int)
 | 0, _, _, _, _ => none
 | k + 1, x0, x1, x2, x14 => if x14 = true then (some x1) else (if x0 > x2 then (some x2) else (some x0))
def spec_Brought.f (k : Nat) (a0 : Int) (a1 : Int) (a2 : Int) : Option (Int) := if a2 < a1 then (spec_Brought.j0 k a0 a1 a2 true) else (spec_Brought.j0 k a0 a1 a2 (decide (a0 < a1)))
/-! ### spec_DealOk: function 40 -/
mutual
def spec_DealOk.j0 : Nat → List Int → List Int → Int → Bool → Option (Bool)
 | 0, _, _, _, _ => none
 | k + 1, x0, x1, x2, x28 => if x28 = true then (some false) else (spec_DealOk.l0 k x0 x1 x2 0 0)
def spec_DealOk.l0 : Nat → List Int → List Int → Int → Int → Int → Option (Bool)
 | 0, _, _, _, _, _ => none
 | k + 1, x0, x1, x2, x7, x8 => if x8 < (x0.length : Int) then (if 0 ≤ x8 then (if (rd x0 x8) > 0 then (if x8 < (x1.length : Int) then (spec_DealOk.l0 k x0 x1 x2 (wrap64 (x7 + (rd x1 x8))) (wrap64 (x8 + 1))) else (none)) else (spec_DealOk.l0 k x0 x1 x2 x7 (wrap64 (x8 + 1)))) else (none)) else ((spec_l01In.f x2 0 x7).bind fun t141 => (some t141))
end
def spec_DealOk.f (k : Nat) (l0 : List Int) (l1 : List Int) (a2 : Int) : Option (Bool) := if (l0.length : Int) = (l1.length : Int) then (if (l0.length : Int) > 16 then (spec_DealOk.j0 k l0 l1 a2 true) else ((spec_l18List.f k l0).bind fun t137 => (if t137 = true then ((spec_l18List.f k l1).bind fun t138 => (spec_DealOk.j0 k l0 l1 a2 (!t138))) else (spec_DealOk.j0 k l0 l1 a2 true)))) else (spec_DealOk.j0 k l0 l1 a2 true)
end Go.Proofs.Ytannkhefallkhaa.Q
