-- Written by a session's own program (wip/tools/myprint.py) over the kit's printer, out of the translation. Not trusted: Lean checks it.
import Derived.Test.YtooofofeihkpcaaQ0
-- squeezed
namespace Go.Proofs.Ytooofofeihkpcaa.Q
open Go.RowKit Go.Proofs.YtooofofeihkpcaaW.PrintWords Go.Proofs.YtooofofeihkpcaaW.PrintLast Go.Proofs.YtooofofeihkpcaaW.PrintMore
attribute [local go_sem] max2_int min2_int max_two min_two max_three min_three max_four min_four   -- for this text's walks alone
set_option linter.unusedVariables false
set_option linter.unusedSimpArgs false

/-! ### impl_GridOk: function 62 -/
mutual
def impl_GridOk.j0 : Nat → Bool → Int → Int → ByteArray → Option (Bool)
 | 0, _, _, _, _ => none
 | k + 1, x33, x102000, x102001, x102002 => if x33 = true then (some false) else (impl_GridOk.l0 k 0 x102000 x102001 x102002)
def impl_GridOk.l0 : Nat → Int → Int → Int → ByteArray → Option (Bool)
 | 0, _, _, _, _ => none
 | k + 1, x3, x102000, x102001, x102002 => if x3 < (x102002.size : Int) then (if 0 ≤ x3 then (if (bt x102002 x3) = 46 then (impl_GridOk.l0 k (wrap64 (x3 + 1)) x102000 x102001 x102002) else (if (bt x102002 x3) = 35 then (impl_GridOk.l0 k (wrap64 (x3 + 1)) x102000 x102001 x102002) else (if (bt x102002 x3) < 97 then (if (bt x102002 x3) < 65 then (some false) else (if (bt x102002 x3) > 70 then (some false) else (impl_GridOk.l0 k (wrap64 (x3 + 1)) x102000 x102001 x102002))) else (if (bt x102002 x3) > 102 then (if (bt x102002 x3) < 65 then (some false) else (if (bt x102002 x3) > 70 then (some false) else (impl_GridOk.l0 k (wrap64 (x3 + 1)) x102000 x102001 x102002))) else (impl_GridOk.l0 k (wrap64 (x3 + 1)) x102000 x102001 x102002))))) else (none)) else (some true)
end
def impl_GridOk.f (k : Nat) (a0_0 : Int) (a0_1 : Int) (a0_2 : ByteArray) : Option (Bool) := if a0_0 < 1 then (impl_GridOk.j0 k true a0_0 a0_1 a0_2) else (if a0_0 > 8 then (impl_GridOk.j0 k true a0_0 a0_1 a0_2) else (if a0_1 < 1 then (impl_GridOk.j0 k true a0_0 a0_1 a0_2) else (if a0_1 > 8 then (impl_GridOk.j0 k true a0_0 a0_1 a0_2) else (impl_GridOk.j0 k ((a0_2.size : Int) != (wrap64 (a0_0 * a0_1))) a0_0 a0_1 a0_2))))
set_option maxHeartbeats 8000000 in
set_option maxRecDepth 100000 in
theorem impl_GridOk.calls (k : Nat) (a0_0 : Int) (a0_1 : Int) (a0_2 : ByteArray) (r : Bool) (w : World) (h : impl_GridOk.f k a0_0 a0_1 a0_2 = some r) :
  Calls Try.prog 62 #[.agg #[.int .i64 a0_0, .int .i64 a0_1, .string a0_2]] w fun e w' => e = .returned (.bool r) ∧ Below w.heap.size w w' := by
 have hu26 := Try.underlying26; have HB := Aside0.mk (Below.refl w.heap.size w); have H : (if a0_0 < 1 then (impl_GridOk.j0 k true a0_0 a0_1 a0_2) else (if a0_0 > 8 then (impl_GridOk.j0 k true a0_0 a0_1 a0_2) else (if a0_1 < 1 then (impl_GridOk.j0 k true a0_0 a0_1 a0_2) else (if a0_1 > 8 then (impl_GridOk.j0 k true a0_0 a0_1 a0_2) else (impl_GridOk.j0 k ((a0_2.size : Int) != (wrap64 (a0_0 * a0_1))) a0_0 a0_1 a0_2))))) = some r := h; clear h; have HC2 := Aside0.mk H; clear H; go_enter Try.func62, Try.ntmps62; go_upto_region 1 with (first | ((with_reducible refine gate_dst (N := 1) rfl ?_); (try (refine gate_guard (by rfl) ?_; dsimp only)); refine box_event ?hg (N := 1) ?hd (cs := #[.int .i64 a0_0, .int .i64 a0_1, .string a0_2]) (t := 26) ?hr ?_; (case hd => rfl); (case hg => rfl); (case hr => first | (go_simp; done) | (go_simp; rfl)); intro gb101 hg w3 hbox hb; have BK101 := Aside0.mk (hbox); have GW101 := Aside0.mk ((by rw [hg]; exact (below_size (uB HB.out)) : w.heap.size ≤ gb101)); have GE101 := Aside0.mk ((by rw [hg]; exact (below_size (uB HB.out)) : w.heap.size ≤ gb101)); replace HB := Aside0.mk (below_step (uB HB.out) hb); clear hb hbox hg))
 (try simp only [Act.put, List.setIfInBounds_toArray, List.set_cons_zero, List.set_cons_succ]); go_cut [33] (fun v33 wc => ∃ (kq : Nat) (x33_1 : Bool), v33 = .bool x33_1 ∧ Aside0 (impl_GridOk.j0 kq x33_1 a0_0 a0_1 a0_2 = some r) ∧ Aside0 (kq ≤ k) ∧ Aside0 (wc.heap[gb101]? = some (.cells #[.int .i64 a0_0, .int .i64 a0_1, .string a0_2] 26 (0, 0))) ∧ Aside0 (Below w.heap.size w wc))
 case first =>
  have H := HC2.out; clear HC2; by_cases c4 : a0_0 < 1
  ·rw [if_pos c4] at H; have c4b0 : decide (a0_0 < 1) = true := decide_eq_true c4; clear c4; (first | rw [c4b0] | (simp only [i64_w, i32_w]; rw [c4b0]) | skip); have H' := Aside0.mk H; clear H; obtain ⟨hcz5_0, hcz5_1, hcz5_2, hfz5_0, hfz5_1, hfz5_2⟩ := bx3 BK101.out; go_wp2; go_meet
   case rel => exact ⟨_, (true), ev_, H', ⟨by first | omega | exact Nat.le_refl _⟩, ⟨uK BK101.out⟩, ⟨uB HB.out⟩⟩
  ·rw [if_neg c4] at H; have c4b0 : decide (a0_0 < 1) = false := decide_eq_false c4; clear c4; (first | rw [c4b0] | (simp only [i64_w, i32_w]; rw [c4b0]) | skip); by_cases c6 : a0_0 > 8
   ·rw [if_pos c6] at H; have c6b0 : decide (8 < a0_0) = true := decide_eq_true c6; clear c6; have H' := Aside0.mk H; clear H; obtain ⟨hcz7_0, hcz7_1, hcz7_2, hfz7_0, hfz7_1, hfz7_2⟩ := bx3 BK101.out; go_wp2; go_meet
    case rel => exact ⟨_, (true), ev_, H', ⟨by first | omega | exact Nat.le_refl _⟩, ⟨uK BK101.out⟩, ⟨uB HB.out⟩⟩
   ·rw [if_neg c6] at H; have c6b0 : decide (8 < a0_0) = false := decide_eq_false c6; clear c6; by_cases c8 : a0_1 < 1
    ·rw [if_pos c8] at H; have c8b0 : decide (a0_1 < 1) = true := decide_eq_true c8; clear c8; have H' := Aside0.mk H; clear H; obtain ⟨hcz9_0, hcz9_1, hcz9_2, hfz9_0, hfz9_1, hfz9_2⟩ := bx3 BK101.out; go_wp2; go_meet
     case rel => exact ⟨_, (true), ev_, H', ⟨by first | omega | exact Nat.le_refl _⟩, ⟨uK BK101.out⟩, ⟨uB HB.out⟩⟩
    ·rw [if_neg c8] at H; have c8b0 : decide (a0_1 < 1) = false := decide_eq_false c8; clear c8; by_cases c10 : a0_1 > 8
     ·rw [if_pos c10] at H; have c10b0 : decide (8 < a0_1) = true := decide_eq_true c10; clear c10; have H' := Aside0.mk H; clear H; obtain ⟨hcz11_0, hcz11_1, hcz11_2, hfz11_0, hfz11_1, hfz11_2⟩ := bx3 BK101.out; go_wp2; go_meet
      case rel => exact ⟨_, (true), ev_, H', ⟨by first | omega | exact Nat.le_refl _⟩, ⟨uK BK101.out⟩, ⟨uB HB.out⟩⟩
     ·rw [if_neg c10] at H; have c10b0 : decide (8 < a0_1) = false := decide_eq_false c10; clear c10; have H' := Aside0.mk H; clear H; obtain ⟨hcz12_0, hcz12_1, hcz12_2, hfz12_0, hfz12_1, hfz12_2⟩ := bx3 BK101.out; go_wp2; go_meet
      case rel => exact ⟨_, (((a0_2.size : Int) != (wrap64 (a0_0 * a0_1)))), ev_, H', ⟨by first | omega | exact Nat.le_refl _⟩, ⟨uK BK101.out⟩, ⟨uB HB.out⟩⟩
 case rest =>
  clear HC2; (try clear c1); (try clear p2); (try clear c4); (try clear c4b0); (try clear c6); (try clear c6b0); (try clear p6); (try clear c8); (try clear c8b0); (try clear c10); (try clear c10b0); (try clear hcz11_0); (try clear hcz11_1); (try clear hcz11_2); (try clear hcz12_0); (try clear hcz12_1); (try clear hcz12_2); (try clear hcz5_0); (try clear hcz5_1); (try clear hcz5_2); (try clear hcz7_0); (try clear hcz7_1); (try clear hcz7_2); (try clear hcz9_0); (try clear hcz9_1); (try clear hcz9_2); (try clear hfz11_0); (try clear hfz11_1); (try clear hfz11_2); (try clear hfz12_0); (try clear hfz12_1); (try clear hfz12_2); (try clear hfz5_0); (try clear hfz5_1); (try clear hfz5_2); (try clear hfz7_0); (try clear hfz7_1); (try clear hfz7_2); (try clear hfz9_0); (try clear hfz9_1); (try clear hfz9_2); obtain ⟨kq, x33_1, rfl, HA, HJ1, BK101, HB⟩ := hcut
  cases kq with
  | zero => exact absurd HA.out (by simp [impl_GridOk.j0])
  | succ kj1 =>
   have H := HA.out; clear HA; simp only [impl_GridOk.j0] at H; by_cases c13 : x33_1 = true
   ·subst c13; rw [if_pos rfl] at H; obtain rfl := Option.some.inj H; go_wp2; go_ret; exact ⟨by first | rfl | (simp [errW_none, errW_some] <;> rfl) | (simp [*, errW_none, errW_some] <;> rfl), uB HB.out⟩
   ·replace c13 := Bool.eq_false_iff.mpr c13; subst c13; rw [if_neg (show ¬ (false = true) by decide)] at H; have H' := Aside0.mk H; clear H; go_wp2; go_loopg [3] kj1 (fun kq v3 w' => ∃ (x3_2 : Int), v3 = .int .i64 x3_2 ∧ Aside0 (impl_GridOk.l0 kq x3_2 a0_0 a0_1 a0_2 = some r) ∧ Aside0 (kq ≤ kj1) ∧ Aside0 (w'.heap[gb101]? = some (.cells #[.int .i64 a0_0, .int .i64 a0_1, .string a0_2] 26 (0, 0))) ∧ Aside0 (Below w.heap.size w w'))
    case atStart => exact ⟨(0), ev_, H', ⟨Nat.le_refl _⟩, ⟨uK BK101.out⟩, ⟨uB HB.out⟩⟩
    case round =>
     clear H'; (try clear c1); (try clear p2); (try clear c4); (try clear c4b0); (try clear c6); (try clear c6b0); (try clear p6); (try clear c8); (try clear c8b0); (try clear c10); (try clear c10b0); (try clear c13); (try clear hcz11_0); (try clear hcz11_1); (try clear hcz11_2); (try clear hcz12_0); (try clear hcz12_1); (try clear hcz12_2); (try clear hcz5_0); (try clear hcz5_1); (try clear hcz5_2); (try clear hcz7_0); (try clear hcz7_1); (try clear hcz7_2); (try clear hcz9_0); (try clear hcz9_1); (try clear hcz9_2); (try clear hfz11_0); (try clear hfz11_1); (try clear hfz11_2); (try clear hfz12_0); (try clear hfz12_1); (try clear hfz12_2); (try clear hfz5_0); (try clear hfz5_1); (try clear hfz5_2); (try clear hfz7_0); (try clear hfz7_1); (try clear hfz7_2); (try clear hfz9_0); (try clear hfz9_1); (try clear hfz9_2); (try clear p2); (try clear p6); obtain ⟨x3_2, rfl, HA, HK2, BK101, HB⟩ := hrel
     cases gk with
     | zero => exact absurd HA.out (by simp [impl_GridOk.l0])
     | succ k2 =>
      have H := HA.out; clear HA; simp only [impl_GridOk.l0] at H; by_cases c14 : x3_2 < (a0_2.size : Int)
      ·rw [if_pos c14] at H; have c14b0 : decide (x3_2 < (a0_2.size : Int)) = true := decide_eq_true c14; clear c14; by_cases c15 : 0 ≤ x3_2
       ·rw [if_pos c15] at H; have c15b0 : decide (0 ≤ x3_2) = true := decide_eq_true c15; clear c15; by_cases c17 : (bt a0_2 x3_2) = 46
        ·rw [if_pos c17] at H; have c17b0 : ((bt a0_2 x3_2) == 46) = true := beq_iff_eq.mpr c17; have c17b1 : ((bt a0_2 x3_2) != 46) = false := bne_eq_false_iff_eq.mpr c17; clear c17; have H' := Aside0.mk H; clear H; obtain ⟨hcz18_0, hcz18_1, hcz18_2, hfz18_0, hfz18_1, hfz18_2⟩ := bx3 BK101.out; have p16 : 0 ≤ (x3_2 : Int) := od_; have q16 : x3_2 < (a0_2.size : Int) := od_; have hx16 := bt_at a0_2 x3_2; replace p16 := eq_true p16; replace q16 := eq_true q16; go_wp2; go_roundg k2
         case measure => have := HJ1.out; have := HK2.out; omega
         case rel => exact ⟨(wrap64 (x3_2 + 1)), ev_, H', ⟨by have := HJ1.out; have := HK2.out; omega⟩, ⟨uK BK101.out⟩, ⟨uB HB.out⟩⟩
        ·rw [if_neg c17] at H; have c17b0 : ((bt a0_2 x3_2) == 46) = false := beq_eq_false_iff_ne.mpr c17; have c17b1 : ((bt a0_2 x3_2) != 46) = true := bne_iff_ne.mpr c17; by_cases c19 : (bt a0_2 x3_2) = 35
         ·rw [if_pos c19] at H; have c19b0 : ((bt a0_2 x3_2) == 35) = true := beq_iff_eq.mpr c19; have c19b1 : ((bt a0_2 x3_2) != 35) = false := bne_eq_false_iff_eq.mpr c19; clear c19; have H' := Aside0.mk H; clear H; obtain ⟨hcz20_0, hcz20_1, hcz20_2, hfz20_0, hfz20_1, hfz20_2⟩ := bx3 BK101.out; have p16 : 0 ≤ (x3_2 : Int) := od_; have q16 : x3_2 < (a0_2.size : Int) := od_; have hx16 := bt_at a0_2 x3_2; replace p16 := eq_true p16; replace q16 := eq_true q16; go_wp2; go_roundg k2
          case measure => have := HJ1.out; have := HK2.out; omega
          case rel => exact ⟨(wrap64 (x3_2 + 1)), ev_, H', ⟨by have := HJ1.out; have := HK2.out; omega⟩, ⟨uK BK101.out⟩, ⟨uB HB.out⟩⟩
         ·rw [if_neg c19] at H; have c19b0 : ((bt a0_2 x3_2) == 35) = false := beq_eq_false_iff_ne.mpr c19; have c19b1 : ((bt a0_2 x3_2) != 35) = true := bne_iff_ne.mpr c19; by_cases c21 : (bt a0_2 x3_2) < 97
          ·rw [if_pos c21] at H; have c21b0 : decide ((bt a0_2 x3_2) < 97) = true := decide_eq_true c21; clear c21; by_cases c22 : (bt a0_2 x3_2) < 65
           ·rw [if_pos c22] at H; have c22b0 : decide ((bt a0_2 x3_2) < 65) = true := decide_eq_true c22; clear c22; obtain rfl := Option.some.inj H; obtain ⟨hcz23_0, hcz23_1, hcz23_2, hfz23_0, hfz23_1, hfz23_2⟩ := bx3 BK101.out; have p16 : 0 ≤ (x3_2 : Int) := od_; have q16 : x3_2 < (a0_2.size : Int) := od_; have hx16 := bt_at a0_2 x3_2; replace p16 := eq_true p16; replace q16 := eq_true q16; go_wp2; go_ret; exact ⟨by first | rfl | (simp [errW_none, errW_some] <;> rfl) | (simp [*, errW_none, errW_some] <;> rfl), uB HB.out⟩
           ·rw [if_neg c22] at H; have c22b0 : decide ((bt a0_2 x3_2) < 65) = false := decide_eq_false c22; clear c22; by_cases c24 : (bt a0_2 x3_2) > 70
            ·rw [if_pos c24] at H; have c24b0 : decide (70 < (bt a0_2 x3_2)) = true := decide_eq_true c24; clear c24; obtain rfl := Option.some.inj H; obtain ⟨hcz25_0, hcz25_1, hcz25_2, hfz25_0, hfz25_1, hfz25_2⟩ := bx3 BK101.out; have p16 : 0 ≤ (x3_2 : Int) := od_; have q16 : x3_2 < (a0_2.size : Int) := od_; have hx16 := bt_at a0_2 x3_2; replace p16 := eq_true p16; replace q16 := eq_true q16; go_wp2; go_ret; exact ⟨by first | rfl | (simp [errW_none, errW_some] <;> rfl) | (simp [*, errW_none, errW_some] <;> rfl), uB HB.out⟩
            ·rw [if_neg c24] at H; have c24b0 : decide (70 < (bt a0_2 x3_2)) = false := decide_eq_false c24; clear c24; have H' := Aside0.mk H; clear H; obtain ⟨hcz26_0, hcz26_1, hcz26_2, hfz26_0, hfz26_1, hfz26_2⟩ := bx3 BK101.out; have p16 : 0 ≤ (x3_2 : Int) := od_; have q16 : x3_2 < (a0_2.size : Int) := od_; have hx16 := bt_at a0_2 x3_2; replace p16 := eq_true p16; replace q16 := eq_true q16; go_wp2; go_roundg k2
             case measure => have := HJ1.out; have := HK2.out; omega
             case rel => exact ⟨(wrap64 (x3_2 + 1)), ev_, H', ⟨by have := HJ1.out; have := HK2.out; omega⟩, ⟨uK BK101.out⟩, ⟨uB HB.out⟩⟩
          ·rw [if_neg c21] at H; have c21b0 : decide ((bt a0_2 x3_2) < 97) = false := decide_eq_false c21; clear c21; by_cases c27 : (bt a0_2 x3_2) > 102
           ·rw [if_pos c27] at H; have c27b0 : decide (102 < (bt a0_2 x3_2)) = true := decide_eq_true c27; clear c27; by_cases c28 : (bt a0_2 x3_2) < 65
            ·rw [if_pos c28] at H; have c28b0 : decide ((bt a0_2 x3_2) < 65) = true := decide_eq_true c28; clear c28; obtain rfl := Option.some.inj H; obtain ⟨hcz29_0, hcz29_1, hcz29_2, hfz29_0, hfz29_1, hfz29_2⟩ := bx3 BK101.out; have p16 : 0 ≤ (x3_2 : Int) := od_; have q16 : x3_2 < (a0_2.size : Int) := od_; have hx16 := bt_at a0_2 x3_2; replace p16 := eq_true p16; replace q16 := eq_true q16; go_wp2; go_ret; exact ⟨by first | rfl | (simp [errW_none, errW_some] <;> rfl) | (simp [*, errW_none, errW_some] <;> rfl), uB HB.out⟩
            ·rw [if_neg c28] at H; have c28b0 : decide ((bt a0_2 x3_2) < 65) = false := decide_eq_false c28; clear c28; by_cases c30 : (bt a0_2 x3_2) > 70
             ·rw [if_pos c30] at H; have c30b0 : decide (70 < (bt a0_2 x3_2)) = true := decide_eq_true c30; clear c30; obtain rfl := Option.some.inj H; obtain ⟨hcz31_0, hcz31_1, hcz31_2, hfz31_0, hfz31_1, hfz31_2⟩ := bx3 BK101.out; have p16 : 0 ≤ (x3_2 : Int) := od_; have q16 : x3_2 < (a0_2.size : Int) := od_; have hx16 := bt_at a0_2 x3_2; replace p16 := eq_true p16; replace q16 := eq_true q16; go_wp2; go_ret; exact ⟨by first | rfl | (simp [errW_none, errW_some] <;> rfl) | (simp [*, errW_none, errW_some] <;> rfl), uB HB.out⟩
             ·rw [if_neg c30] at H; have c30b0 : decide (70 < (bt a0_2 x3_2)) = false := decide_eq_false c30; clear c30; have H' := Aside0.mk H; clear H; obtain ⟨hcz32_0, hcz32_1, hcz32_2, hfz32_0, hfz32_1, hfz32_2⟩ := bx3 BK101.out; have p16 : 0 ≤ (x3_2 : Int) := od_; have q16 : x3_2 < (a0_2.size : Int) := od_; have hx16 := bt_at a0_2 x3_2; replace p16 := eq_true p16; replace q16 := eq_true q16; go_wp2; go_roundg k2
              case measure => have := HJ1.out; have := HK2.out; omega
              case rel => exact ⟨(wrap64 (x3_2 + 1)), ev_, H', ⟨by have := HJ1.out; have := HK2.out; omega⟩, ⟨uK BK101.out⟩, ⟨uB HB.out⟩⟩
           ·rw [if_neg c27] at H; have c27b0 : decide (102 < (bt a0_2 x3_2)) = false := decide_eq_false c27; clear c27; have H' := Aside0.mk H; clear H; obtain ⟨hcz33_0, hcz33_1, hcz33_2, hfz33_0, hfz33_1, hfz33_2⟩ := bx3 BK101.out; have p16 : 0 ≤ (x3_2 : Int) := od_; have q16 : x3_2 < (a0_2.size : Int) := od_; have hx16 := bt_at a0_2 x3_2; replace p16 := eq_true p16; replace q16 := eq_true q16; go_wp2; go_roundg k2
            case measure => have := HJ1.out; have := HK2.out; omega
            case rel => exact ⟨(wrap64 (x3_2 + 1)), ev_, H', ⟨by have := HJ1.out; have := HK2.out; omega⟩, ⟨uK BK101.out⟩, ⟨uB HB.out⟩⟩
       ·rw [if_neg c15] at H; exact absurd H (by simp)
      ·rw [if_neg c14] at H; have c14b0 : decide (x3_2 < (a0_2.size : Int)) = false := decide_eq_false c14; clear c14; obtain rfl := Option.some.inj H; obtain ⟨hcz34_0, hcz34_1, hcz34_2, hfz34_0, hfz34_1, hfz34_2⟩ := bx3 BK101.out; go_wp2; go_ret; exact ⟨by first | rfl | (simp [errW_none, errW_some] <;> rfl) | (simp [*, errW_none, errW_some] <;> rfl), uB HB.out⟩

/-! ### impl_isFree: function 82 -/
def impl_isFree.f (a0_0 : Int) (a0_1 : Int) (a0_2 : ByteArray) (a1 : Int) : Option (Bool) := if a1 ≥ 0 then (if a1 < (a0_2.size : Int) then (if 0 ≤ a1 then (some ((bt a0_2 a1) != 35)) else (none)) else (some false)) else (some false)
set_option maxHeartbeats 8000000 in
set_option maxRecDepth 100000 in
theorem impl_isFree.calls (a0_0 : Int) (a0_1 : Int) (a0_2 : ByteArray) (a1 : Int) (r : Bool) (w : World) (h : impl_isFree.f a0_0 a0_1 a0_2 a1 = some r) :
  Calls Try.prog 82 #[.agg #[.int .i64 a0_0, .int .i64 a0_1, .string a0_2], .int .i64 a1] w fun e w' => e = .returned (.bool r) ∧ Below w.heap.size w w' := by
 have hu26 := Try.underlying26; have HB := Aside0.mk (Below.refl w.heap.size w); have H : (if a1 ≥ 0 then (if a1 < (a0_2.size : Int) then (if 0 ≤ a1 then (some ((bt a0_2 a1) != 35)) else (none)) else (some false)) else (some false)) = some r := h; clear h; by_cases c3 : a1 ≥ 0
 ·rw [if_pos c3] at H; have c3b0 : decide (0 ≤ a1) = true := decide_eq_true c3; clear c3; by_cases c4 : a1 < (a0_2.size : Int)
  ·rw [if_pos c4] at H; have c4b0 : decide (a1 < (a0_2.size : Int)) = true := decide_eq_true c4; clear c4; by_cases c5 : 0 ≤ a1
   ·rw [if_pos c5] at H; have c5b0 : decide (0 ≤ a1) = true := decide_eq_true c5; clear c5; obtain rfl := Option.some.inj H; go_enter Try.func82, Try.ntmps82; go_wp2_with (first | ((with_reducible refine gate_dst (N := 2) rfl ?_); (try (refine gate_guard (by rfl) ?_; dsimp only)); refine box_event ?hg (N := 2) ?hd (cs := #[.int .i64 a0_0, .int .i64 a0_1, .string a0_2]) (t := 26) ?hr ?_; (case hd => rfl); (case hg => rfl); (case hr => first | (go_simp; done) | (go_simp; rfl)); intro gb102 hg w7 hbox hb; have BK102 := Aside0.mk (hbox); have GW102 := Aside0.mk ((by rw [hg]; exact (below_size (uB HB.out)) : w.heap.size ≤ gb102)); have GE102 := Aside0.mk ((by rw [hg]; exact (below_size (uB HB.out)) : w.heap.size ≤ gb102)); replace HB := Aside0.mk (below_step (uB HB.out) hb); clear hb hbox hg; obtain ⟨hcz8_0, hcz8_1, hcz8_2, hfz8_0, hfz8_1, hfz8_2⟩ := bx3 BK102.out; have p6 : 0 ≤ (a1 : Int) := od_; have q6 : a1 < (a0_2.size : Int) := od_; have hx6 := bt_at a0_2 a1; replace p6 := eq_true p6; replace q6 := eq_true q6))
    go_ret; exact ⟨by first | rfl | (simp [errW_none, errW_some] <;> rfl) | (simp [*, errW_none, errW_some] <;> rfl), uB HB.out⟩
   ·rw [if_neg c5] at H; exact absurd H (by simp)
  ·rw [if_neg c4] at H; have c4b0 : decide (a1 < (a0_2.size : Int)) = false := decide_eq_false c4; clear c4; obtain rfl := Option.some.inj H; go_enter Try.func82, Try.ntmps82; go_wp2_with (first | ((with_reducible refine gate_dst (N := 2) rfl ?_); (try (refine gate_guard (by rfl) ?_; dsimp only)); refine box_event ?hg (N := 2) ?hd (cs := #[.int .i64 a0_0, .int .i64 a0_1, .string a0_2]) (t := 26) ?hr ?_; (case hd => rfl); (case hg => rfl); (case hr => first | (go_simp; done) | (go_simp; rfl)); intro gb102 hg w9 hbox hb; have BK102 := Aside0.mk (hbox); have GW102 := Aside0.mk ((by rw [hg]; exact (below_size (uB HB.out)) : w.heap.size ≤ gb102)); have GE102 := Aside0.mk ((by rw [hg]; exact (below_size (uB HB.out)) : w.heap.size ≤ gb102)); replace HB := Aside0.mk (below_step (uB HB.out) hb); clear hb hbox hg; obtain ⟨hcz10_0, hcz10_1, hcz10_2, hfz10_0, hfz10_1, hfz10_2⟩ := bx3 BK102.out))
   go_ret; exact ⟨by first | rfl | (simp [errW_none, errW_some] <;> rfl) | (simp [*, errW_none, errW_some] <;> rfl), uB HB.out⟩
 ·rw [if_neg c3] at H; have c3b0 : decide (0 ≤ a1) = false := decide_eq_false c3; clear c3; obtain rfl := Option.some.inj H; go_enter Try.func82, Try.ntmps82; go_wp2_with (first | ((with_reducible refine gate_dst (N := 2) rfl ?_); (try (refine gate_guard (by rfl) ?_; dsimp only)); refine box_event ?hg (N := 2) ?hd (cs := #[.int .i64 a0_0, .int .i64 a0_1, .string a0_2]) (t := 26) ?hr ?_; (case hd => rfl); (case hg => rfl); (case hr => first | (go_simp; done) | (go_simp; rfl)); intro gb102 hg w11 hbox hb; have BK102 := Aside0.mk (hbox); have GW102 := Aside0.mk ((by rw [hg]; exact (below_size (uB HB.out)) : w.heap.size ≤ gb102)); have GE102 := Aside0.mk ((by rw [hg]; exact (below_size (uB HB.out)) : w.heap.size ≤ gb102)); replace HB := Aside0.mk (below_step (uB HB.out) hb); clear hb hbox hg))
  go_ret; exact ⟨by first | rfl | (simp [errW_none, errW_some] <;> rfl) | (simp [*, errW_none, errW_some] <;> rfl), uB HB.out⟩

/-! ### impl_FreeCells: function 54 -/
/-! ### slices.IndexFunc, slices.ContainsFunc over whole numbers, at whatever function value that tells p -/
def findI {α : Type} (p : α → Bool) : List α → Int
  | [] => -1
  | x :: xs => if p x then 0 else (let r := findI p xs; if r < 0 then -1 else r + 1)
theorem findI_range {α : Type} (p : α → Bool) : ∀ l : List α, -1 ≤ findI p l ∧ findI p l < l.length ∨ findI p l = -1
  | [] => .inr rfl
  | x :: xs => by
    unfold findI
    have := findI_range p xs
    by_cases h : p x = true
    · rw [if_pos h]; left; simp only [List.length_cons]; omega
    · rw [if_neg h]; simp only [List.length_cons]
      by_cases h2 : findI p xs < 0
      · rw [if_pos h2]; right; rfl
      · rw [if_neg h2]; left; omega
theorem findI_hit {α : Type} (p : α → Bool) : ∀ (l : List α) (d : α) (k : Nat), k < l.length → p (l.getD k d) = true → (∀ j, j < k → p (l.getD j d) = false) → findI p l = (k : Int)
  | [], d, k, h, _, _ => absurd h (Nat.not_lt_zero _)
  | x :: xs, d, 0, _, hp, _ => by unfold findI; rw [if_pos (by simpa using hp)]; rfl
  | x :: xs, d, k + 1, h, hp, hn => by
    unfold findI
    have h0 := hn 0 (Nat.succ_pos _)
    rw [if_neg (by simpa using h0)]
    have := findI_hit p xs d k (by simpa using h) (by simpa using hp) (fun j hj => by simpa using hn (j + 1) (by omega))
    simp only [this]; rw [if_neg (by omega)]; omega
theorem findI_miss {α : Type} (p : α → Bool) : ∀ (l : List α) (d : α), (∀ j, j < l.length → p (l.getD j d) = false) → findI p l = -1
  | [], _, _ => rfl
  | x :: xs, d, hn => by
    unfold findI
    have h0 := hn 0 (by simp)
    rw [if_neg (by simpa using h0)]
    have := findI_miss p xs d (fun j hj => by simpa using hn (j + 1) (by simpa using hj))
    simp only [this]; rfl
theorem findI_any {α : Type} (p : α → Bool) : ∀ l : List α, decide (findI p l ≥ 0) = l.any p
  | [] => rfl
  | x :: xs => by
    have ih := findI_any p xs
    unfold findI
    by_cases h : p x = true
    · rw [if_pos h]; simp [h]
    · rw [if_neg h]
      simp only [List.any_cons, Bool.eq_false_iff.mpr h, Bool.false_or, ← ih]
      by_cases h2 : findI p xs < 0
      · simp only [if_pos h2]; rw [decide_eq_false (by omega), decide_eq_false (by omega)]
      · simp only [if_neg h2]; rw [decide_eq_true (by omega), decide_eq_true (by omega)]
theorem entersOf {f : FuncId} {fn : Func} {c : Code} (hf : Try.prog.funcs[f]? = some fn) (hn : (fn.name == "runtime.NumGoroutine") = false) (hb : fn.body = some c) : ∀ args w, (callFunc f args).run Try.prog w = .ok (.enter f args) w := by
  intro args w
  have h : fn.name ≠ "runtime.NumGoroutine" := fun e => by rw [e] at hn; simp at hn
  simp [callFunc, hf, h, hb, mark]
/-- What a function value owes: called at an element of l in any world that leaves w as it was, it tells p of it and leaves that world as it was. -/
def Tells {α : Type} (g : Nat) (lb : Array Value) (enc : α → Value) (p : α → Bool) (l : List α) (w : World) : Prop :=
  ∀ (W : World) (x : α), x ∈ l → Below w.heap.size w W → Calls Try.prog g (#[enc x] ++ lb) W fun e w' => e = .returned (.bool (p x)) ∧ Below W.heap.size W w'

/-! ### a range over a string of plain bytes, whose iterator lies at whatever block -/
def setIter (W : World) (B : Nat) (s : ByteArray) (p : Nat) : World := { W with heap := W.heap.setIfInBounds B (.stringIter s p) }
theorem setIter_at {W : World} {B : Nat} {o : Obj} {s : ByteArray} {p : Nat} (h : W.heap[B]? = some o) : (setIter W B s p).heap[B]? = some (.stringIter s p) := by
  have := blk_lt h
  simp [setIter, Array.getElem?_setIfInBounds, this]
theorem setIter_grown (W : World) (B : Nat) (s : ByteArray) (p : Nat) : W.grownBy (setIter W B s p) (some B) :=
  ⟨rfl, rfl, rfl, by simp [setIter], fun i hi hne => by
    have : ¬ B = i := fun e => hne (by rw [e])
    simp [setIter, Array.getElem?_setIfInBounds, this]⟩
theorem run_next_at (W : World) (B : Nat) (s : ByteArray) (pos : Nat) (hB : W.heap[B]? = some (.stringIter s pos)) (h : pos < s.size) (ha : (s[pos]'h).toNat < 128) :
    ∃ W1, (∀ ty, (Instr.next (.pointer (some ⟨B, 0, none⟩)) true ty).run Try.prog W = .ok (.tuple #[.bool true, .int .i64 pos, .int .i32 (s[pos]'h).toNat]) W1) ∧ W.grownBy W1 (some B) ∧ W1.heap[B]? = some (.stringIter s (pos + 1)) := by
  refine ⟨setIter W B s (pos + 1), fun ty => ?_, setIter_grown W B s (pos + 1), setIter_at hB⟩
  simp only [Instr.next, getObj, setObj, Sem.run_bind, Sem.run, hB, Result.andThen, h, if_true, decode_ascii s pos h ha]
  simp [goInt, Sem.run, hB, setIter]
theorem run_next_done (W : World) (B : Nat) (s : ByteArray) (pos : Nat) (hB : W.heap[B]? = some (.stringIter s pos)) (h : ¬ pos < s.size) (ty : TypeId) :
    (Instr.next (.pointer (some ⟨B, 0, none⟩)) true ty).run Try.prog W = .ok (.tuple #[.bool false]) W := by
  simp [Instr.next, getObj, Sem.run, hB, h]

def impl_FreeCells.go (a0_0 a0_1 : Int) (a0_2 : ByteArray) : Nat → Nat → List Int → Option (List Int)
  | 0, _, acc => some acc
  | d + 1, pos, acc => if h : pos < a0_2.size then (if (a0_2[pos]'h).toNat < 128 then ((impl_isFree.f a0_0 a0_1 a0_2 (pos : Int)).bind fun t => (if t = true then (if acc.length < 17592186044416 then impl_FreeCells.go a0_0 a0_1 a0_2 d (pos + 1) (acc ++ [(pos : Int)]) else none) else impl_FreeCells.go a0_0 a0_1 a0_2 d (pos + 1) acc)) else none) else none
def impl_FreeCells.f (k : Nat) (a0_0 : Int) (a0_1 : Int) (a0_2 : ByteArray) : Option (List Int) := (impl_GridOk.f k a0_0 a0_1 a0_2).bind fun t => (if t = true then (impl_FreeCells.go a0_0 a0_1 a0_2 a0_2.size 0 []) else (some ([] : List Int)))
set_option maxHeartbeats 8000000 in
set_option maxRecDepth 100000 in
theorem impl_FreeCells.calls (k : Nat) (a0_0 : Int) (a0_1 : Int) (a0_2 : ByteArray) (r : List Int) (w : World) (h : impl_FreeCells.f k a0_0 a0_1 a0_2 = some r) :
    Calls Try.prog 54 #[.agg #[.int .i64 a0_0, .int .i64 a0_1, .string a0_2]] w fun e w' => ∃ v0_ : Value, e = .returned (v0_) ∧ Kd.R (Kd.int .i64) 3 w' w.heap.size (fun _ => True) v0_ r ∧ Below w.heap.size w w' := by
  have hu26 := Try.underlying26; have hu9 := Try.underlying9; have HB := Aside0.mk (Below.refl w.heap.size w); obtain ⟨t1, hG, H⟩ := Option.bind_eq_some_iff.mp h; clear h; have HG := Aside0.mk hG; clear hG; go_enter Try.func54, Try.ntmps54
  cases t1 with
  | false =>
    obtain rfl := Option.some.inj H; go_wp2_with (first | ((with_reducible refine gate_dst (N := 1) rfl ?_); (try (refine gate_guard (by rfl) ?_; dsimp only)); refine box_event ?hg (N := 1) ?hd (cs := #[.int .i64 a0_0, .int .i64 a0_1, .string a0_2]) (t := 26) ?hr ?_; (case hd => rfl); (case hg => rfl); (case hr => first | (go_simp; done) | (go_simp; rfl)); intro gb hg w3 hbox hb; have HB1 := Aside0.mk (below_step HB.out hb); have BK := Aside0.mk hbox; clear HB hb hbox hg; have hcz0 : w3.cell? ⟨gb, 0, none⟩ = some (.int .i64 a0_0) := (blk_cell BK.out 0).trans rfl; have hcz1 : w3.cell? ⟨gb, 1, none⟩ = some (.int .i64 a0_1) := (blk_cell BK.out 1).trans rfl; have hcz2 : w3.cell? ⟨gb, 2, none⟩ = some (.string a0_2) := (blk_cell BK.out 2).trans rfl) | (go_at_call 62; refine (impl_GridOk.calls k a0_0 a0_1 a0_2 false _ HG.out).mono ?_; rintro e w4 ⟨rfl, hb4⟩; have HB2 := Aside0.mk (below_step HB1.out hb4); clear hb4 hcz0 hcz1 hcz2))
    go_ret; exact ⟨_, rfl, Kd.R_nil _ _ _ _ _, HB2.out⟩
  | true =>
    have H' := Aside0.mk H; clear H; go_wp2_with (first | ((with_reducible refine gate_dst (N := 1) rfl ?_); (try (refine gate_guard (by rfl) ?_; dsimp only)); refine box_event ?hg (N := 1) ?hd (cs := #[.int .i64 a0_0, .int .i64 a0_1, .string a0_2]) (t := 26) ?hr ?_; (case hd => rfl); (case hg => rfl); (case hr => first | (go_simp; done) | (go_simp; rfl)); intro gb hg w3 hbox hb; have GE := Aside0.mk (by rw [hg]; exact Nat.le_refl _ : w.heap.size ≤ gb); have HB1 := Aside0.mk (below_step HB.out hb); have BK := Aside0.mk hbox; clear HB hb hbox hg; have hcz0 : w3.cell? ⟨gb, 0, none⟩ = some (.int .i64 a0_0) := (blk_cell BK.out 0).trans rfl; have hcz1 : w3.cell? ⟨gb, 1, none⟩ = some (.int .i64 a0_1) := (blk_cell BK.out 1).trans rfl; have hcz2 : w3.cell? ⟨gb, 2, none⟩ = some (.string a0_2) := (blk_cell BK.out 2).trans rfl) | (go_at_call 62; refine (impl_GridOk.calls k a0_0 a0_1 a0_2 true _ HG.out).mono ?_; rintro e w4 ⟨rfl, hb4⟩; have HB2 := Aside0.mk (below_step HB1.out hb4); have BK2 := Aside0.mk (blk_below BK.out hb4); clear hb4 hcz0 hcz1 hcz2; have hcy2 : w4.cell? ⟨gb, 2, none⟩ = some (.string a0_2) := (blk_cell BK2.out 2).trans rfl))
    have GI : Aside0 (w.heap.size ≤ w4.heap.size) := ⟨below_size HB2.out⟩; have HB3 : Aside0 (Below w.heap.size w (w4.iter a0_2 0)) := ⟨HB2.out.alloc GI.out (.stringIter a0_2 0)⟩; have BK3 : Aside0 ((w4.iter a0_2 0).heap[gb]? = some (.cells #[.int .i64 a0_0, .int .i64 a0_1, .string a0_2] 26 (0, 0))) := ⟨blk_alloc BK2.out (.stringIter a0_2 0)⟩; have IT3 := Aside0.mk (World.iter_heap w4 a0_2 0); have NE := Aside0.mk (Nat.ne_of_lt (blk_lt BK2.out)); clear hcy2; generalize w4.heap.size = it at *; generalize w4.iter a0_2 0 = w5 at *; have HG0 : Aside0 (impl_FreeCells.go a0_0 a0_1 a0_2 a0_2.size 0 [] = some r) := ⟨H'.out⟩; clear H' HG; go_loopg [3] a0_2.size (fun d v3 w' => ∃ (pos : Nat) (acc : List Int), pos + d = a0_2.size ∧ Aside0 (impl_FreeCells.go a0_0 a0_1 a0_2 d pos acc = some r) ∧ Aside0 (Kd.R (Kd.int .i64) 3 w' w.heap.size (fun k_ => k_ ≠ gb ∧ k_ ≠ it) v3 acc) ∧ Aside0 (Below w.heap.size w w') ∧ Aside0 (w'.heap[gb]? = some (.cells #[.int .i64 a0_0, .int .i64 a0_1, .string a0_2] 26 (0, 0))) ∧ Aside0 (w'.heap[it]? = some (.stringIter a0_2 pos)))
    case atStart => exact ⟨0, [], by omega, HG0, ⟨Kd.R_nil _ _ _ _ _⟩, HB3, BK3, IT3⟩
    case round =>
      clear HB3 BK3 IT3 HG0 HB1 HB2 BK BK2; obtain ⟨pos, acc, hpd, HA, HO, HB, BK, IT⟩ := hrel
      cases gk with
      | zero =>
        have hnx := fun ty => run_next_done wr it a0_2 pos IT.out (by omega) ty
        have hr := Option.some.inj HA.out; subst hr; clear HA; go_wp2; go_ret; exact ⟨_, rfl, Kd.R_mono HO.out (fun _ _ => trivial), HB.out⟩
      | succ d =>
        have hp : pos < a0_2.size := by omega
        have H := HA.out; clear HA; simp only [impl_FreeCells.go] at H; rw [dif_pos hp] at H; by_cases ha : (a0_2[pos]'hp).toNat < 128
        · rw [if_pos ha] at H
          obtain ⟨W1, hnx, hgr, hit⟩ := run_next_at wr it a0_2 pos IT.out hp ha; obtain ⟨t, hF, H⟩ := Option.bind_eq_some_iff.mp H; have HF := Aside0.mk hF; have BK1 := Aside0.mk (blk_grown BK.out hgr (by intro e; injection e with e; exact NE.out e)); have HB1 := Aside0.mk (HB.out.grown hgr (below_size HB.out) (fun k e => by injection e with e; rw [← e]; exact GI.out)); have HO1 := Aside0.mk (Kd.R_grown HO.out hgr (fun k hk e => by injection e with e; exact hk.2 e)); have IT1 := Aside0.mk hit; have hcz0 : W1.cell? ⟨gb, 0, none⟩ = some (.int .i64 a0_0) := (blk_cell BK1.out 0).trans rfl; have hcz1 : W1.cell? ⟨gb, 1, none⟩ = some (.int .i64 a0_1) := (blk_cell BK1.out 1).trans rfl; have hcz2 : W1.cell? ⟨gb, 2, none⟩ = some (.string a0_2) := (blk_cell BK1.out 2).trans rfl; generalize (a0_2[pos]'hp).toNat = q at hnx; clear hF hgr hit HO HB BK IT ha hp
          cases t with
          | false =>
            rw [if_neg (by decide)] at H; have H2 := Aside0.mk H; clear H; go_wp2_with (go_at_call 82; refine (impl_isFree.calls a0_0 a0_1 a0_2 (pos : Int) false _ HF.out).mono ?_; rintro e w6 ⟨rfl, hb6⟩; have HB6 := Aside0.mk (below_step HB1.out hb6); have HO6 := Aside0.mk (Kd.R_below HO1.out hb6); have BK6 := Aside0.mk (blk_below BK1.out hb6); have IT6 := Aside0.mk (blk_below IT1.out hb6); clear hb6 hcz0 hcz1 hcz2)
            go_roundg d
            case measure => omega
            case rel => exact ⟨pos + 1, acc, by omega, H2, HO6, HB6, BK6, IT6⟩
          | true =>
            rw [if_pos rfl] at H; by_cases hl : acc.length < 17592186044416
            · rw [if_pos hl] at H
              have H2 := Aside0.mk H; have HL := Aside0.mk hl; clear H hl; go_wp2_with (first | (go_at_call 82; refine (impl_isFree.calls a0_0 a0_1 a0_2 (pos : Int) true _ HF.out).mono ?_; rintro e w6 ⟨rfl, hb6⟩; have HB6 := Aside0.mk (below_step HB1.out hb6); have HO6 := Aside0.mk (Kd.R_below HO1.out hb6); have BK6 := Aside0.mk (blk_below BK1.out hb6); have IT6 := Aside0.mk (blk_below IT1.out hb6); clear hb6 hcz0 hcz1 hcz2) | ((with_reducible refine gate_builtin (b := .append) (xs := #[.tmp 17, .tmp 19]) rfl ?_); at_builtin; refine Kd.R_append (Kd.int .i64) (w0 := w) w.heap.size rfl (.tmp 17) (.tmp 19) 29 3 (.int .i64 0) 8 rfl Try.underlying29 info3 rfl (by decide) (by omega) u3 acc (pos : Int) [.int .i64 (pos : Int)] (fun k_ => k_ ≠ gb ∧ k_ ≠ it) (fun _ => False) rfl rfl ?aP (fun _ hk => hk.elim) ?aF ?aO ?aB ?aS ?aL ?_; (case aP => exact rfl); (case aB => exact HB6.out); (case aF => exact (fun k_ hk => ⟨Kd.freshB BK6.out k_ hk, Kd.freshB IT6.out k_ hk⟩)); (case aO => exact HO6.out); (case aS => exact below_size HB6.out); (case aL => have := HL.out; omega); intro v7 w7 ho hb hg hat; have HB7 := Aside0.mk hb; have HO7 := Aside0.mk ho; have BK7 := Aside0.mk (blk_grown BK6.out hg (Kd.R_away HO6.out (fun _ hk => hk.1))); have IT7 := Aside0.mk (blk_grown IT6.out hg (Kd.R_away HO6.out (fun _ hk => hk.2))); clear ho hb hg hat))
              go_roundg d
              case measure => omega
              case rel => exact ⟨pos + 1, acc ++ [(pos : Int)], by omega, H2, HO7, HB7, BK7, IT7⟩
            · rw [if_neg hl] at H
              exact absurd H (by simp)
        · rw [if_neg ha] at H
          exact absurd H (by simp)


/-! ### slices_Clone_int_int: function 59 -/
/-! ### slices.Clone over whole numbers: by hand (a slice held against nil) -/
def slices_Clone_int_int.f (l0 : List Int) : Option (List Int) := if l0.length < 17592186044416 then some l0 else none
theorem cloneNil (t e : TypeId) (A : Option Addr) (n c : Nat) (h : Try.prog.underlying t = some (.slice e)) : ∀ w, (binOp .eql t (.slice A n c) (.slice none 0 0)).run Try.prog w = .ok (.bool A.isNone) w := by
  intro w
  have h1 : ∀ d : Nat, (Op.equalIn (d + 1) t (.slice A n c) (.slice none 0 0)).run Try.prog w = .ok A.isNone w := fun d => by
    cases A <;> simp [Op.equalIn, run_underlying h]
  simp only [binOp]
  simp [Op.equal, Op.maxDepth, h1 9999]
set_option maxHeartbeats 8000000 in
set_option maxRecDepth 100000 in
theorem slices_Clone_int_int.calls (A0 : Option Addr) (c0 : Nat) (l0 : List Int) (r : List Int) (w : World) (hr0 : Kd.C (Kd.int .i64) w A0 l0.length l0) (hc0 : l0.length ≤ c0) (h : slices_Clone_int_int.f l0 = some r) :
    Calls Try.prog 59 #[.slice A0 l0.length c0] w fun e w' => ∃ v0_ : Value, e = .returned (v0_) ∧ Kd.R (Kd.int .i64) 3 w' w.heap.size (fun _ => True) v0_ r ∧ Below w.heap.size w w' := by
  unfold slices_Clone_int_int.f at h
  by_cases c2 : l0.length < 17592186044416
  · rw [if_pos c2] at h
    obtain rfl := Option.some.inj h; clear h; have LMc2 := Aside0.mk c2; have hnil := fun n c => cloneNil 29 3 A0 n c Try.underlying29
    cases A0 with
    | none =>
      have h0 : l0.length = 0 := by
        rcases Nat.eq_zero_or_pos l0.length with h | h
        · exact h
        · obtain ⟨ad, e, _⟩ := hr0.2.2 h
          cases e
      obtain rfl : l0 = [] := List.eq_nil_of_length_eq_zero h0; clear c2 LMc2 hr0 h0 hc0; go_enter Try.func59, Try.ntmps59; go_wp2; go_ret; exact ⟨_, rfl, Kd.R_nil _ _ _ _ _, Below.refl _ _⟩
    | some a =>
      have HR0 := Aside0.mk hr0; have HC0 := Aside0.mk hc0; have HB := Aside0.mk (Below.refl w.heap.size w); obtain ⟨y133, hy133⟩ : ∃ y_ : List Int, y_ = (([] : List Int)) := ⟨_, rfl⟩; have Ny133 := Aside0.mk hy133; obtain ⟨y136, hy136⟩ : ∃ y_ : List Int, y_ = (y133 ++ l0) := ⟨_, rfl⟩; have Ny136 := Aside0.mk hy136; have NL := Aside0.mk (show l0 = y136 by rw [hy136, hy133]; rfl); have L133 : Aside0 (y133.length = 0) := ⟨by rw [hy133]; rfl⟩; clear hr0 hc0 hy133 hy136 c2; go_enter Try.func59, Try.ntmps59; go_wp2_with (first | ((with_reducible refine gate_dst (N := 5) rfl ?_); refine Kd.R_lit (Kd.int .i64) _ 3 ?hg (N := 5) ?hd (xs := ([] : List Int)) (inner := []) (ok := fun _ => True) (okp := fun _ => True) ?hr ?hp (fun _ hk => hk) trivial (Below.refl _ _) (Nat.le_refl _) (by simp) ?_; (case hd => rfl); (case hg => rfl); (case hr => first | (go_simp; done) | (go_simp; rfl)); (case hp => exact (Reps.none _ _)); intro v134 w5 ho6 hb hg_ hnew_; clear hg_ hnew_; rw [← Ny133.out] at ho6; have n1_ := Aside0.mk (below_step HB.out hb); have HO135 := Aside0.mk ho6; clear HB hb ho6; have HB := n1_; clear n1_) | ((with_reducible refine gate_builtin (b := .append) (xs := #[.tmp 5, .tmp 6]) rfl ?_); at_builtin; refine Kd.R_append_rows (Kd.int .i64) (w0 := w) w.heap.size rfl (.tmp 5) (.tmp 6) 29 3 (.int .i64 0) 8 rfl Try.underlying29 info3 rfl (by decide) (by omega) v134 y133 l0 _ _ _ (fun _ => True) (fun _ => False) rfl rfl ?aO ?aR (fun _ _ h => h) (fun _ h => h.elim) ?aF ?aB ?aS ?aL ?_; (case aR => exact (Kd.C_below HR0.out HB.out)); (case aB => exact HB.out); (case aF => exact (fun _ _ => trivial)); (case aO => exact HO135.out); (case aS => exact (below_size HB.out)); (case aL => have := LMc2.out; have := L133.out; omega); intro v137 w9 ho hb hg hat; rw [← Ny136.out] at ho; have HB2 := Aside0.mk hb; have HO138 := Aside0.mk ho; clear HB HO135 ho hb hg hat))
      go_ret; exact ⟨_, rfl, by rw [NL.out]; exact HO138.out, HB2.out⟩
  · rw [if_neg c2] at h
    exact absurd h (by simp)


end Go.Proofs.Ytooofofeihkpcaa.Q
