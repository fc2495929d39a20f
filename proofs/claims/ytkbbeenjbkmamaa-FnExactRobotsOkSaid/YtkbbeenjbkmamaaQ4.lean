-- Written by a session's own program (wip/tools/myprint.py) over the kit's printer, out of the translation. Not trusted: Lean checks it.
import Derived.Test.YtkbbeenjbkmamaaQ0
import Derived.Test.YtkbbeenjbkmamaaQ1
import Derived.Test.YtkbbeenjbkmamaaQ2
import Derived.Test.YtkbbeenjbkmamaaQ3
namespace Go.Proofs.Ytkbbeenjbkmamaa.Q
open Go.RowKit Go.Proofs.YtkbbeenjbkmamaaW.PrintWords Go.Proofs.YtkbbeenjbkmamaaW.PrintLast Go.Proofs.YtkbbeenjbkmamaaW.PrintMore
attribute [local go_sem] max2_int min2_int max_two min_two max_three min_three max_four min_four   -- for this text's walks alone
set_option linter.unusedVariables false
set_option linter.unusedSimpArgs false

/-! ### spec_RobotsOk: function 21 -/
mutual
def spec_RobotsOk.j0 : Nat → List (S42) → Bool → Int → Int → ByteArray → Option (Bool)
 | 0, _, _, _, _, _ => none
 | k + 1, x1, x14, x162000, x162001, x162002 => if x14 = true then (some false) else (spec_RobotsOk.l0 k x1 0 x162000 x162001 x162002)
def spec_RobotsOk.l0 : Nat → List (S42) → Int → Int → Int → ByteArray → Option (Bool)
 | 0, _, _, _, _, _ => none
 | k + 1, x1, x5, x162000, x162001, x162002 => if x5 < (x1.length : Int) then (if 0 ≤ x5 then ((spec_l01In.f ((rd_T42 x1 x5).f0) 0 99).bind fun t165 => (if t165 = true then (if x5 > 0 then (if 0 ≤ (wrap64 (x5 - 1)) then (if (wrap64 (x5 - 1)) < (x1.length : Int) then (if ((rd_T42 x1 (wrap64 (x5 - 1))).f0) ≥ ((rd_T42 x1 x5).f0) then (spec_RobotsOk.j2 k x1 x5 true x162000 x162001 x162002 ((rd_T42 x1 x5).f0) ((rd_T42 x1 x5).f1) ((rd_T42 x1 x5).f2) ((rd_T42 x1 x5).f3)) else ((spec_FreeAt.f k x162000 x162001 x162002 ((rd_T42 x1 x5).f1)).bind fun t167 => (if t167 = true then (if ((rd_T42 x1 x5).f2) = (-1) then (spec_RobotsOk.j2 k x1 x5 false x162000 x162001 x162002 ((rd_T42 x1 x5).f0) ((rd_T42 x1 x5).f1) ((rd_T42 x1 x5).f2) ((rd_T42 x1 x5).f3)) else ((spec_Beside.f k x162000 x162001 x162002 ((rd_T42 x1 x5).f1) ((rd_T42 x1 x5).f2)).bind fun t168 => (spec_RobotsOk.j2 k x1 x5 (!t168) x162000 x162001 x162002 ((rd_T42 x1 x5).f0) ((rd_T42 x1 x5).f1) ((rd_T42 x1 x5).f2) ((rd_T42 x1 x5).f3)))) else (spec_RobotsOk.j2 k x1 x5 true x162000 x162001 x162002 ((rd_T42 x1 x5).f0) ((rd_T42 x1 x5).f1) ((rd_T42 x1 x5).f2) ((rd_T42 x1 x5).f3))))) else (none)) else (none)) else ((spec_FreeAt.f k x162000 x162001 x162002 ((rd_T42 x1 x5).f1)).bind fun t169 => (if t169 = true then (if ((rd_T42 x1 x5).f2) = (-1) then (spec_RobotsOk.j2 k x1 x5 false x162000 x162001 x162002 ((rd_T42 x1 x5).f0) ((rd_T42 x1 x5).f1) ((rd_T42 x1 x5).f2) ((rd_T42 x1 x5).f3)) else ((spec_Beside.f k x162000 x162001 x162002 ((rd_T42 x1 x5).f1) ((rd_T42 x1 x5).f2)).bind fun t170 => (spec_RobotsOk.j2 k x1 x5 (!t170) x162000 x162001 x162002 ((rd_T42 x1 x5).f0) ((rd_T42 x1 x5).f1) ((rd_T42 x1 x5).f2) ((rd_T42 x1 x5).f3)))) else (spec_RobotsOk.j2 k x1 x5 true x162000 x162001 x162002 ((rd_T42 x1 x5).f0) ((rd_T42 x1 x5).f1) ((rd_T42 x1 x5).f2) ((rd_T42 x1 x5).f3))))) else (spec_RobotsOk.j2 k x1 x5 true x162000 x162001 x162002 ((rd_T42 x1 x5).f0) ((rd_T42 x1 x5).f1) ((rd_T42 x1 x5).f2) ((rd_T42 x1 x5).f3)))) else (none)) else (some true)
def spec_RobotsOk.j2 : Nat → List (S42) → Int → Bool → Int → Int → ByteArray → Int → Int → Int → Bool → Option (Bool)
 | 0, _, _, _, _, _, _, _, _, _, _ => none
 | k + 1, x1, x5, x64, x162000, x162001, x162002, x165000, x165001, x165002, x165003 => if x64 = true then (some false) else (if 0 ≤ x5 then (if x5 ≤ (x1.length : Int) then ((spec_HolderOf.f k (x1.take (x5 : Int).toNat) x165001).bind fun t175 => (if t175 ≥ 0 then (some false) else ((spec_HolderOf.f k (x1.take (x5 : Int).toNat) x165002).bind fun t180 => (if t180 ≥ 0 then (some false) else (spec_RobotsOk.l0 k x1 (wrap64 (x5 + 1)) x162000 x162001 x162002))))) else (none)) else (none))
end
def spec_RobotsOk.f (k : Nat) (a0_0 : Int) (a0_1 : Int) (a0_2 : ByteArray) (l1 : List (S42)) : Option (Bool) := (spec_GridOk.f k a0_0 a0_1 a0_2).bind fun t162 => (if t162 = true then (spec_RobotsOk.j0 k l1 (decide ((l1.length : Int) > 10)) a0_0 a0_1 a0_2) else (spec_RobotsOk.j0 k l1 true a0_0 a0_1 a0_2))
def spec_RobotsOk.T7 : Bool × List (List Nat × List Nat) := (true, [([], []), ([0], [0]), ([1], [1]), ([2], [2]), ([3, 2], [3]), ([4], [4]), ([5, 4], [4, 5]), ([6, 4, 4], [4, 6]), ([7], [7]), ([7], [7]), ([9, 7], [7, 9]), ([8, 10, 7], [7, 8, 10]), ([11, 7], [7, 11]), ([12, 7], [7, 12]), ([7], [7]), ([14, 7], [7, 14]), ([13, 15, 7], [7, 13, 15]), ([7, 16, 4], [4, 7, 16]), ([4, 17], [4, 17]), ([18, 7], [18]), ([19], [19]), ([19], [19]), ([21, 19], [19, 21]), ([20, 22, 19, 19], [19, 20, 22]), ([23, 19], [19, 23]), ([19, 24], [19, 24]), ([25, 23], [25]), ([26], [26]), ([27, 26], [26, 27]), ([28, 26], [26, 28]), ([29, 26, 26], [26, 29]), ([30], [30]), ([30], [30]), ([32, 30], [30, 32]), ([30], [30]), ([34, 30], [30, 34]), ([31, 33, 35, 30, 30], [30, 31, 33, 35]), ([36, 30], [30, 36]), ([30, 37, 26], [26, 30, 37]), ([26, 38], [26, 38])])
def spec_RobotsOk.B7 : List Nat := [0, 1, 3, 7, 15, 31, 63, 127, 255, 255, 767, 2047, 4095, 8191, 255, 16639, 65535, 131071, 262143, 524287, 1048575, 1048575, 3145727, 8388607, 16777215, 33554431, 67108863, 134217727, 268435455, 536870911, 1073741823, 2147483647, 2147483647, 6442450943, 2147483647, 19327352831, 68719476735, 137438953471, 274877906943, 549755813887]
theorem spec_RobotsOk.tab7 : rtab .any (opsOf Try.f21 7) = spec_RobotsOk.T7 := by kernel_rfl
theorem spec_RobotsOk.bits7 : waitsOk spec_RobotsOk.T7.2 spec_RobotsOk.B7 = true := by kernel_rfl
def spec_RobotsOk.T9 : Bool × List (List Nat × List Nat) := (true, [([], []), ([], []), ([0, 1], [0, 1]), ([], []), ([3], [3]), ([2, 4], [2, 4]), ([5], [5]), ([6, 5], [6]), ([7], [7]), ([7], [7]), ([8, 9, 7], [7, 8, 9]), ([7], [7]), ([11, 7], [7, 11]), ([10, 12, 7, 7], [7, 10, 12]), ([13, 7], [7, 13]), ([7, 14], [7, 14])])
def spec_RobotsOk.B9 : List Nat := [0, 0, 3, 0, 8, 31, 63, 127, 255, 255, 1023, 255, 2303, 8191, 16383, 32767]
theorem spec_RobotsOk.tab9 : rtab .any (opsOf Try.f21 9) = spec_RobotsOk.T9 := by kernel_rfl
theorem spec_RobotsOk.bits9 : waitsOk spec_RobotsOk.T9.2 spec_RobotsOk.B9 = true := by kernel_rfl
set_option maxHeartbeats 8000000 in
set_option maxRecDepth 100000 in
theorem spec_RobotsOk.calls (k : Nat) (a0_0 : Int) (a0_1 : Int) (a0_2 : ByteArray) (A1 : Option Addr) (c1 : Nat) (l1 : List (S42)) (r : Bool) (w : World) (hr1 : Kd.C k42 w A1 l1.length l1) (hc1 : l1.length ≤ c1) (h : spec_RobotsOk.f k a0_0 a0_1 a0_2 l1 = some r) :
  Calls Try.prog 21 #[.agg #[.int .i64 a0_0, .int .i64 a0_1, .string a0_2], .slice A1 l1.length c1] w fun e w' => e = .returned (.bool r) ∧ Below w.heap.size w w' := by
 have hu38 := Try.underlying38
 have hu42 := Try.underlying42
 have HR1 := Aside0.mk hr1
 have HC1 := Aside0.mk hc1
 clear hr1 hc1
 have HB := Aside0.mk (Below.refl w.heap.size w)
 have H : ((spec_GridOk.f k a0_0 a0_1 a0_2).bind fun t162 => (if t162 = true then (spec_RobotsOk.j0 k l1 (decide ((l1.length : Int) > 10)) a0_0 a0_1 a0_2) else (spec_RobotsOk.j0 k l1 true a0_0 a0_1 a0_2))) = some r := h
 clear h
 have HC3 := Aside0.mk H
 clear H
 go_enter Try.func21, Try.ntmps21
 go_upto_region 1 with (first | ((with_reducible refine gate_dst (N := 2) rfl ?_); (try (refine gate_guard (by rfl) ?_; dsimp only)); refine box_event ?hg (N := 2) ?hd (cs := #[.int .i64 a0_0, .int .i64 a0_1, .string a0_2]) (t := 38) ?hr ?_; (case hd => rfl); (case hg => rfl); (case hr => first | (go_simp; done) | (go_simp; rfl)); intro gb161 hg w4 hbox hb; have n0_ := Aside0.mk (below_step (uB HB.out) hb); have n1_ := Aside0.mk (hbox); have n2_ := Aside0.mk ((by rw [hg]; exact (below_size (uB HB.out)) : w.heap.size ≤ gb161)); have n3_ := Aside0.mk ((by rw [hg]; exact (below_size (uB HB.out)) : w.heap.size ≤ gb161)); clear HB; have HB := n0_; have BK161 := n1_; have GW161 := n2_; have GE161 := n3_; clear n0_ n1_ n2_ n3_; clear hb hbox hg))
 (try simp only [Act.put, List.setIfInBounds_toArray, List.set_cons_zero, List.set_cons_succ])
 go_cut [14] (fun v14 wc => ∃ (kq : Nat) (x14_2 : Bool), v14 = .bool x14_2 ∧ Aside0 (spec_RobotsOk.j0 kq l1 x14_2 a0_0 a0_1 a0_2 = some r) ∧ Aside0 (kq ≤ k) ∧ Aside0 (wc.heap[gb161]? = some (.cells #[.int .i64 a0_0, .int .i64 a0_1, .string a0_2] 38 (0, 0))) ∧ Aside0 (Below w.heap.size w wc))
 case first =>
  have H := HC3.out
  clear HC3
  replace H := Option.bind_eq_some_iff.mp H
  obtain ⟨t162, A50, H⟩ := H
  replace H : (if t162 = true then (spec_RobotsOk.j0 k l1 (decide ((l1.length : Int) > 10)) a0_0 a0_1 a0_2) else (spec_RobotsOk.j0 k l1 true a0_0 a0_1 a0_2)) = some r := H
  have A5 := Aside0.mk A50
  clear A50
  by_cases c6 : t162 = true
  ·subst c6
   have H1 : (spec_RobotsOk.j0 k l1 (decide ((l1.length : Int) > 10)) a0_0 a0_1 a0_2) = some r := by rw [if_pos rfl] at H; exact H
   clear H
   have H := H1
   clear H1
   have H' := Aside0.mk H
   clear H
   have hcz7_0 : w4.cell? ⟨gb161, 0, none⟩ = some (.int .i64 a0_0) := (blk_cell BK161.out 0).trans rfl
   have hcz7_1 : w4.cell? ⟨gb161, 1, none⟩ = some (.int .i64 a0_1) := (blk_cell BK161.out 1).trans rfl
   have hcz7_2 : w4.cell? ⟨gb161, 2, none⟩ = some (.string a0_2) := (blk_cell BK161.out 2).trans rfl
   have hfz7_0 := blk_frozen BK161.out 0
   have hfz7_1 := blk_frozen BK161.out 1
   have hfz7_2 := blk_frozen BK161.out 2
   go_wp2_with (first | ((with_reducible refine gate_callee (f := 32) rfl ?_); refine goesL_ (some 8) rfl rfl Try.func32 (by kernel_rfl) rfl #[.agg #[.int .i64 a0_0, .int .i64 a0_1, .string a0_2]] rfl (by (try simp only [List.map_toArray, List.map_cons, List.map_nil]); first | done | rfl | (simp only [List.length_drop, List.length_take]; rfl)) ?_; (with_reducible refine (spec_GridOk.calls k a0_0 a0_1 a0_2 true _ A5.out).mono ?_); rintro e w8 ⟨rfl, hb⟩; refine ⟨_, rfl, ?_⟩; have n0_ := Aside0.mk (blk_below (g := gb161) (o := .cells #[.int .i64 a0_0, .int .i64 a0_1, .string a0_2] 38 (0, 0)) (by (with_reducible repeat (first | refine blk_drewN ?_ _ | refine blk_drew ?_ | refine blk_alloc ?_ _)); exact BK161.out) hb); have n1_ := Aside0.mk (below_step (by repeat (first | (with_reducible first | exact HB.out | apply below_alloc | apply pw_below_drewN | apply below_drew1 | refine below_set ?_ GE161.out) | exact HB.out)) hb); clear BK161; clear HB; have BK161 := n0_; have HB := n1_; clear n0_ n1_; (try clear hb); (try clear hb2); (try clear hk); (try clear hi)))
   go_meet
   case rel => exact ⟨_, (decide ((l1.length : Int) > 10)), (by first | rfl | (simp; done) | (simp [*]; done)), H', ⟨by first | omega | exact Nat.le_refl _⟩, ⟨by (with_reducible repeat (first | refine blk_drewN ?_ _ | refine blk_drew ?_ | refine blk_alloc ?_ _)); exact BK161.out⟩, ⟨by repeat (first | (with_reducible first | exact HB.out | apply below_alloc | apply pw_below_drewN | apply below_drew1 | refine below_set ?_ GE161.out) | exact HB.out)⟩⟩
  ·replace c6 := Bool.eq_false_iff.mpr c6
   subst c6
   have H1 : (spec_RobotsOk.j0 k l1 true a0_0 a0_1 a0_2) = some r := by rw [if_neg (show ¬ (false = true) by decide)] at H; exact H
   clear H
   have H := H1
   clear H1
   have H' := Aside0.mk H
   clear H
   have hcz9_0 : w4.cell? ⟨gb161, 0, none⟩ = some (.int .i64 a0_0) := (blk_cell BK161.out 0).trans rfl
   have hcz9_1 : w4.cell? ⟨gb161, 1, none⟩ = some (.int .i64 a0_1) := (blk_cell BK161.out 1).trans rfl
   have hcz9_2 : w4.cell? ⟨gb161, 2, none⟩ = some (.string a0_2) := (blk_cell BK161.out 2).trans rfl
   have hfz9_0 := blk_frozen BK161.out 0
   have hfz9_1 := blk_frozen BK161.out 1
   have hfz9_2 := blk_frozen BK161.out 2
   go_wp2_with (first | ((with_reducible refine gate_callee (f := 32) rfl ?_); refine goesL_ (some 8) rfl rfl Try.func32 (by kernel_rfl) rfl #[.agg #[.int .i64 a0_0, .int .i64 a0_1, .string a0_2]] rfl (by (try simp only [List.map_toArray, List.map_cons, List.map_nil]); first | done | rfl | (simp only [List.length_drop, List.length_take]; rfl)) ?_; (with_reducible refine (spec_GridOk.calls k a0_0 a0_1 a0_2 false _ A5.out).mono ?_); rintro e w10 ⟨rfl, hb⟩; refine ⟨_, rfl, ?_⟩; have n0_ := Aside0.mk (blk_below (g := gb161) (o := .cells #[.int .i64 a0_0, .int .i64 a0_1, .string a0_2] 38 (0, 0)) (by (with_reducible repeat (first | refine blk_drewN ?_ _ | refine blk_drew ?_ | refine blk_alloc ?_ _)); exact BK161.out) hb); have n1_ := Aside0.mk (below_step (by repeat (first | (with_reducible first | exact HB.out | apply below_alloc | apply pw_below_drewN | apply below_drew1 | refine below_set ?_ GE161.out) | exact HB.out)) hb); clear BK161; clear HB; have BK161 := n0_; have HB := n1_; clear n0_ n1_; (try clear hb); (try clear hb2); (try clear hk); (try clear hi)))
   go_meet
   case rel => exact ⟨_, (true), (by first | rfl | (simp; done) | (simp [*]; done)), H', ⟨by first | omega | exact Nat.le_refl _⟩, ⟨by (with_reducible repeat (first | refine blk_drewN ?_ _ | refine blk_drew ?_ | refine blk_alloc ?_ _)); exact BK161.out⟩, ⟨by repeat (first | (with_reducible first | exact HB.out | apply below_alloc | apply pw_below_drewN | apply below_drew1 | refine below_set ?_ GE161.out) | exact HB.out)⟩⟩
 case rest =>
  clear HC3
  try clear c1
  try clear c2
  try clear p2
  try clear c3
  try clear c6
  try clear hcz7_0
  try clear hcz7_1
  try clear hcz7_2
  try clear hcz9_0
  try clear hcz9_1
  try clear hcz9_2
  try clear hfz7_0
  try clear hfz7_1
  try clear hfz7_2
  try clear hfz9_0
  try clear hfz9_1
  try clear hfz9_2
  obtain ⟨kq, x14_2, rfl, HA, HJ2, BK161, HB⟩ := hcut
  cases kq with
  | zero => exact absurd HA.out (by simp [spec_RobotsOk.j0])
  | succ kj2 =>
   have H := HA.out
   clear HA
   simp only [spec_RobotsOk.j0] at H
   by_cases c11 : x14_2 = true
   ·subst c11
    have H1 : (some false) = some r := by rw [if_pos rfl] at H; exact H
    clear H
    have H := H1
    clear H1
    obtain rfl := Option.some.inj H
    go_wp2
    go_ret
    exact ⟨by first | rfl | (simp [errW_none, errW_some] <;> rfl) | (simp [*, errW_none, errW_some] <;> rfl), by repeat (first | (with_reducible first | exact HB.out | apply below_alloc | apply pw_below_drewN | apply below_drew1 | refine below_set ?_ GE161.out) | exact HB.out)⟩
   ·replace c11 := Bool.eq_false_iff.mpr c11
    subst c11
    have H1 : (spec_RobotsOk.l0 kj2 l1 0 a0_0 a0_1 a0_2) = some r := by rw [if_neg (show ¬ (false = true) by decide)] at H; exact H
    clear H
    have H := H1
    clear H1
    have H' := Aside0.mk H
    clear H
    go_wp2
    go_loopg [5] kj2 (fun kq v5 w' => ∃ (x5_2 : Int), v5 = .int .i64 x5_2 ∧ Aside0 (spec_RobotsOk.l0 kq l1 x5_2 a0_0 a0_1 a0_2 = some r) ∧ Aside0 (kq ≤ kj2) ∧ Aside0 (w'.heap[gb161]? = some (.cells #[.int .i64 a0_0, .int .i64 a0_1, .string a0_2] 38 (0, 0))) ∧ Aside0 (Below w.heap.size w w'))
    case atStart => exact ⟨(0), (by first | rfl | (simp; done) | (simp [*]; done)), H', ⟨Nat.le_refl _⟩, ⟨by (with_reducible repeat (first | refine blk_drewN ?_ _ | refine blk_drew ?_ | refine blk_alloc ?_ _)); exact BK161.out⟩, ⟨by repeat (first | (with_reducible first | exact HB.out | apply below_alloc | apply pw_below_drewN | apply below_drew1 | refine below_set ?_ GE161.out) | exact HB.out)⟩⟩
    case round =>
     clear H'
     try clear c1
     try clear c2
     try clear p2
     try clear c3
     try clear c6
     try clear c11
     try clear hcz7_0
     try clear hcz7_1
     try clear hcz7_2
     try clear hcz9_0
     try clear hcz9_1
     try clear hcz9_2
     try clear hfz7_0
     try clear hfz7_1
     try clear hfz7_2
     try clear hfz9_0
     try clear hfz9_1
     try clear hfz9_2
     try clear p2
     obtain ⟨x5_2, rfl, HA, HK2, BK161, HB⟩ := hrel
     cases gk with
     | zero => exact absurd HA.out (by simp [spec_RobotsOk.l0])
     | succ k2 =>
      have H := HA.out
      clear HA
      simp only [spec_RobotsOk.l0] at H
      by_cases c12 : x5_2 < (l1.length : Int)
      ·rw [if_pos c12] at H
       have c12b0 : decide (x5_2 < (l1.length : Int)) = true := decide_eq_true c12
       clear c12
       by_cases c13 : 0 ≤ x5_2
       ·rw [if_pos c13] at H
        have c13b0 : decide (0 ≤ x5_2) = true := decide_eq_true c13
        clear c13
        have HC14 := Aside0.mk H
        clear H
        have p163 : 0 ≤ (x5_2 : Int) := of_decide_eq_true (by first | (with_reducible assumption) | assumption)
        have q163 : x5_2 < (l1.length : Int) := of_decide_eq_true (by first | (with_reducible assumption) | assumption)
        obtain ⟨ad163, e163, hx163_0, hx163_1, hx163_2, hx163_3⟩ := at_T42 HR1.out x5_2 p163 q163
        cases e163
        replace hx163_0 := (HB.out.cell (World.block_lt_of_cell? w _ hx163_0)).trans hx163_0
        replace hx163_1 := (HB.out.cell (World.block_lt_of_cell? w _ hx163_1)).trans hx163_1
        replace hx163_2 := (HB.out.cell (World.block_lt_of_cell? w _ hx163_2)).trans hx163_2
        replace hx163_3 := (HB.out.cell (World.block_lt_of_cell? w _ hx163_3)).trans hx163_3
        replace p163 := eq_true p163
        replace q163 := eq_true q163
        go_upto_region 7 with (first | ((with_reducible refine gate_dst (N := 6) rfl ?_); (try (refine gate_guard (by rfl) ?_; dsimp only)); refine box_event ?hg (N := 6) ?hd (cs := #[.int .i64 0, .int .i64 0, .int .i64 0, .bool false]) (t := 42) ?hr ?_; (case hd => rfl); (case hg => rfl); (case hr => first | (go_simp; done) | (go_simp; rfl)); intro gb164 hg w15 hbox hb; have n0_ := Aside0.mk (blk_below (g := gb161) (o := .cells #[.int .i64 a0_0, .int .i64 a0_1, .string a0_2] 38 (0, 0)) (by (with_reducible repeat (first | refine blk_drewN ?_ _ | refine blk_drew ?_ | refine blk_alloc ?_ _)); exact BK161.out) hb); have n1_ := Aside0.mk (below_step (by repeat (first | (with_reducible first | exact HB.out | apply below_alloc | apply pw_below_drewN | apply below_drew1 | refine below_set ?_ GE161.out) | exact HB.out)) hb); have n2_ := Aside0.mk (hbox); have n3_ := Aside0.mk ((by rw [hg]; exact (below_size (by repeat (first | (with_reducible first | exact HB.out | apply below_alloc | apply pw_below_drewN | apply below_drew1 | refine below_set ?_ GE161.out) | exact HB.out))) : w.heap.size ≤ gb164)); have n4_ := Aside0.mk ((by rw [hg]; exact (below_size (by repeat (first | (with_reducible first | exact HB.out | apply below_alloc | apply pw_below_drewN | apply below_drew1 | refine below_set ?_ GE161.out) | exact HB.out))) : w.heap.size ≤ gb164)); have n5_ := Aside0.mk ((by rw [hg]; exact Nat.ne_of_lt (blk_lt (g := gb161) (o := .cells #[.int .i64 a0_0, .int .i64 a0_1, .string a0_2] 38 (0, 0)) (by (with_reducible repeat (first | refine blk_drewN ?_ _ | refine blk_drew ?_ | refine blk_alloc ?_ _)); exact BK161.out)) : gb161 ≠ gb164)); have n6_ := Aside0.mk ((by rw [hg]; exact Nat.ne_of_gt (blk_lt (g := gb161) (o := .cells #[.int .i64 a0_0, .int .i64 a0_1, .string a0_2] 38 (0, 0)) (by (with_reducible repeat (first | refine blk_drewN ?_ _ | refine blk_drew ?_ | refine blk_alloc ?_ _)); exact BK161.out)) : gb164 ≠ gb161)); clear BK161; clear HB; have BK161 := n0_; have HB := n1_; have BK164 := n2_; have GW164 := n3_; have GE164 := n4_; have NB161_164 := n5_; have NB164_161 := n6_; clear n0_ n1_ n2_ n3_ n4_ n5_ n6_; clear hb hbox hg; have hnb16 := NB164_161.out; have hnc16 := NB161_164.out; have hcz17_0 : w15.cell? ⟨gb164, 0, none⟩ = some (.int .i64 0) := (blk_cell BK164.out 0).trans rfl; have hcz17_1 : w15.cell? ⟨gb164, 1, none⟩ = some (.int .i64 0) := (blk_cell BK164.out 1).trans rfl; have hcz17_2 : w15.cell? ⟨gb164, 2, none⟩ = some (.int .i64 0) := (blk_cell BK164.out 2).trans rfl; have hcz17_3 : w15.cell? ⟨gb164, 3, none⟩ = some (.bool false) := (blk_cell BK164.out 3).trans rfl; have hfz17_0 := blk_frozen BK164.out 0; have hfz17_1 := blk_frozen BK164.out 1; have hfz17_2 := blk_frozen BK164.out 2; have hfz17_3 := blk_frozen BK164.out 3))
        (try simp only [Act.put, List.setIfInBounds_toArray, List.set_cons_zero, List.set_cons_succ])
        go_cut [64] (fun v64 wc => ∃ (kq : Nat) (x64_13 : Bool), v64 = .bool x64_13 ∧ Aside0 (spec_RobotsOk.j2 kq l1 x5_2 x64_13 a0_0 a0_1 a0_2 ((rd_T42 l1 x5_2).f0) ((rd_T42 l1 x5_2).f1) ((rd_T42 l1 x5_2).f2) ((rd_T42 l1 x5_2).f3) = some r) ∧ Aside0 (kq ≤ k2) ∧ Aside0 (wc.heap[gb161]? = some (.cells #[.int .i64 a0_0, .int .i64 a0_1, .string a0_2] 38 (0, 0))) ∧ Aside0 (wc.heap[gb164]? = some (.cells #[.int .i64 ((rd_T42 l1 x5_2).f0), .int .i64 ((rd_T42 l1 x5_2).f1), .int .i64 ((rd_T42 l1 x5_2).f2), .bool ((rd_T42 l1 x5_2).f3)] 42 (0, 0))) ∧ Aside0 (Below w.heap.size w wc))
        case first =>
         have H := HC14.out
         clear HC14
         replace H := Option.bind_eq_some_iff.mp H
         obtain ⟨t165, A180, H⟩ := H
         replace H : (if t165 = true then (if x5_2 > 0 then (if 0 ≤ (wrap64 (x5_2 - 1)) then (if (wrap64 (x5_2 - 1)) < (l1.length : Int) then (if ((rd_T42 l1 (wrap64 (x5_2 - 1))).f0) ≥ ((rd_T42 l1 x5_2).f0) then (spec_RobotsOk.j2 k2 l1 x5_2 true a0_0 a0_1 a0_2 ((rd_T42 l1 x5_2).f0) ((rd_T42 l1 x5_2).f1) ((rd_T42 l1 x5_2).f2) ((rd_T42 l1 x5_2).f3)) else ((spec_FreeAt.f k2 a0_0 a0_1 a0_2 ((rd_T42 l1 x5_2).f1)).bind fun t167 => (if t167 = true then (if ((rd_T42 l1 x5_2).f2) = (-1) then (spec_RobotsOk.j2 k2 l1 x5_2 false a0_0 a0_1 a0_2 ((rd_T42 l1 x5_2).f0) ((rd_T42 l1 x5_2).f1) ((rd_T42 l1 x5_2).f2) ((rd_T42 l1 x5_2).f3)) else ((spec_Beside.f k2 a0_0 a0_1 a0_2 ((rd_T42 l1 x5_2).f1) ((rd_T42 l1 x5_2).f2)).bind fun t168 => (spec_RobotsOk.j2 k2 l1 x5_2 (!t168) a0_0 a0_1 a0_2 ((rd_T42 l1 x5_2).f0) ((rd_T42 l1 x5_2).f1) ((rd_T42 l1 x5_2).f2) ((rd_T42 l1 x5_2).f3)))) else (spec_RobotsOk.j2 k2 l1 x5_2 true a0_0 a0_1 a0_2 ((rd_T42 l1 x5_2).f0) ((rd_T42 l1 x5_2).f1) ((rd_T42 l1 x5_2).f2) ((rd_T42 l1 x5_2).f3))))) else (none)) else (none)) else ((spec_FreeAt.f k2 a0_0 a0_1 a0_2 ((rd_T42 l1 x5_2).f1)).bind fun t169 => (if t169 = true then (if ((rd_T42 l1 x5_2).f2) = (-1) then (spec_RobotsOk.j2 k2 l1 x5_2 false a0_0 a0_1 a0_2 ((rd_T42 l1 x5_2).f0) ((rd_T42 l1 x5_2).f1) ((rd_T42 l1 x5_2).f2) ((rd_T42 l1 x5_2).f3)) else ((spec_Beside.f k2 a0_0 a0_1 a0_2 ((rd_T42 l1 x5_2).f1) ((rd_T42 l1 x5_2).f2)).bind fun t170 => (spec_RobotsOk.j2 k2 l1 x5_2 (!t170) a0_0 a0_1 a0_2 ((rd_T42 l1 x5_2).f0) ((rd_T42 l1 x5_2).f1) ((rd_T42 l1 x5_2).f2) ((rd_T42 l1 x5_2).f3)))) else (spec_RobotsOk.j2 k2 l1 x5_2 true a0_0 a0_1 a0_2 ((rd_T42 l1 x5_2).f0) ((rd_T42 l1 x5_2).f1) ((rd_T42 l1 x5_2).f2) ((rd_T42 l1 x5_2).f3))))) else (spec_RobotsOk.j2 k2 l1 x5_2 true a0_0 a0_1 a0_2 ((rd_T42 l1 x5_2).f0) ((rd_T42 l1 x5_2).f1) ((rd_T42 l1 x5_2).f2) ((rd_T42 l1 x5_2).f3))) = some r := H
         have A18 := Aside0.mk A180
         clear A180
         by_cases c19 : t165 = true
         ·subst c19
          have H1 : (if x5_2 > 0 then (if 0 ≤ (wrap64 (x5_2 - 1)) then (if (wrap64 (x5_2 - 1)) < (l1.length : Int) then (if ((rd_T42 l1 (wrap64 (x5_2 - 1))).f0) ≥ ((rd_T42 l1 x5_2).f0) then (spec_RobotsOk.j2 k2 l1 x5_2 true a0_0 a0_1 a0_2 ((rd_T42 l1 x5_2).f0) ((rd_T42 l1 x5_2).f1) ((rd_T42 l1 x5_2).f2) ((rd_T42 l1 x5_2).f3)) else ((spec_FreeAt.f k2 a0_0 a0_1 a0_2 ((rd_T42 l1 x5_2).f1)).bind fun t167 => (if t167 = true then (if ((rd_T42 l1 x5_2).f2) = (-1) then (spec_RobotsOk.j2 k2 l1 x5_2 false a0_0 a0_1 a0_2 ((rd_T42 l1 x5_2).f0) ((rd_T42 l1 x5_2).f1) ((rd_T42 l1 x5_2).f2) ((rd_T42 l1 x5_2).f3)) else ((spec_Beside.f k2 a0_0 a0_1 a0_2 ((rd_T42 l1 x5_2).f1) ((rd_T42 l1 x5_2).f2)).bind fun t168 => (spec_RobotsOk.j2 k2 l1 x5_2 (!t168) a0_0 a0_1 a0_2 ((rd_T42 l1 x5_2).f0) ((rd_T42 l1 x5_2).f1) ((rd_T42 l1 x5_2).f2) ((rd_T42 l1 x5_2).f3)))) else (spec_RobotsOk.j2 k2 l1 x5_2 true a0_0 a0_1 a0_2 ((rd_T42 l1 x5_2).f0) ((rd_T42 l1 x5_2).f1) ((rd_T42 l1 x5_2).f2) ((rd_T42 l1 x5_2).f3))))) else (none)) else (none)) else ((spec_FreeAt.f k2 a0_0 a0_1 a0_2 ((rd_T42 l1 x5_2).f1)).bind fun t169 => (if t169 = true then (if ((rd_T42 l1 x5_2).f2) = (-1) then (spec_RobotsOk.j2 k2 l1 x5_2 false a0_0 a0_1 a0_2 ((rd_T42 l1 x5_2).f0) ((rd_T42 l1 x5_2).f1) ((rd_T42 l1 x5_2).f2) ((rd_T42 l1 x5_2).f3)) else ((spec_Beside.f k2 a0_0 a0_1 a0_2 ((rd_T42 l1 x5_2).f1) ((rd_T42 l1 x5_2).f2)).bind fun t170 => (spec_RobotsOk.j2 k2 l1 x5_2 (!t170) a0_0 a0_1 a0_2 ((rd_T42 l1 x5_2).f0) ((rd_T42 l1 x5_2).f1) ((rd_T42 l1 x5_2).f2) ((rd_T42 l1 x5_2).f3)))) else (spec_RobotsOk.j2 k2 l1 x5_2 true a0_0 a0_1 a0_2 ((rd_T42 l1 x5_2).f0) ((rd_T42 l1 x5_2).f1) ((rd_T42 l1 x5_2).f2) ((rd_T42 l1 x5_2).f3))))) = some r := by rw [if_pos rfl] at H; exact H
          clear H
          have H := H1
          clear H1
          by_cases c20 : x5_2 > 0
          ·rw [if_pos c20] at H
           have c20b0 : decide (0 < x5_2) = true := decide_eq_true c20
           clear c20
           (first | rw [c20b0] | (simp only [i64_w, i32_w]; rw [c20b0]) | skip)
           obtain ⟨ji21, hji21⟩ : ∃ j_ : Int, (wrap64 (x5_2 - 1)) = j_ := ⟨_, rfl⟩
           replace H : (if 0 ≤ (ji21) then (if (ji21) < (l1.length : Int) then (if ((rd_T42 l1 (ji21)).f0) ≥ ((rd_T42 l1 x5_2).f0) then (spec_RobotsOk.j2 k2 l1 x5_2 true a0_0 a0_1 a0_2 ((rd_T42 l1 x5_2).f0) ((rd_T42 l1 x5_2).f1) ((rd_T42 l1 x5_2).f2) ((rd_T42 l1 x5_2).f3)) else ((spec_FreeAt.f k2 a0_0 a0_1 a0_2 ((rd_T42 l1 x5_2).f1)).bind fun t167 => (if t167 = true then (if ((rd_T42 l1 x5_2).f2) = (-1) then (spec_RobotsOk.j2 k2 l1 x5_2 false a0_0 a0_1 a0_2 ((rd_T42 l1 x5_2).f0) ((rd_T42 l1 x5_2).f1) ((rd_T42 l1 x5_2).f2) ((rd_T42 l1 x5_2).f3)) else ((spec_Beside.f k2 a0_0 a0_1 a0_2 ((rd_T42 l1 x5_2).f1) ((rd_T42 l1 x5_2).f2)).bind fun t168 => (spec_RobotsOk.j2 k2 l1 x5_2 (!t168) a0_0 a0_1 a0_2 ((rd_T42 l1 x5_2).f0) ((rd_T42 l1 x5_2).f1) ((rd_T42 l1 x5_2).f2) ((rd_T42 l1 x5_2).f3)))) else (spec_RobotsOk.j2 k2 l1 x5_2 true a0_0 a0_1 a0_2 ((rd_T42 l1 x5_2).f0) ((rd_T42 l1 x5_2).f1) ((rd_T42 l1 x5_2).f2) ((rd_T42 l1 x5_2).f3))))) else (none)) else (none)) = some r := by first | (rw [hji21] at H; exact H) | (simp only [hji21] at H ⊢; exact H)
           (try rw [hji21] at A18)
           have hji21w : (IntKind.i64.wrap (x5_2 - 1)) = ji21 := (i64_w _).trans hji21
           by_cases c22 : 0 ≤ (ji21)
           ·rw [if_pos c22] at H
            have c22b0 : decide (0 ≤ (ji21)) = true := decide_eq_true c22
            clear c22
            by_cases c23 : (ji21) < (l1.length : Int)
            ·rw [if_pos c23] at H
             have c23b0 : decide ((ji21) < (l1.length : Int)) = true := decide_eq_true c23
             clear c23
             by_cases c24 : ((rd_T42 l1 (ji21)).f0) ≥ ((rd_T42 l1 x5_2).f0)
             ·rw [if_pos c24] at H
              have c24b0 : decide (((rd_T42 l1 x5_2).f0) ≤ ((rd_T42 l1 (ji21)).f0)) = true := decide_eq_true c24
              clear c24
              have H' := Aside0.mk H
              clear H
              try go_wp2
              have n0_ : Aside0 (((((w15.setCell ⟨gb164, 0, none⟩ (.int .i64 ((rd_T42 l1 x5_2).f0))).setCell ⟨gb164, 1, none⟩ (.int .i64 ((rd_T42 l1 x5_2).f1))).setCell ⟨gb164, 2, none⟩ (.int .i64 ((rd_T42 l1 x5_2).f2))).setCell ⟨gb164, 3, none⟩ (.bool ((rd_T42 l1 x5_2).f3))).heap[gb161]? = some (.cells #[.int .i64 a0_0, .int .i64 a0_1, .string a0_2] 38 (0, 0))) := ⟨by (with_reducible repeat (first | refine blk_drewN ?_ _ | refine blk_drew ?_ | refine blk_alloc ?_ _)); refine blk_far ?_ NB161_164.out _; (with_reducible repeat (first | refine blk_drewN ?_ _ | refine blk_drew ?_ | refine blk_alloc ?_ _)); refine blk_far ?_ NB161_164.out _; (with_reducible repeat (first | refine blk_drewN ?_ _ | refine blk_drew ?_ | refine blk_alloc ?_ _)); refine blk_far ?_ NB161_164.out _; (with_reducible repeat (first | refine blk_drewN ?_ _ | refine blk_drew ?_ | refine blk_alloc ?_ _)); refine blk_far ?_ NB161_164.out _; (with_reducible repeat (first | refine blk_drewN ?_ _ | refine blk_drew ?_ | refine blk_alloc ?_ _)); exact BK161.out⟩
              have n1_ : Aside0 (((((w15.setCell ⟨gb164, 0, none⟩ (.int .i64 ((rd_T42 l1 x5_2).f0))).setCell ⟨gb164, 1, none⟩ (.int .i64 ((rd_T42 l1 x5_2).f1))).setCell ⟨gb164, 2, none⟩ (.int .i64 ((rd_T42 l1 x5_2).f2))).setCell ⟨gb164, 3, none⟩ (.bool ((rd_T42 l1 x5_2).f3))).heap[gb164]? = some (.cells #[.int .i64 ((rd_T42 l1 x5_2).f0), .int .i64 ((rd_T42 l1 x5_2).f1), .int .i64 ((rd_T42 l1 x5_2).f2), .bool ((rd_T42 l1 x5_2).f3)] 42 (0, 0))) := ⟨by (with_reducible repeat (first | refine blk_drewN ?_ _ | refine blk_drew ?_ | refine blk_alloc ?_ _)); refine blk_put (cs := #[.int .i64 ((rd_T42 l1 x5_2).f0), .int .i64 ((rd_T42 l1 x5_2).f1), .int .i64 ((rd_T42 l1 x5_2).f2), .bool false]) ?_ 3 _ rfl; (with_reducible repeat (first | refine blk_drewN ?_ _ | refine blk_drew ?_ | refine blk_alloc ?_ _)); refine blk_put (cs := #[.int .i64 ((rd_T42 l1 x5_2).f0), .int .i64 ((rd_T42 l1 x5_2).f1), .int .i64 0, .bool false]) ?_ 2 _ rfl; (with_reducible repeat (first | refine blk_drewN ?_ _ | refine blk_drew ?_ | refine blk_alloc ?_ _)); refine blk_put (cs := #[.int .i64 ((rd_T42 l1 x5_2).f0), .int .i64 0, .int .i64 0, .bool false]) ?_ 1 _ rfl; (with_reducible repeat (first | refine blk_drewN ?_ _ | refine blk_drew ?_ | refine blk_alloc ?_ _)); refine blk_put (cs := #[.int .i64 0, .int .i64 0, .int .i64 0, .bool false]) ?_ 0 _ rfl; (with_reducible repeat (first | refine blk_drewN ?_ _ | refine blk_drew ?_ | refine blk_alloc ?_ _)); exact BK164.out⟩
              have n2_ : Aside0 (Below w.heap.size w ((((w15.setCell ⟨gb164, 0, none⟩ (.int .i64 ((rd_T42 l1 x5_2).f0))).setCell ⟨gb164, 1, none⟩ (.int .i64 ((rd_T42 l1 x5_2).f1))).setCell ⟨gb164, 2, none⟩ (.int .i64 ((rd_T42 l1 x5_2).f2))).setCell ⟨gb164, 3, none⟩ (.bool ((rd_T42 l1 x5_2).f3)))) := ⟨by repeat (first | (with_reducible first | exact HB.out | apply below_alloc | apply pw_below_drewN | apply below_drew1 | refine below_set ?_ GE161.out | refine below_set ?_ GE164.out) | exact HB.out)⟩
              (try clear BK161)
              (try clear BK164)
              (try clear HB)
              generalize ((((w15.setCell ⟨gb164, 0, none⟩ (.int .i64 ((rd_T42 l1 x5_2).f0))).setCell ⟨gb164, 1, none⟩ (.int .i64 ((rd_T42 l1 x5_2).f1))).setCell ⟨gb164, 2, none⟩ (.int .i64 ((rd_T42 l1 x5_2).f2))).setCell ⟨gb164, 3, none⟩ (.bool ((rd_T42 l1 x5_2).f3))) = w25 at n0_ n1_ n2_ ⊢
              have BK161 := n0_
              have BK164 := n1_
              have HB := n2_
              clear n0_ n1_ n2_
              have n0_ := Aside0.mk (blk_drew BK161.out)
              have n1_ := Aside0.mk (blk_drew BK164.out)
              have n2_ := Aside0.mk (below_drew1 HB.out)
              clear BK161
              clear BK164
              clear HB
              have BK161 := n0_
              have BK164 := n1_
              have HB := n2_
              clear n0_ n1_ n2_
              have p166 : 0 ≤ ((ji21) : Int) := of_decide_eq_true (by first | (with_reducible assumption) | assumption)
              have q166 : (ji21) < (l1.length : Int) := of_decide_eq_true (by first | (with_reducible assumption) | assumption)
              obtain ⟨ad166, e166, hx166_0, hx166_1, hx166_2, hx166_3⟩ := at_T42 HR1.out (ji21) p166 q166
              have hw166_3 := hx166_3
              have hw166_2 := hx166_2
              have hw166_1 := hx166_1
              have hw166_0 := hx166_0
              obtain rfl : ad163 = ad166 := (by injection e166)
              replace hx166_0 := (HB.out.cell (World.block_lt_of_cell? w _ hx166_0)).trans hx166_0
              replace hx166_1 := (HB.out.cell (World.block_lt_of_cell? w _ hx166_1)).trans hx166_1
              replace hx166_2 := (HB.out.cell (World.block_lt_of_cell? w _ hx166_2)).trans hx166_2
              replace hx166_3 := (HB.out.cell (World.block_lt_of_cell? w _ hx166_3)).trans hx166_3
              replace p166 := eq_true p166
              replace q166 := eq_true q166
              refine start_ (n := 40) (S := fun w' => w'.cell? ⟨gb164, 0, none⟩ = some (.int .i64 ((rd_T42 l1 x5_2).f0)) ∧ w'.cell? ⟨gb164, 1, none⟩ = some (.int .i64 ((rd_T42 l1 x5_2).f1)) ∧ w'.cell? ⟨gb164, 2, none⟩ = some (.int .i64 ((rd_T42 l1 x5_2).f2)) ∧ w'.cell? ⟨gb164, 3, none⟩ = some (.bool ((rd_T42 l1 x5_2).f3)) ∧ w'.cell? (ad163.add (((ji21)).toNat * 4)) = some (.int .i64 ((rd_T42 l1 (ji21)).f0)) ∧ w'.cell? ⟨(ad163.add (((ji21)).toNat * 4)).block, (ad163.add (((ji21)).toNat * 4)).off + 1, none⟩ = some (.int .i64 ((rd_T42 l1 (ji21)).f1)) ∧ w'.cell? ⟨(ad163.add (((ji21)).toNat * 4)).block, (ad163.add (((ji21)).toNat * 4)).off + 2, none⟩ = some (.int .i64 ((rd_T42 l1 (ji21)).f2)) ∧ w'.cell? ⟨(ad163.add (((ji21)).toNat * 4)).block, (ad163.add (((ji21)).toNat * 4)).off + 3, none⟩ = some (.bool ((rd_T42 l1 (ji21)).f3))) (ds := []) #[false, false, false, false, false, false, false, false, false, false, false, false, false, false, false, false, false, false, false, false, false, false, false, false, false, false, false, false, false, false, false, false, false, false, false, false, false, false, false, false] (by kernel_rfl) rfl rfl ⟨(blk_cell BK164.out 0).trans rfl, (blk_cell BK164.out 1).trans rfl, (blk_cell BK164.out 2).trans rfl, (blk_cell BK164.out 3).trans rfl, ((HB.out.cell (World.block_lt_of_cell? w _ hw166_0)).trans hw166_0), ((HB.out.cell (World.block_lt_of_cell? w _ hw166_1)).trans hw166_1), ((HB.out.cell (World.block_lt_of_cell? w _ hw166_2)).trans hw166_2), ((HB.out.cell (World.block_lt_of_cell? w _ hw166_3)).trans hw166_3)⟩ (fun hHeld => ?_); refine with_tabW spec_RobotsOk.tab7 spec_RobotsOk.bits7 (fun HT_ HW_ => ?_)
              generalize w25.drew = w26 at BK161 BK164 HB hx166_0 hx166_1 hx166_2 hx166_3 hHeld ⊢
              refine pu_ 0 25 40 1 ?_ HT_ rfl rfl (by kernel_rfl) (fun _ _ _ h => h) (Or.inl ⟨by rfl, ?_⟩) ?_ ?_ ?_; rotate_left; (·intro w'; go_simp; with_reducible rfl); rotate_left; (·simp only [Act.put, pt_]; rfl)
              refine tk_ 1 26 40 3 ?_ HT_ HW_ rfl rfl (by kernel_rfl) (fun _ _ _ h => h) (Or.inl ⟨by rfl, ?_⟩) hHeld ?_ ?_ ?_; rotate_left; (·rintro w' ⟨s0, s1, s2, s3, s4, s5, s6, s7⟩; go_simp; with_reducible rfl); rotate_left; (·simp only [Act.put, pt_]; rfl)
              refine one_ (i := 2) (N := some 27) (bs_ 40 7) rfl rfl (one_of HT_.out (by kernel_rfl)) (by decide) (fun K hK => ?_)
              refine goes_ Try.func33 (by kernel_rfl) rfl #[.int .i64 ((rd_T42 l1 x5_2).f0), .int .i64 0, .int .i64 99] (by rfl) rfl rfl (by (try simp only [List.map_toArray, List.map_cons, List.map_nil]); first | done | rfl | (simp only [List.length_drop, List.length_take]; rfl)) ?_
              with_reducible refine (spec_l01In.calls ((rd_T42 l1 x5_2).f0) 0 99 true _ A18.out).mono ?_
              rintro e w' ⟨rfl, ⟨nd, rfl⟩⟩
              refine ⟨_, rfl, ?_⟩
              refine hK.out _ _ ⟨(blk_cell BK164.out 0).trans rfl, (blk_cell BK164.out 1).trans rfl, (blk_cell BK164.out 2).trans rfl, (blk_cell BK164.out 3).trans rfl, ((HB.out.cell (World.block_lt_of_cell? w _ hw166_0)).trans hw166_0), ((HB.out.cell (World.block_lt_of_cell? w _ hw166_1)).trans hw166_1), ((HB.out.cell (World.block_lt_of_cell? w _ hw166_2)).trans hw166_2), ((HB.out.cell (World.block_lt_of_cell? w _ hw166_3)).trans hw166_3)⟩ (fun hHeld => ?_)
              clear hK K
              refine norm_ (a' := ?_) ?_ ?_
              rotate_left
              ·show Act.put _ (some 27) _ = _
               simp only [Act.put, pt_]
               rfl
              refine pu_ 3 28 40 15 ?_ HT_ rfl rfl (by kernel_rfl) (fun _ _ _ h => h) (Or.inl ⟨by rfl, ?_⟩) ?_ ?_ ?_; rotate_left; (·intro w'; go_simp; with_reducible rfl); rotate_left; (·simp only [Act.put, pt_]; rfl)
              refine pu_ 4 29 40 31 ?_ HT_ rfl rfl (by kernel_rfl) (fun _ _ _ h => h) (Or.inl ⟨by rfl, ?_⟩) ?_ ?_ ?_; rotate_left; (·intro w'; go_simp; with_reducible rfl); rotate_left; (·simp only [Act.put, pt_]; rfl)
              refine pu_ 5 30 40 63 ?_ HT_ rfl rfl (by kernel_rfl) (fun _ _ _ h => h) (Or.inl ⟨by rfl, ?_⟩) ?_ ?_ ?_; rotate_left; (·intro w'; go_simp; with_reducible rfl); rotate_left; (·simp only [Act.put, pt_]; rfl)
              refine pu_ 6 31 40 127 ?_ HT_ rfl rfl (by kernel_rfl) (fun _ _ _ h => h) (Or.inl ⟨by rfl, ?_⟩) ?_ ?_ ?_; rotate_left; (·intro w'; go_simp; with_reducible rfl); rotate_left; (·simp only [Act.put, pt_]; rfl)
              refine pu_ 7 32 40 255 ?_ HT_ rfl rfl (by kernel_rfl) (fun _ _ _ h => h) (Or.inl ⟨by rfl, ?_⟩) ?_ ?_ ?_; rotate_left; (·intro w'; go_simp; with_reducible rfl); rotate_left; (·simp only [Act.put, pt_]; rfl)
              refine pu_ 8 33 40 511 ?_ HT_ rfl rfl (by kernel_rfl) (fun _ _ _ h => h) (Or.inl ⟨by rfl, ?_⟩) ?_ ?_ ?_; rotate_left; (·intro w'; go_simp; with_reducible rfl); rotate_left; (·simp only [Act.put, pt_]; rfl)
              refine pu_ 9 34 40 1023 ?_ HT_ rfl rfl (by kernel_rfl) (fun _ _ _ h => h) (Or.inl ⟨by rfl, ?_⟩) ?_ ?_ ?_; rotate_left; (·intro w'; go_simp; with_reducible rfl); rotate_left; (·simp only [Act.put, pt_]; rfl)
              refine pu_ 10 35 40 2047 ?_ HT_ rfl rfl (by kernel_rfl) (fun _ _ _ h => h) (Or.inl ⟨by rfl, ?_⟩) ?_ ?_ ?_; rotate_left; (·intro w'; go_simp; with_reducible rfl); rotate_left; (·simp only [Act.put, pt_]; rfl)
              refine pu_ 11 36 40 4095 ?_ HT_ rfl rfl (by kernel_rfl) (fun _ _ _ h => h) (Or.inl ⟨by rfl, ?_⟩) ?_ ?_ ?_; rotate_left; (·intro w'; go_simp; with_reducible rfl); rotate_left; (·simp only [Act.put, pt_]; rfl)
              refine pu_ 12 37 40 8191 ?_ HT_ rfl rfl (by kernel_rfl) (fun _ _ _ h => h) (Or.inl ⟨by rfl, ?_⟩) ?_ ?_ ?_; rotate_left; (·intro w'; go_simp; with_reducible rfl); rotate_left; (·simp only [Act.put, pt_]; rfl)
              refine pu_ 14 39 40 24575 ?_ HT_ rfl rfl (by kernel_rfl) (fun _ _ _ h => h) (Or.inl ⟨by rfl, ?_⟩) ?_ ?_ ?_; rotate_left; (·intro w'; go_simp; with_reducible rfl); rotate_left; (·simp only [Act.put, pt_]; rfl)
              refine tk_ 13 38 40 32767 ?_ HT_ HW_ rfl rfl (by kernel_rfl) (fun _ _ _ h => h) (Or.inl ⟨by rfl, ?_⟩) hHeld ?_ ?_ ?_; rotate_left; (·rintro w' ⟨s0, s1, s2, s3, s4, s5, s6, s7⟩; go_simp; with_reducible rfl); rotate_left; (·simp only [Act.put, pt_]; rfl)
              refine tk_ 15 40 40 65535 ?_ HT_ HW_ rfl rfl (by kernel_rfl) (fun _ _ _ h => h) (Or.inl ⟨by rfl, ?_⟩) hHeld ?_ ?_ ?_; rotate_left; (·rintro w' ⟨s0, s1, s2, s3, s4, s5, s6, s7⟩; go_simp; with_reducible rfl); rotate_left; (·simp only [Act.put, pt_]; rfl)
              refine pu_ 16 41 40 131071 ?_ HT_ rfl rfl (by kernel_rfl) (fun _ _ _ h => h) (Or.inl ⟨by rfl, ?_⟩) ?_ ?_ ?_; rotate_left; (·intro w'; go_simp; with_reducible rfl); rotate_left; (·simp only [Act.put, pt_]; rfl)
              refine pu_ 17 42 40 262143 ?_ HT_ rfl rfl (by kernel_rfl) (fun _ _ _ h => h) (Or.inl ⟨by rfl, ?_⟩) ?_ ?_ ?_; rotate_left; (·intro w'; go_simp; with_reducible rfl); rotate_left; (·simp only [Act.put, pt_]; rfl)
              refine pu_ 18 43 40 524287 ?_ HT_ rfl rfl (by kernel_rfl) (fun _ _ _ h => h) (Or.inl ⟨by rfl, ?_⟩) ?_ ?_ ?_; rotate_left; (·intro w'; go_simp; with_reducible rfl); rotate_left; (·simp only [Act.put, pt_]; rfl)
              refine pu_ 19 44 40 1048575 ?_ HT_ rfl rfl (by kernel_rfl) (fun _ _ _ h => h) (Or.inl ⟨by rfl, ?_⟩) ?_ ?_ ?_; rotate_left; (·intro w'; go_simp; with_reducible rfl); rotate_left; (·simp only [Act.put, pt_]; rfl)
              refine pu_ 20 45 40 2097151 undef HT_ rfl rfl (by kernel_rfl) (fun _ _ _ h => h) (Or.inr ⟨by rfl, rfl⟩) ?_ ?_ ?_; rotate_left; (·simp only [Act.put, pt_]; rfl)
              refine pu_ 21 46 40 4194303 undef HT_ rfl rfl (by kernel_rfl) (fun _ _ _ h => h) (Or.inr ⟨by rfl, rfl⟩) ?_ ?_ ?_; rotate_left; (·simp only [Act.put, pt_]; rfl)
              refine pu_ 22 47 40 8388607 undef HT_ rfl rfl (by kernel_rfl) (fun _ _ _ h => h) (Or.inr ⟨by rfl, rfl⟩) ?_ ?_ ?_; rotate_left; (·simp only [Act.put, pt_]; rfl)
              refine pu_ 23 48 40 16777215 undef HT_ rfl rfl (by kernel_rfl) (fun _ _ _ h => h) (Or.inr ⟨by rfl, rfl⟩) ?_ ?_ ?_; rotate_left; (·simp only [Act.put, pt_]; rfl)
              refine pu_ 24 49 40 33554431 undef HT_ rfl rfl (by kernel_rfl) (fun _ _ _ h => h) (Or.inr ⟨by rfl, rfl⟩) ?_ ?_ ?_; rotate_left; (·simp only [Act.put, pt_]; rfl)
              refine pu_ 25 50 40 67108863 ?_ HT_ rfl rfl (by kernel_rfl) (fun _ _ _ h => h) (Or.inl ⟨by rfl, ?_⟩) ?_ ?_ ?_; rotate_left; (·intro w'; go_simp; with_reducible rfl); rotate_left; (·simp only [Act.put, pt_]; rfl)
              refine pu_ 26 51 40 134217727 ?_ HT_ rfl rfl (by kernel_rfl) (fun _ _ _ h => h) (Or.inl ⟨by rfl, ?_⟩) ?_ ?_ ?_; rotate_left; (·intro w'; go_simp; with_reducible rfl); rotate_left; (·simp only [Act.put, pt_]; rfl)
              refine pu_ 27 52 40 268435455 undef HT_ rfl rfl (by kernel_rfl) (fun _ _ _ h => h) (Or.inr ⟨by rfl, rfl⟩) ?_ ?_ ?_; rotate_left; (·simp only [Act.put, pt_]; rfl)
              refine pu_ 28 53 40 536870911 undef HT_ rfl rfl (by kernel_rfl) (fun _ _ _ h => h) (Or.inr ⟨by rfl, rfl⟩) ?_ ?_ ?_; rotate_left; (·simp only [Act.put, pt_]; rfl)
              refine pu_ 29 54 40 1073741823 undef HT_ rfl rfl (by kernel_rfl) (fun _ _ _ h => h) (Or.inr ⟨by rfl, rfl⟩) ?_ ?_ ?_; rotate_left; (·simp only [Act.put, pt_]; rfl)
              refine pu_ 30 55 40 2147483647 undef HT_ rfl rfl (by kernel_rfl) (fun _ _ _ h => h) (Or.inr ⟨by rfl, rfl⟩) ?_ ?_ ?_; rotate_left; (·simp only [Act.put, pt_]; rfl)
              refine pu_ 31 56 40 4294967295 undef HT_ rfl rfl (by kernel_rfl) (fun _ _ _ h => h) (Or.inr ⟨by rfl, rfl⟩) ?_ ?_ ?_; rotate_left; (·simp only [Act.put, pt_]; rfl)
              refine pu_ 32 57 40 8589934591 undef HT_ rfl rfl (by kernel_rfl) (fun _ _ _ h => h) (Or.inr ⟨by rfl, rfl⟩) ?_ ?_ ?_; rotate_left; (·simp only [Act.put, pt_]; rfl)
              refine pu_ 33 58 40 17179869183 undef HT_ rfl rfl (by kernel_rfl) (fun _ _ _ h => h) (Or.inr ⟨by rfl, rfl⟩) ?_ ?_ ?_; rotate_left; (·simp only [Act.put, pt_]; rfl)
              refine pu_ 34 59 40 34359738367 undef HT_ rfl rfl (by kernel_rfl) (fun _ _ _ h => h) (Or.inr ⟨by rfl, rfl⟩) ?_ ?_ ?_; rotate_left; (·simp only [Act.put, pt_]; rfl)
              refine pu_ 35 60 40 68719476735 undef HT_ rfl rfl (by kernel_rfl) (fun _ _ _ h => h) (Or.inr ⟨by rfl, rfl⟩) ?_ ?_ ?_; rotate_left; (·simp only [Act.put, pt_]; rfl)
              refine pu_ 36 61 40 137438953471 undef HT_ rfl rfl (by kernel_rfl) (fun _ _ _ h => h) (Or.inr ⟨by rfl, rfl⟩) ?_ ?_ ?_; rotate_left; (·simp only [Act.put, pt_]; rfl)
              refine pu_ 37 62 40 274877906943 undef HT_ rfl rfl (by kernel_rfl) (fun _ _ _ h => h) (Or.inr ⟨by rfl, rfl⟩) ?_ ?_ ?_; rotate_left; (·simp only [Act.put, pt_]; rfl)
              refine pu_ 38 63 40 549755813887 undef HT_ rfl rfl (by kernel_rfl) (fun _ _ _ h => h) (Or.inr ⟨by rfl, rfl⟩) ?_ ?_ ?_; rotate_left; (·simp only [Act.put, pt_]; rfl)
              refine pu_ 39 64 40 1099511627775 ?_ HT_ rfl rfl (by kernel_rfl) (fun _ _ _ h => h) (Or.inl ⟨by rfl, ?_⟩) ?_ ?_ ?_; rotate_left; (·intro w'; go_simp; with_reducible rfl); rotate_left; (·simp only [Act.put, pt_]; rfl)
              refine done_ (done_of HT_.out (by kernel_rfl)) ?_
              try go_wp2
              go_meet
              case rel => exact ⟨_, (true), (by first | rfl | (simp; done) | (simp [*]; done)), H', ⟨by have := HJ2.out; have := HK2.out; first | omega | exact Nat.le_refl _⟩, ⟨by (with_reducible repeat (first | refine blk_drewN ?_ _ | refine blk_drew ?_ | refine blk_alloc ?_ _)); exact BK161.out⟩, ⟨by (with_reducible repeat (first | refine blk_drewN ?_ _ | refine blk_drew ?_ | refine blk_alloc ?_ _)); exact BK164.out⟩, ⟨by repeat (first | (with_reducible first | exact HB.out | apply below_alloc | apply pw_below_drewN | apply below_drew1 | refine below_set ?_ GE161.out | refine below_set ?_ GE164.out) | exact HB.out)⟩⟩
             ·rw [if_neg c24] at H
              have c24b0 : decide (((rd_T42 l1 x5_2).f0) ≤ ((rd_T42 l1 (ji21)).f0)) = false := decide_eq_false c24
              clear c24
              replace H := Option.bind_eq_some_iff.mp H
              obtain ⟨t167, A270, H⟩ := H
              replace H : (if t167 = true then (if ((rd_T42 l1 x5_2).f2) = (-1) then (spec_RobotsOk.j2 k2 l1 x5_2 false a0_0 a0_1 a0_2 ((rd_T42 l1 x5_2).f0) ((rd_T42 l1 x5_2).f1) ((rd_T42 l1 x5_2).f2) ((rd_T42 l1 x5_2).f3)) else ((spec_Beside.f k2 a0_0 a0_1 a0_2 ((rd_T42 l1 x5_2).f1) ((rd_T42 l1 x5_2).f2)).bind fun t168 => (spec_RobotsOk.j2 k2 l1 x5_2 (!t168) a0_0 a0_1 a0_2 ((rd_T42 l1 x5_2).f0) ((rd_T42 l1 x5_2).f1) ((rd_T42 l1 x5_2).f2) ((rd_T42 l1 x5_2).f3)))) else (spec_RobotsOk.j2 k2 l1 x5_2 true a0_0 a0_1 a0_2 ((rd_T42 l1 x5_2).f0) ((rd_T42 l1 x5_2).f1) ((rd_T42 l1 x5_2).f2) ((rd_T42 l1 x5_2).f3))) = some r := H
              have A27 := Aside0.mk A270
              clear A270
              by_cases c28 : t167 = true
              ·subst c28
               have H1 : (if ((rd_T42 l1 x5_2).f2) = (-1) then (spec_RobotsOk.j2 k2 l1 x5_2 false a0_0 a0_1 a0_2 ((rd_T42 l1 x5_2).f0) ((rd_T42 l1 x5_2).f1) ((rd_T42 l1 x5_2).f2) ((rd_T42 l1 x5_2).f3)) else ((spec_Beside.f k2 a0_0 a0_1 a0_2 ((rd_T42 l1 x5_2).f1) ((rd_T42 l1 x5_2).f2)).bind fun t168 => (spec_RobotsOk.j2 k2 l1 x5_2 (!t168) a0_0 a0_1 a0_2 ((rd_T42 l1 x5_2).f0) ((rd_T42 l1 x5_2).f1) ((rd_T42 l1 x5_2).f2) ((rd_T42 l1 x5_2).f3)))) = some r := by rw [if_pos rfl] at H; exact H
               clear H
               have H := H1
               clear H1
               by_cases c29 : ((rd_T42 l1 x5_2).f2) = (-1)
               ·rw [if_pos c29] at H
                have c29b0 : (((rd_T42 l1 x5_2).f2) == (-1)) = true := beq_iff_eq.mpr c29
                have c29b1 : (((rd_T42 l1 x5_2).f2) != (-1)) = false := bne_eq_false_iff_eq.mpr c29
                clear c29
                have H' := Aside0.mk H
                clear H
                try go_wp2
                have n0_ : Aside0 (((((w15.setCell ⟨gb164, 0, none⟩ (.int .i64 ((rd_T42 l1 x5_2).f0))).setCell ⟨gb164, 1, none⟩ (.int .i64 ((rd_T42 l1 x5_2).f1))).setCell ⟨gb164, 2, none⟩ (.int .i64 ((rd_T42 l1 x5_2).f2))).setCell ⟨gb164, 3, none⟩ (.bool ((rd_T42 l1 x5_2).f3))).heap[gb161]? = some (.cells #[.int .i64 a0_0, .int .i64 a0_1, .string a0_2] 38 (0, 0))) := ⟨by (with_reducible repeat (first | refine blk_drewN ?_ _ | refine blk_drew ?_ | refine blk_alloc ?_ _)); refine blk_far ?_ NB161_164.out _; (with_reducible repeat (first | refine blk_drewN ?_ _ | refine blk_drew ?_ | refine blk_alloc ?_ _)); refine blk_far ?_ NB161_164.out _; (with_reducible repeat (first | refine blk_drewN ?_ _ | refine blk_drew ?_ | refine blk_alloc ?_ _)); refine blk_far ?_ NB161_164.out _; (with_reducible repeat (first | refine blk_drewN ?_ _ | refine blk_drew ?_ | refine blk_alloc ?_ _)); refine blk_far ?_ NB161_164.out _; (with_reducible repeat (first | refine blk_drewN ?_ _ | refine blk_drew ?_ | refine blk_alloc ?_ _)); exact BK161.out⟩
                have n1_ : Aside0 (((((w15.setCell ⟨gb164, 0, none⟩ (.int .i64 ((rd_T42 l1 x5_2).f0))).setCell ⟨gb164, 1, none⟩ (.int .i64 ((rd_T42 l1 x5_2).f1))).setCell ⟨gb164, 2, none⟩ (.int .i64 ((rd_T42 l1 x5_2).f2))).setCell ⟨gb164, 3, none⟩ (.bool ((rd_T42 l1 x5_2).f3))).heap[gb164]? = some (.cells #[.int .i64 ((rd_T42 l1 x5_2).f0), .int .i64 ((rd_T42 l1 x5_2).f1), .int .i64 ((rd_T42 l1 x5_2).f2), .bool ((rd_T42 l1 x5_2).f3)] 42 (0, 0))) := ⟨by (with_reducible repeat (first | refine blk_drewN ?_ _ | refine blk_drew ?_ | refine blk_alloc ?_ _)); refine blk_put (cs := #[.int .i64 ((rd_T42 l1 x5_2).f0), .int .i64 ((rd_T42 l1 x5_2).f1), .int .i64 ((rd_T42 l1 x5_2).f2), .bool false]) ?_ 3 _ rfl; (with_reducible repeat (first | refine blk_drewN ?_ _ | refine blk_drew ?_ | refine blk_alloc ?_ _)); refine blk_put (cs := #[.int .i64 ((rd_T42 l1 x5_2).f0), .int .i64 ((rd_T42 l1 x5_2).f1), .int .i64 0, .bool false]) ?_ 2 _ rfl; (with_reducible repeat (first | refine blk_drewN ?_ _ | refine blk_drew ?_ | refine blk_alloc ?_ _)); refine blk_put (cs := #[.int .i64 ((rd_T42 l1 x5_2).f0), .int .i64 0, .int .i64 0, .bool false]) ?_ 1 _ rfl; (with_reducible repeat (first | refine blk_drewN ?_ _ | refine blk_drew ?_ | refine blk_alloc ?_ _)); refine blk_put (cs := #[.int .i64 0, .int .i64 0, .int .i64 0, .bool false]) ?_ 0 _ rfl; (with_reducible repeat (first | refine blk_drewN ?_ _ | refine blk_drew ?_ | refine blk_alloc ?_ _)); exact BK164.out⟩
                have n2_ : Aside0 (Below w.heap.size w ((((w15.setCell ⟨gb164, 0, none⟩ (.int .i64 ((rd_T42 l1 x5_2).f0))).setCell ⟨gb164, 1, none⟩ (.int .i64 ((rd_T42 l1 x5_2).f1))).setCell ⟨gb164, 2, none⟩ (.int .i64 ((rd_T42 l1 x5_2).f2))).setCell ⟨gb164, 3, none⟩ (.bool ((rd_T42 l1 x5_2).f3)))) := ⟨by repeat (first | (with_reducible first | exact HB.out | apply below_alloc | apply pw_below_drewN | apply below_drew1 | refine below_set ?_ GE161.out | refine below_set ?_ GE164.out) | exact HB.out)⟩
                (try clear BK161)
                (try clear BK164)
                (try clear HB)
                generalize ((((w15.setCell ⟨gb164, 0, none⟩ (.int .i64 ((rd_T42 l1 x5_2).f0))).setCell ⟨gb164, 1, none⟩ (.int .i64 ((rd_T42 l1 x5_2).f1))).setCell ⟨gb164, 2, none⟩ (.int .i64 ((rd_T42 l1 x5_2).f2))).setCell ⟨gb164, 3, none⟩ (.bool ((rd_T42 l1 x5_2).f3))) = w30 at n0_ n1_ n2_ ⊢
                have BK161 := n0_
                have BK164 := n1_
                have HB := n2_
                clear n0_ n1_ n2_
                have n0_ := Aside0.mk (blk_drew BK161.out)
                have n1_ := Aside0.mk (blk_drew BK164.out)
                have n2_ := Aside0.mk (below_drew1 HB.out)
                clear BK161
                clear BK164
                clear HB
                have BK161 := n0_
                have BK164 := n1_
                have HB := n2_
                clear n0_ n1_ n2_
                have p166 : 0 ≤ ((ji21) : Int) := of_decide_eq_true (by first | (with_reducible assumption) | assumption)
                have q166 : (ji21) < (l1.length : Int) := of_decide_eq_true (by first | (with_reducible assumption) | assumption)
                obtain ⟨ad166, e166, hx166_0, hx166_1, hx166_2, hx166_3⟩ := at_T42 HR1.out (ji21) p166 q166
                have hw166_3 := hx166_3
                have hw166_2 := hx166_2
                have hw166_1 := hx166_1
                have hw166_0 := hx166_0
                obtain rfl : ad163 = ad166 := (by injection e166)
                replace hx166_0 := (HB.out.cell (World.block_lt_of_cell? w _ hx166_0)).trans hx166_0
                replace hx166_1 := (HB.out.cell (World.block_lt_of_cell? w _ hx166_1)).trans hx166_1
                replace hx166_2 := (HB.out.cell (World.block_lt_of_cell? w _ hx166_2)).trans hx166_2
                replace hx166_3 := (HB.out.cell (World.block_lt_of_cell? w _ hx166_3)).trans hx166_3
                replace p166 := eq_true p166
                replace q166 := eq_true q166
                refine start_ (n := 40) (S := fun w' => w'.cell? ⟨gb164, 0, none⟩ = some (.int .i64 ((rd_T42 l1 x5_2).f0)) ∧ w'.cell? ⟨gb164, 1, none⟩ = some (.int .i64 ((rd_T42 l1 x5_2).f1)) ∧ w'.cell? ⟨gb164, 2, none⟩ = some (.int .i64 ((rd_T42 l1 x5_2).f2)) ∧ w'.cell? ⟨gb164, 3, none⟩ = some (.bool ((rd_T42 l1 x5_2).f3)) ∧ w'.cell? ⟨gb161, 0, none⟩ = some (.int .i64 a0_0) ∧ w'.cell? ⟨gb161, 1, none⟩ = some (.int .i64 a0_1) ∧ w'.cell? ⟨gb161, 2, none⟩ = some (.string a0_2) ∧ w'.cell? (ad163.add (((ji21)).toNat * 4)) = some (.int .i64 ((rd_T42 l1 (ji21)).f0)) ∧ w'.cell? ⟨(ad163.add (((ji21)).toNat * 4)).block, (ad163.add (((ji21)).toNat * 4)).off + 1, none⟩ = some (.int .i64 ((rd_T42 l1 (ji21)).f1)) ∧ w'.cell? ⟨(ad163.add (((ji21)).toNat * 4)).block, (ad163.add (((ji21)).toNat * 4)).off + 2, none⟩ = some (.int .i64 ((rd_T42 l1 (ji21)).f2)) ∧ w'.cell? ⟨(ad163.add (((ji21)).toNat * 4)).block, (ad163.add (((ji21)).toNat * 4)).off + 3, none⟩ = some (.bool ((rd_T42 l1 (ji21)).f3))) (ds := []) #[false, false, false, false, false, false, false, false, false, false, false, false, false, false, false, false, false, false, false, false, false, false, false, false, false, false, false, false, false, false, false, false, false, false, false, false, false, false, false, false] (by kernel_rfl) rfl rfl ⟨(blk_cell BK164.out 0).trans rfl, (blk_cell BK164.out 1).trans rfl, (blk_cell BK164.out 2).trans rfl, (blk_cell BK164.out 3).trans rfl, (blk_cell BK161.out 0).trans rfl, (blk_cell BK161.out 1).trans rfl, (blk_cell BK161.out 2).trans rfl, ((HB.out.cell (World.block_lt_of_cell? w _ hw166_0)).trans hw166_0), ((HB.out.cell (World.block_lt_of_cell? w _ hw166_1)).trans hw166_1), ((HB.out.cell (World.block_lt_of_cell? w _ hw166_2)).trans hw166_2), ((HB.out.cell (World.block_lt_of_cell? w _ hw166_3)).trans hw166_3)⟩ (fun hHeld => ?_); refine with_tabW spec_RobotsOk.tab7 spec_RobotsOk.bits7 (fun HT_ HW_ => ?_)
                generalize w30.drew = w31 at BK161 BK164 HB hx166_0 hx166_1 hx166_2 hx166_3 hHeld ⊢
                refine pu_ 0 25 40 1 ?_ HT_ rfl rfl (by kernel_rfl) (fun _ _ _ h => h) (Or.inl ⟨by rfl, ?_⟩) ?_ ?_ ?_; rotate_left; (·intro w'; go_simp; with_reducible rfl); rotate_left; (·simp only [Act.put, pt_]; rfl)
                refine tk_ 1 26 40 3 ?_ HT_ HW_ rfl rfl (by kernel_rfl) (fun _ _ _ h => h) (Or.inl ⟨by rfl, ?_⟩) hHeld ?_ ?_ ?_; rotate_left; (·rintro w' ⟨s0, s1, s2, s3, s4, s5, s6, s7, s8, s9, s10⟩; go_simp; with_reducible rfl); rotate_left; (·simp only [Act.put, pt_]; rfl)
                refine one_ (i := 2) (N := some 27) (bs_ 40 7) rfl rfl (one_of HT_.out (by kernel_rfl)) (by decide) (fun K hK => ?_)
                refine goes_ Try.func33 (by kernel_rfl) rfl #[.int .i64 ((rd_T42 l1 x5_2).f0), .int .i64 0, .int .i64 99] (by rfl) rfl rfl (by (try simp only [List.map_toArray, List.map_cons, List.map_nil]); first | done | rfl | (simp only [List.length_drop, List.length_take]; rfl)) ?_
                with_reducible refine (spec_l01In.calls ((rd_T42 l1 x5_2).f0) 0 99 true _ A18.out).mono ?_
                rintro e w' ⟨rfl, ⟨nd, rfl⟩⟩
                refine ⟨_, rfl, ?_⟩
                refine hK.out _ _ ⟨(blk_cell BK164.out 0).trans rfl, (blk_cell BK164.out 1).trans rfl, (blk_cell BK164.out 2).trans rfl, (blk_cell BK164.out 3).trans rfl, (blk_cell BK161.out 0).trans rfl, (blk_cell BK161.out 1).trans rfl, (blk_cell BK161.out 2).trans rfl, ((HB.out.cell (World.block_lt_of_cell? w _ hw166_0)).trans hw166_0), ((HB.out.cell (World.block_lt_of_cell? w _ hw166_1)).trans hw166_1), ((HB.out.cell (World.block_lt_of_cell? w _ hw166_2)).trans hw166_2), ((HB.out.cell (World.block_lt_of_cell? w _ hw166_3)).trans hw166_3)⟩ (fun hHeld => ?_)
                clear hK K
                refine norm_ (a' := ?_) ?_ ?_
                rotate_left
                ·show Act.put _ (some 27) _ = _
                 simp only [Act.put, pt_]
                 rfl
                refine pu_ 3 28 40 15 ?_ HT_ rfl rfl (by kernel_rfl) (fun _ _ _ h => h) (Or.inl ⟨by rfl, ?_⟩) ?_ ?_ ?_; rotate_left; (·intro w'; go_simp; with_reducible rfl); rotate_left; (·simp only [Act.put, pt_]; rfl)
                refine pu_ 4 29 40 31 ?_ HT_ rfl rfl (by kernel_rfl) (fun _ _ _ h => h) (Or.inl ⟨by rfl, ?_⟩) ?_ ?_ ?_; rotate_left; (·intro w'; go_simp; with_reducible rfl); rotate_left; (·simp only [Act.put, pt_]; rfl)
                refine pu_ 5 30 40 63 ?_ HT_ rfl rfl (by kernel_rfl) (fun _ _ _ h => h) (Or.inl ⟨by rfl, ?_⟩) ?_ ?_ ?_; rotate_left; (·intro w'; go_simp; with_reducible rfl); rotate_left; (·simp only [Act.put, pt_]; rfl)
                refine pu_ 6 31 40 127 ?_ HT_ rfl rfl (by kernel_rfl) (fun _ _ _ h => h) (Or.inl ⟨by rfl, ?_⟩) ?_ ?_ ?_; rotate_left; (·intro w'; go_simp; with_reducible rfl); rotate_left; (·simp only [Act.put, pt_]; rfl)
                refine pu_ 7 32 40 255 ?_ HT_ rfl rfl (by kernel_rfl) (fun _ _ _ h => h) (Or.inl ⟨by rfl, ?_⟩) ?_ ?_ ?_; rotate_left; (·intro w'; go_simp; with_reducible rfl); rotate_left; (·simp only [Act.put, pt_]; rfl)
                refine pu_ 8 33 40 511 ?_ HT_ rfl rfl (by kernel_rfl) (fun _ _ _ h => h) (Or.inl ⟨by rfl, ?_⟩) ?_ ?_ ?_; rotate_left; (·intro w'; go_simp; with_reducible rfl); rotate_left; (·simp only [Act.put, pt_]; rfl)
                refine pu_ 9 34 40 1023 ?_ HT_ rfl rfl (by kernel_rfl) (fun _ _ _ h => h) (Or.inl ⟨by rfl, ?_⟩) ?_ ?_ ?_; rotate_left; (·intro w'; go_simp; with_reducible rfl); rotate_left; (·simp only [Act.put, pt_]; rfl)
                refine pu_ 10 35 40 2047 ?_ HT_ rfl rfl (by kernel_rfl) (fun _ _ _ h => h) (Or.inl ⟨by rfl, ?_⟩) ?_ ?_ ?_; rotate_left; (·intro w'; go_simp; with_reducible rfl); rotate_left; (·simp only [Act.put, pt_]; rfl)
                refine pu_ 11 36 40 4095 ?_ HT_ rfl rfl (by kernel_rfl) (fun _ _ _ h => h) (Or.inl ⟨by rfl, ?_⟩) ?_ ?_ ?_; rotate_left; (·intro w'; go_simp; with_reducible rfl); rotate_left; (·simp only [Act.put, pt_]; rfl)
                refine pu_ 12 37 40 8191 ?_ HT_ rfl rfl (by kernel_rfl) (fun _ _ _ h => h) (Or.inl ⟨by rfl, ?_⟩) ?_ ?_ ?_; rotate_left; (·intro w'; go_simp; with_reducible rfl); rotate_left; (·simp only [Act.put, pt_]; rfl)
                refine pu_ 14 39 40 24575 ?_ HT_ rfl rfl (by kernel_rfl) (fun _ _ _ h => h) (Or.inl ⟨by rfl, ?_⟩) ?_ ?_ ?_; rotate_left; (·intro w'; go_simp; with_reducible rfl); rotate_left; (·simp only [Act.put, pt_]; rfl)
                refine tk_ 13 38 40 32767 ?_ HT_ HW_ rfl rfl (by kernel_rfl) (fun _ _ _ h => h) (Or.inl ⟨by rfl, ?_⟩) hHeld ?_ ?_ ?_; rotate_left; (·rintro w' ⟨s0, s1, s2, s3, s4, s5, s6, s7, s8, s9, s10⟩; go_simp; with_reducible rfl); rotate_left; (·simp only [Act.put, pt_]; rfl)
                refine tk_ 15 40 40 65535 ?_ HT_ HW_ rfl rfl (by kernel_rfl) (fun _ _ _ h => h) (Or.inl ⟨by rfl, ?_⟩) hHeld ?_ ?_ ?_; rotate_left; (·rintro w' ⟨s0, s1, s2, s3, s4, s5, s6, s7, s8, s9, s10⟩; go_simp; with_reducible rfl); rotate_left; (·simp only [Act.put, pt_]; rfl)
                refine pu_ 16 41 40 131071 ?_ HT_ rfl rfl (by kernel_rfl) (fun _ _ _ h => h) (Or.inl ⟨by rfl, ?_⟩) ?_ ?_ ?_; rotate_left; (·intro w'; go_simp; with_reducible rfl); rotate_left; (·simp only [Act.put, pt_]; rfl)
                refine pu_ 17 42 40 262143 ?_ HT_ rfl rfl (by kernel_rfl) (fun _ _ _ h => h) (Or.inl ⟨by rfl, ?_⟩) ?_ ?_ ?_; rotate_left; (·intro w'; go_simp; with_reducible rfl); rotate_left; (·simp only [Act.put, pt_]; rfl)
                refine pu_ 18 43 40 524287 ?_ HT_ rfl rfl (by kernel_rfl) (fun _ _ _ h => h) (Or.inl ⟨by rfl, ?_⟩) ?_ ?_ ?_; rotate_left; (·intro w'; go_simp; with_reducible rfl); rotate_left; (·simp only [Act.put, pt_]; rfl)
                refine pu_ 19 44 40 1048575 ?_ HT_ rfl rfl (by kernel_rfl) (fun _ _ _ h => h) (Or.inl ⟨by rfl, ?_⟩) ?_ ?_ ?_; rotate_left; (·intro w'; go_simp; with_reducible rfl); rotate_left; (·simp only [Act.put, pt_]; rfl)
                refine pu_ 21 46 40 3145727 ?_ HT_ rfl rfl (by kernel_rfl) (fun _ _ _ h => h) (Or.inl ⟨by rfl, ?_⟩) ?_ ?_ ?_; rotate_left; (·intro w'; go_simp; with_reducible rfl); rotate_left; (·simp only [Act.put, pt_]; rfl)
                refine tk_ 20 45 40 4194303 ?_ HT_ HW_ rfl rfl (by kernel_rfl) (fun _ _ _ h => h) (Or.inl ⟨by rfl, ?_⟩) hHeld ?_ ?_ ?_; rotate_left; (·rintro w' ⟨s0, s1, s2, s3, s4, s5, s6, s7, s8, s9, s10⟩; go_simp; with_reducible rfl); rotate_left; (·simp only [Act.put, pt_]; rfl)
                refine tk_ 22 47 40 8388607 ?_ HT_ HW_ rfl rfl (by kernel_rfl) (fun _ _ _ h => h) (Or.inl ⟨by rfl, ?_⟩) hHeld ?_ ?_ ?_; rotate_left; (·rintro w' ⟨s0, s1, s2, s3, s4, s5, s6, s7, s8, s9, s10⟩; go_simp; with_reducible rfl); rotate_left; (·simp only [Act.put, pt_]; rfl)
                refine one_ (i := 23) (N := some 48) (bs_ 40 16777215) rfl rfl (one_of HT_.out (by kernel_rfl)) (by decide) (fun K hK => ?_)
                refine goes_ Try.func34 (by kernel_rfl) rfl #[.agg #[.int .i64 a0_0, .int .i64 a0_1, .string a0_2], .int .i64 ((rd_T42 l1 x5_2).f1)] (by rfl) rfl rfl (by (try simp only [List.map_toArray, List.map_cons, List.map_nil]); first | done | rfl | (simp only [List.length_drop, List.length_take]; rfl)) ?_
                with_reducible refine (spec_FreeAt.calls k2 a0_0 a0_1 a0_2 ((rd_T42 l1 x5_2).f1) true _ A27.out).mono ?_
                rintro e w32 ⟨rfl, hb⟩
                refine ⟨_, rfl, ?_⟩
                have n0_ := Aside0.mk (blk_below (g := gb161) (o := .cells #[.int .i64 a0_0, .int .i64 a0_1, .string a0_2] 38 (0, 0)) (by (with_reducible repeat (first | refine blk_drewN ?_ _ | refine blk_drew ?_ | refine blk_alloc ?_ _)); exact BK161.out) hb)
                have n1_ := Aside0.mk (blk_below (g := gb164) (o := .cells #[.int .i64 ((rd_T42 l1 x5_2).f0), .int .i64 ((rd_T42 l1 x5_2).f1), .int .i64 ((rd_T42 l1 x5_2).f2), .bool ((rd_T42 l1 x5_2).f3)] 42 (0, 0)) (by (with_reducible repeat (first | refine blk_drewN ?_ _ | refine blk_drew ?_ | refine blk_alloc ?_ _)); exact BK164.out) hb)
                have n2_ := Aside0.mk (below_step (by repeat (first | (with_reducible first | exact HB.out | apply below_alloc | apply pw_below_drewN | apply below_drew1 | refine below_set ?_ GE161.out | refine below_set ?_ GE164.out) | exact HB.out)) hb)
                clear BK161
                clear BK164
                clear HB
                have BK161 := n0_
                have BK164 := n1_
                have HB := n2_
                clear n0_ n1_ n2_
                (try clear hb)
                (try clear hb2)
                (try clear hk)
                (try clear hi)
                refine hK.out _ _ ⟨(blk_cell BK164.out 0).trans rfl, (blk_cell BK164.out 1).trans rfl, (blk_cell BK164.out 2).trans rfl, (blk_cell BK164.out 3).trans rfl, (blk_cell BK161.out 0).trans rfl, (blk_cell BK161.out 1).trans rfl, (blk_cell BK161.out 2).trans rfl, ((HB.out.cell (World.block_lt_of_cell? w _ hw166_0)).trans hw166_0), ((HB.out.cell (World.block_lt_of_cell? w _ hw166_1)).trans hw166_1), ((HB.out.cell (World.block_lt_of_cell? w _ hw166_2)).trans hw166_2), ((HB.out.cell (World.block_lt_of_cell? w _ hw166_3)).trans hw166_3)⟩ (fun hHeld => ?_)
                clear hK K
                refine norm_ (a' := ?_) ?_ ?_
                rotate_left
                ·show Act.put _ (some 48) _ = _
                 simp only [Act.put, pt_]
                 rfl
                refine pu_ 24 49 40 33554431 ?_ HT_ rfl rfl (by kernel_rfl) (fun _ _ _ h => h) (Or.inl ⟨by rfl, ?_⟩) ?_ ?_ ?_; rotate_left; (·intro w'; go_simp; with_reducible rfl); rotate_left; (·simp only [Act.put, pt_]; rfl)
                refine pu_ 25 50 40 67108863 ?_ HT_ rfl rfl (by kernel_rfl) (fun _ _ _ h => h) (Or.inl ⟨by rfl, ?_⟩) ?_ ?_ ?_; rotate_left; (·intro w'; go_simp; with_reducible rfl); rotate_left; (·simp only [Act.put, pt_]; rfl)
                refine pu_ 26 51 40 134217727 ?_ HT_ rfl rfl (by kernel_rfl) (fun _ _ _ h => h) (Or.inl ⟨by rfl, ?_⟩) ?_ ?_ ?_; rotate_left; (·intro w'; go_simp; with_reducible rfl); rotate_left; (·simp only [Act.put, pt_]; rfl)
                refine pu_ 27 52 40 268435455 ?_ HT_ rfl rfl (by kernel_rfl) (fun _ _ _ h => h) (Or.inl ⟨by rfl, ?_⟩) ?_ ?_ ?_; rotate_left; (·intro w'; go_simp; with_reducible rfl); rotate_left; (·simp only [Act.put, pt_]; rfl)
                refine tk_ 28 53 40 536870911 ?_ HT_ HW_ rfl rfl (by kernel_rfl) (fun _ _ _ h => h) (Or.inl ⟨by rfl, ?_⟩) hHeld ?_ ?_ ?_; rotate_left; (·rintro w' ⟨s0, s1, s2, s3, s4, s5, s6, s7, s8, s9, s10⟩; go_simp; with_reducible rfl); rotate_left; (·simp only [Act.put, pt_]; rfl)
                refine pu_ 29 54 40 1073741823 ?_ HT_ rfl rfl (by kernel_rfl) (fun _ _ _ h => h) (Or.inl ⟨by rfl, ?_⟩) ?_ ?_ ?_; rotate_left; (·intro w'; go_simp; with_reducible rfl); rotate_left; (·simp only [Act.put, pt_]; rfl)
                refine pu_ 30 55 40 2147483647 ?_ HT_ rfl rfl (by kernel_rfl) (fun _ _ _ h => h) (Or.inl ⟨by rfl, ?_⟩) ?_ ?_ ?_; rotate_left; (·intro w'; go_simp; with_reducible rfl); rotate_left; (·simp only [Act.put, pt_]; rfl)
                refine pu_ 31 56 40 4294967295 undef HT_ rfl rfl (by kernel_rfl) (fun _ _ _ h => h) (Or.inr ⟨by rfl, rfl⟩) ?_ ?_ ?_; rotate_left; (·simp only [Act.put, pt_]; rfl)
                refine pu_ 32 57 40 8589934591 undef HT_ rfl rfl (by kernel_rfl) (fun _ _ _ h => h) (Or.inr ⟨by rfl, rfl⟩) ?_ ?_ ?_; rotate_left; (·simp only [Act.put, pt_]; rfl)
                refine pu_ 33 58 40 17179869183 undef HT_ rfl rfl (by kernel_rfl) (fun _ _ _ h => h) (Or.inr ⟨by rfl, rfl⟩) ?_ ?_ ?_; rotate_left; (·simp only [Act.put, pt_]; rfl)
                refine pu_ 34 59 40 34359738367 undef HT_ rfl rfl (by kernel_rfl) (fun _ _ _ h => h) (Or.inr ⟨by rfl, rfl⟩) ?_ ?_ ?_; rotate_left; (·simp only [Act.put, pt_]; rfl)
                refine pu_ 35 60 40 68719476735 undef HT_ rfl rfl (by kernel_rfl) (fun _ _ _ h => h) (Or.inr ⟨by rfl, rfl⟩) ?_ ?_ ?_; rotate_left; (·simp only [Act.put, pt_]; rfl)
                refine pu_ 36 61 40 137438953471 undef HT_ rfl rfl (by kernel_rfl) (fun _ _ _ h => h) (Or.inr ⟨by rfl, rfl⟩) ?_ ?_ ?_; rotate_left; (·simp only [Act.put, pt_]; rfl)
                refine pu_ 37 62 40 274877906943 undef HT_ rfl rfl (by kernel_rfl) (fun _ _ _ h => h) (Or.inr ⟨by rfl, rfl⟩) ?_ ?_ ?_; rotate_left; (·simp only [Act.put, pt_]; rfl)
                refine pu_ 38 63 40 549755813887 ?_ HT_ rfl rfl (by kernel_rfl) (fun _ _ _ h => h) (Or.inl ⟨by rfl, ?_⟩) ?_ ?_ ?_; rotate_left; (·intro w'; go_simp; with_reducible rfl); rotate_left; (·simp only [Act.put, pt_]; rfl)
                refine pu_ 39 64 40 1099511627775 ?_ HT_ rfl rfl (by kernel_rfl) (fun _ _ _ h => h) (Or.inl ⟨by rfl, ?_⟩) ?_ ?_ ?_; rotate_left; (·intro w'; go_simp; with_reducible rfl); rotate_left; (·simp only [Act.put, pt_]; rfl)
                refine done_ (done_of HT_.out (by kernel_rfl)) ?_
                try go_wp2
                go_meet
                case rel => exact ⟨_, (false), (by first | rfl | (simp; done) | (simp [*]; done)), H', ⟨by have := HJ2.out; have := HK2.out; first | omega | exact Nat.le_refl _⟩, ⟨by (with_reducible repeat (first | refine blk_drewN ?_ _ | refine blk_drew ?_ | refine blk_alloc ?_ _)); exact BK161.out⟩, ⟨by (with_reducible repeat (first | refine blk_drewN ?_ _ | refine blk_drew ?_ | refine blk_alloc ?_ _)); exact BK164.out⟩, ⟨by repeat (first | (with_reducible first | exact HB.out | apply below_alloc | apply pw_below_drewN | apply below_drew1 | refine below_set ?_ GE161.out | refine below_set ?_ GE164.out) | exact HB.out)⟩⟩
               ·rw [if_neg c29] at H
                have c29b0 : (((rd_T42 l1 x5_2).f2) == (-1)) = false := beq_eq_false_iff_ne.mpr c29
                have c29b1 : (((rd_T42 l1 x5_2).f2) != (-1)) = true := bne_iff_ne.mpr c29
                replace H := Option.bind_eq_some_iff.mp H
                obtain ⟨t168, A330, H⟩ := H
                replace H : (spec_RobotsOk.j2 k2 l1 x5_2 (!t168) a0_0 a0_1 a0_2 ((rd_T42 l1 x5_2).f0) ((rd_T42 l1 x5_2).f1) ((rd_T42 l1 x5_2).f2) ((rd_T42 l1 x5_2).f3)) = some r := H
                have A33 := Aside0.mk A330
                clear A330
                have H' := Aside0.mk H
                clear H
                try go_wp2
                have n0_ : Aside0 (((((w15.setCell ⟨gb164, 0, none⟩ (.int .i64 ((rd_T42 l1 x5_2).f0))).setCell ⟨gb164, 1, none⟩ (.int .i64 ((rd_T42 l1 x5_2).f1))).setCell ⟨gb164, 2, none⟩ (.int .i64 ((rd_T42 l1 x5_2).f2))).setCell ⟨gb164, 3, none⟩ (.bool ((rd_T42 l1 x5_2).f3))).heap[gb161]? = some (.cells #[.int .i64 a0_0, .int .i64 a0_1, .string a0_2] 38 (0, 0))) := ⟨by (with_reducible repeat (first | refine blk_drewN ?_ _ | refine blk_drew ?_ | refine blk_alloc ?_ _)); refine blk_far ?_ NB161_164.out _; (with_reducible repeat (first | refine blk_drewN ?_ _ | refine blk_drew ?_ | refine blk_alloc ?_ _)); refine blk_far ?_ NB161_164.out _; (with_reducible repeat (first | refine blk_drewN ?_ _ | refine blk_drew ?_ | refine blk_alloc ?_ _)); refine blk_far ?_ NB161_164.out _; (with_reducible repeat (first | refine blk_drewN ?_ _ | refine blk_drew ?_ | refine blk_alloc ?_ _)); refine blk_far ?_ NB161_164.out _; (with_reducible repeat (first | refine blk_drewN ?_ _ | refine blk_drew ?_ | refine blk_alloc ?_ _)); exact BK161.out⟩
                have n1_ : Aside0 (((((w15.setCell ⟨gb164, 0, none⟩ (.int .i64 ((rd_T42 l1 x5_2).f0))).setCell ⟨gb164, 1, none⟩ (.int .i64 ((rd_T42 l1 x5_2).f1))).setCell ⟨gb164, 2, none⟩ (.int .i64 ((rd_T42 l1 x5_2).f2))).setCell ⟨gb164, 3, none⟩ (.bool ((rd_T42 l1 x5_2).f3))).heap[gb164]? = some (.cells #[.int .i64 ((rd_T42 l1 x5_2).f0), .int .i64 ((rd_T42 l1 x5_2).f1), .int .i64 ((rd_T42 l1 x5_2).f2), .bool ((rd_T42 l1 x5_2).f3)] 42 (0, 0))) := ⟨by (with_reducible repeat (first | refine blk_drewN ?_ _ | refine blk_drew ?_ | refine blk_alloc ?_ _)); refine blk_put (cs := #[.int .i64 ((rd_T42 l1 x5_2).f0), .int .i64 ((rd_T42 l1 x5_2).f1), .int .i64 ((rd_T42 l1 x5_2).f2), .bool false]) ?_ 3 _ rfl; (with_reducible repeat (first | refine blk_drewN ?_ _ | refine blk_drew ?_ | refine blk_alloc ?_ _)); refine blk_put (cs := #[.int .i64 ((rd_T42 l1 x5_2).f0), .int .i64 ((rd_T42 l1 x5_2).f1), .int .i64 0, .bool false]) ?_ 2 _ rfl; (with_reducible repeat (first | refine blk_drewN ?_ _ | refine blk_drew ?_ | refine blk_alloc ?_ _)); refine blk_put (cs := #[.int .i64 ((rd_T42 l1 x5_2).f0), .int .i64 0, .int .i64 0, .bool false]) ?_ 1 _ rfl; (with_reducible repeat (first | refine blk_drewN ?_ _ | refine blk_drew ?_ | refine blk_alloc ?_ _)); refine blk_put (cs := #[.int .i64 0, .int .i64 0, .int .i64 0, .bool false]) ?_ 0 _ rfl; (with_reducible repeat (first | refine blk_drewN ?_ _ | refine blk_drew ?_ | refine blk_alloc ?_ _)); exact BK164.out⟩
                have n2_ : Aside0 (Below w.heap.size w ((((w15.setCell ⟨gb164, 0, none⟩ (.int .i64 ((rd_T42 l1 x5_2).f0))).setCell ⟨gb164, 1, none⟩ (.int .i64 ((rd_T42 l1 x5_2).f1))).setCell ⟨gb164, 2, none⟩ (.int .i64 ((rd_T42 l1 x5_2).f2))).setCell ⟨gb164, 3, none⟩ (.bool ((rd_T42 l1 x5_2).f3)))) := ⟨by repeat (first | (with_reducible first | exact HB.out | apply below_alloc | apply pw_below_drewN | apply below_drew1 | refine below_set ?_ GE161.out | refine below_set ?_ GE164.out) | exact HB.out)⟩
                (try clear BK161)
                (try clear BK164)
                (try clear HB)
                generalize ((((w15.setCell ⟨gb164, 0, none⟩ (.int .i64 ((rd_T42 l1 x5_2).f0))).setCell ⟨gb164, 1, none⟩ (.int .i64 ((rd_T42 l1 x5_2).f1))).setCell ⟨gb164, 2, none⟩ (.int .i64 ((rd_T42 l1 x5_2).f2))).setCell ⟨gb164, 3, none⟩ (.bool ((rd_T42 l1 x5_2).f3))) = w34 at n0_ n1_ n2_ ⊢
                have BK161 := n0_
                have BK164 := n1_
                have HB := n2_
                clear n0_ n1_ n2_
                have n0_ := Aside0.mk (blk_drew BK161.out)
                have n1_ := Aside0.mk (blk_drew BK164.out)
                have n2_ := Aside0.mk (below_drew1 HB.out)
                clear BK161
                clear BK164
                clear HB
                have BK161 := n0_
                have BK164 := n1_
                have HB := n2_
                clear n0_ n1_ n2_
                have p166 : 0 ≤ ((ji21) : Int) := of_decide_eq_true (by first | (with_reducible assumption) | assumption)
                have q166 : (ji21) < (l1.length : Int) := of_decide_eq_true (by first | (with_reducible assumption) | assumption)
                obtain ⟨ad166, e166, hx166_0, hx166_1, hx166_2, hx166_3⟩ := at_T42 HR1.out (ji21) p166 q166
                have hw166_3 := hx166_3
                have hw166_2 := hx166_2
                have hw166_1 := hx166_1
                have hw166_0 := hx166_0
                obtain rfl : ad163 = ad166 := (by injection e166)
                replace hx166_0 := (HB.out.cell (World.block_lt_of_cell? w _ hx166_0)).trans hx166_0
                replace hx166_1 := (HB.out.cell (World.block_lt_of_cell? w _ hx166_1)).trans hx166_1
                replace hx166_2 := (HB.out.cell (World.block_lt_of_cell? w _ hx166_2)).trans hx166_2
                replace hx166_3 := (HB.out.cell (World.block_lt_of_cell? w _ hx166_3)).trans hx166_3
                replace p166 := eq_true p166
                replace q166 := eq_true q166
                refine start_ (n := 40) (S := fun w' => w'.cell? ⟨gb164, 0, none⟩ = some (.int .i64 ((rd_T42 l1 x5_2).f0)) ∧ w'.cell? ⟨gb164, 1, none⟩ = some (.int .i64 ((rd_T42 l1 x5_2).f1)) ∧ w'.cell? ⟨gb164, 2, none⟩ = some (.int .i64 ((rd_T42 l1 x5_2).f2)) ∧ w'.cell? ⟨gb164, 3, none⟩ = some (.bool ((rd_T42 l1 x5_2).f3)) ∧ w'.cell? ⟨gb161, 0, none⟩ = some (.int .i64 a0_0) ∧ w'.cell? ⟨gb161, 1, none⟩ = some (.int .i64 a0_1) ∧ w'.cell? ⟨gb161, 2, none⟩ = some (.string a0_2) ∧ w'.cell? (ad163.add (((ji21)).toNat * 4)) = some (.int .i64 ((rd_T42 l1 (ji21)).f0)) ∧ w'.cell? ⟨(ad163.add (((ji21)).toNat * 4)).block, (ad163.add (((ji21)).toNat * 4)).off + 1, none⟩ = some (.int .i64 ((rd_T42 l1 (ji21)).f1)) ∧ w'.cell? ⟨(ad163.add (((ji21)).toNat * 4)).block, (ad163.add (((ji21)).toNat * 4)).off + 2, none⟩ = some (.int .i64 ((rd_T42 l1 (ji21)).f2)) ∧ w'.cell? ⟨(ad163.add (((ji21)).toNat * 4)).block, (ad163.add (((ji21)).toNat * 4)).off + 3, none⟩ = some (.bool ((rd_T42 l1 (ji21)).f3))) (ds := []) #[false, false, false, false, false, false, false, false, false, false, false, false, false, false, false, false, false, false, false, false, false, false, false, false, false, false, false, false, false, false, false, false, false, false, false, false, false, false, false, false] (by kernel_rfl) rfl rfl ⟨(blk_cell BK164.out 0).trans rfl, (blk_cell BK164.out 1).trans rfl, (blk_cell BK164.out 2).trans rfl, (blk_cell BK164.out 3).trans rfl, (blk_cell BK161.out 0).trans rfl, (blk_cell BK161.out 1).trans rfl, (blk_cell BK161.out 2).trans rfl, ((HB.out.cell (World.block_lt_of_cell? w _ hw166_0)).trans hw166_0), ((HB.out.cell (World.block_lt_of_cell? w _ hw166_1)).trans hw166_1), ((HB.out.cell (World.block_lt_of_cell? w _ hw166_2)).trans hw166_2), ((HB.out.cell (World.block_lt_of_cell? w _ hw166_3)).trans hw166_3)⟩ (fun hHeld => ?_); refine with_tabW spec_RobotsOk.tab7 spec_RobotsOk.bits7 (fun HT_ HW_ => ?_)
                generalize w34.drew = w35 at BK161 BK164 HB hx166_0 hx166_1 hx166_2 hx166_3 hHeld ⊢
                refine pu_ 0 25 40 1 ?_ HT_ rfl rfl (by kernel_rfl) (fun _ _ _ h => h) (Or.inl ⟨by rfl, ?_⟩) ?_ ?_ ?_; rotate_left; (·intro w'; go_simp; with_reducible rfl); rotate_left; (·simp only [Act.put, pt_]; rfl)
                refine tk_ 1 26 40 3 ?_ HT_ HW_ rfl rfl (by kernel_rfl) (fun _ _ _ h => h) (Or.inl ⟨by rfl, ?_⟩) hHeld ?_ ?_ ?_; rotate_left; (·rintro w' ⟨s0, s1, s2, s3, s4, s5, s6, s7, s8, s9, s10⟩; go_simp; with_reducible rfl); rotate_left; (·simp only [Act.put, pt_]; rfl)
                refine one_ (i := 2) (N := some 27) (bs_ 40 7) rfl rfl (one_of HT_.out (by kernel_rfl)) (by decide) (fun K hK => ?_)
                refine goes_ Try.func33 (by kernel_rfl) rfl #[.int .i64 ((rd_T42 l1 x5_2).f0), .int .i64 0, .int .i64 99] (by rfl) rfl rfl (by (try simp only [List.map_toArray, List.map_cons, List.map_nil]); first | done | rfl | (simp only [List.length_drop, List.length_take]; rfl)) ?_
                with_reducible refine (spec_l01In.calls ((rd_T42 l1 x5_2).f0) 0 99 true _ A18.out).mono ?_
                rintro e w' ⟨rfl, ⟨nd, rfl⟩⟩
                refine ⟨_, rfl, ?_⟩
                refine hK.out _ _ ⟨(blk_cell BK164.out 0).trans rfl, (blk_cell BK164.out 1).trans rfl, (blk_cell BK164.out 2).trans rfl, (blk_cell BK164.out 3).trans rfl, (blk_cell BK161.out 0).trans rfl, (blk_cell BK161.out 1).trans rfl, (blk_cell BK161.out 2).trans rfl, ((HB.out.cell (World.block_lt_of_cell? w _ hw166_0)).trans hw166_0), ((HB.out.cell (World.block_lt_of_cell? w _ hw166_1)).trans hw166_1), ((HB.out.cell (World.block_lt_of_cell? w _ hw166_2)).trans hw166_2), ((HB.out.cell (World.block_lt_of_cell? w _ hw166_3)).trans hw166_3)⟩ (fun hHeld => ?_)
                clear hK K
                refine norm_ (a' := ?_) ?_ ?_
                rotate_left
                ·show Act.put _ (some 27) _ = _
                 simp only [Act.put, pt_]
                 rfl
                refine pu_ 3 28 40 15 ?_ HT_ rfl rfl (by kernel_rfl) (fun _ _ _ h => h) (Or.inl ⟨by rfl, ?_⟩) ?_ ?_ ?_; rotate_left; (·intro w'; go_simp; with_reducible rfl); rotate_left; (·simp only [Act.put, pt_]; rfl)
                refine pu_ 4 29 40 31 ?_ HT_ rfl rfl (by kernel_rfl) (fun _ _ _ h => h) (Or.inl ⟨by rfl, ?_⟩) ?_ ?_ ?_; rotate_left; (·intro w'; go_simp; with_reducible rfl); rotate_left; (·simp only [Act.put, pt_]; rfl)
                refine pu_ 5 30 40 63 ?_ HT_ rfl rfl (by kernel_rfl) (fun _ _ _ h => h) (Or.inl ⟨by rfl, ?_⟩) ?_ ?_ ?_; rotate_left; (·intro w'; go_simp; with_reducible rfl); rotate_left; (·simp only [Act.put, pt_]; rfl)
                refine pu_ 6 31 40 127 ?_ HT_ rfl rfl (by kernel_rfl) (fun _ _ _ h => h) (Or.inl ⟨by rfl, ?_⟩) ?_ ?_ ?_; rotate_left; (·intro w'; go_simp; with_reducible rfl); rotate_left; (·simp only [Act.put, pt_]; rfl)
                refine pu_ 7 32 40 255 ?_ HT_ rfl rfl (by kernel_rfl) (fun _ _ _ h => h) (Or.inl ⟨by rfl, ?_⟩) ?_ ?_ ?_; rotate_left; (·intro w'; go_simp; with_reducible rfl); rotate_left; (·simp only [Act.put, pt_]; rfl)
                refine pu_ 8 33 40 511 ?_ HT_ rfl rfl (by kernel_rfl) (fun _ _ _ h => h) (Or.inl ⟨by rfl, ?_⟩) ?_ ?_ ?_; rotate_left; (·intro w'; go_simp; with_reducible rfl); rotate_left; (·simp only [Act.put, pt_]; rfl)
                refine pu_ 9 34 40 1023 ?_ HT_ rfl rfl (by kernel_rfl) (fun _ _ _ h => h) (Or.inl ⟨by rfl, ?_⟩) ?_ ?_ ?_; rotate_left; (·intro w'; go_simp; with_reducible rfl); rotate_left; (·simp only [Act.put, pt_]; rfl)
                refine pu_ 10 35 40 2047 ?_ HT_ rfl rfl (by kernel_rfl) (fun _ _ _ h => h) (Or.inl ⟨by rfl, ?_⟩) ?_ ?_ ?_; rotate_left; (·intro w'; go_simp; with_reducible rfl); rotate_left; (·simp only [Act.put, pt_]; rfl)
                refine pu_ 11 36 40 4095 ?_ HT_ rfl rfl (by kernel_rfl) (fun _ _ _ h => h) (Or.inl ⟨by rfl, ?_⟩) ?_ ?_ ?_; rotate_left; (·intro w'; go_simp; with_reducible rfl); rotate_left; (·simp only [Act.put, pt_]; rfl)
                refine pu_ 12 37 40 8191 ?_ HT_ rfl rfl (by kernel_rfl) (fun _ _ _ h => h) (Or.inl ⟨by rfl, ?_⟩) ?_ ?_ ?_; rotate_left; (·intro w'; go_simp; with_reducible rfl); rotate_left; (·simp only [Act.put, pt_]; rfl)
                refine pu_ 14 39 40 24575 ?_ HT_ rfl rfl (by kernel_rfl) (fun _ _ _ h => h) (Or.inl ⟨by rfl, ?_⟩) ?_ ?_ ?_; rotate_left; (·intro w'; go_simp; with_reducible rfl); rotate_left; (·simp only [Act.put, pt_]; rfl)
                refine tk_ 13 38 40 32767 ?_ HT_ HW_ rfl rfl (by kernel_rfl) (fun _ _ _ h => h) (Or.inl ⟨by rfl, ?_⟩) hHeld ?_ ?_ ?_; rotate_left; (·rintro w' ⟨s0, s1, s2, s3, s4, s5, s6, s7, s8, s9, s10⟩; go_simp; with_reducible rfl); rotate_left; (·simp only [Act.put, pt_]; rfl)
                refine tk_ 15 40 40 65535 ?_ HT_ HW_ rfl rfl (by kernel_rfl) (fun _ _ _ h => h) (Or.inl ⟨by rfl, ?_⟩) hHeld ?_ ?_ ?_; rotate_left; (·rintro w' ⟨s0, s1, s2, s3, s4, s5, s6, s7, s8, s9, s10⟩; go_simp; with_reducible rfl); rotate_left; (·simp only [Act.put, pt_]; rfl)
                refine pu_ 16 41 40 131071 ?_ HT_ rfl rfl (by kernel_rfl) (fun _ _ _ h => h) (Or.inl ⟨by rfl, ?_⟩) ?_ ?_ ?_; rotate_left; (·intro w'; go_simp; with_reducible rfl); rotate_left; (·simp only [Act.put, pt_]; rfl)
                refine pu_ 17 42 40 262143 ?_ HT_ rfl rfl (by kernel_rfl) (fun _ _ _ h => h) (Or.inl ⟨by rfl, ?_⟩) ?_ ?_ ?_; rotate_left; (·intro w'; go_simp; with_reducible rfl); rotate_left; (·simp only [Act.put, pt_]; rfl)
                refine pu_ 18 43 40 524287 ?_ HT_ rfl rfl (by kernel_rfl) (fun _ _ _ h => h) (Or.inl ⟨by rfl, ?_⟩) ?_ ?_ ?_; rotate_left; (·intro w'; go_simp; with_reducible rfl); rotate_left; (·simp only [Act.put, pt_]; rfl)
                refine pu_ 19 44 40 1048575 ?_ HT_ rfl rfl (by kernel_rfl) (fun _ _ _ h => h) (Or.inl ⟨by rfl, ?_⟩) ?_ ?_ ?_; rotate_left; (·intro w'; go_simp; with_reducible rfl); rotate_left; (·simp only [Act.put, pt_]; rfl)
                refine pu_ 21 46 40 3145727 ?_ HT_ rfl rfl (by kernel_rfl) (fun _ _ _ h => h) (Or.inl ⟨by rfl, ?_⟩) ?_ ?_ ?_; rotate_left; (·intro w'; go_simp; with_reducible rfl); rotate_left; (·simp only [Act.put, pt_]; rfl)
                refine tk_ 20 45 40 4194303 ?_ HT_ HW_ rfl rfl (by kernel_rfl) (fun _ _ _ h => h) (Or.inl ⟨by rfl, ?_⟩) hHeld ?_ ?_ ?_; rotate_left; (·rintro w' ⟨s0, s1, s2, s3, s4, s5, s6, s7, s8, s9, s10⟩; go_simp; with_reducible rfl); rotate_left; (·simp only [Act.put, pt_]; rfl)
                refine tk_ 22 47 40 8388607 ?_ HT_ HW_ rfl rfl (by kernel_rfl) (fun _ _ _ h => h) (Or.inl ⟨by rfl, ?_⟩) hHeld ?_ ?_ ?_; rotate_left; (·rintro w' ⟨s0, s1, s2, s3, s4, s5, s6, s7, s8, s9, s10⟩; go_simp; with_reducible rfl); rotate_left; (·simp only [Act.put, pt_]; rfl)
                refine one_ (i := 23) (N := some 48) (bs_ 40 16777215) rfl rfl (one_of HT_.out (by kernel_rfl)) (by decide) (fun K hK => ?_)
                refine goes_ Try.func34 (by kernel_rfl) rfl #[.agg #[.int .i64 a0_0, .int .i64 a0_1, .string a0_2], .int .i64 ((rd_T42 l1 x5_2).f1)] (by rfl) rfl rfl (by (try simp only [List.map_toArray, List.map_cons, List.map_nil]); first | done | rfl | (simp only [List.length_drop, List.length_take]; rfl)) ?_
                with_reducible refine (spec_FreeAt.calls k2 a0_0 a0_1 a0_2 ((rd_T42 l1 x5_2).f1) true _ A27.out).mono ?_
                rintro e w36 ⟨rfl, hb⟩
                refine ⟨_, rfl, ?_⟩
                have n0_ := Aside0.mk (blk_below (g := gb161) (o := .cells #[.int .i64 a0_0, .int .i64 a0_1, .string a0_2] 38 (0, 0)) (by (with_reducible repeat (first | refine blk_drewN ?_ _ | refine blk_drew ?_ | refine blk_alloc ?_ _)); exact BK161.out) hb)
                have n1_ := Aside0.mk (blk_below (g := gb164) (o := .cells #[.int .i64 ((rd_T42 l1 x5_2).f0), .int .i64 ((rd_T42 l1 x5_2).f1), .int .i64 ((rd_T42 l1 x5_2).f2), .bool ((rd_T42 l1 x5_2).f3)] 42 (0, 0)) (by (with_reducible repeat (first | refine blk_drewN ?_ _ | refine blk_drew ?_ | refine blk_alloc ?_ _)); exact BK164.out) hb)
                have n2_ := Aside0.mk (below_step (by repeat (first | (with_reducible first | exact HB.out | apply below_alloc | apply pw_below_drewN | apply below_drew1 | refine below_set ?_ GE161.out | refine below_set ?_ GE164.out) | exact HB.out)) hb)
                clear BK161
                clear BK164
                clear HB
                have BK161 := n0_
                have BK164 := n1_
                have HB := n2_
                clear n0_ n1_ n2_
                (try clear hb)
                (try clear hb2)
                (try clear hk)
                (try clear hi)
                refine hK.out _ _ ⟨(blk_cell BK164.out 0).trans rfl, (blk_cell BK164.out 1).trans rfl, (blk_cell BK164.out 2).trans rfl, (blk_cell BK164.out 3).trans rfl, (blk_cell BK161.out 0).trans rfl, (blk_cell BK161.out 1).trans rfl, (blk_cell BK161.out 2).trans rfl, ((HB.out.cell (World.block_lt_of_cell? w _ hw166_0)).trans hw166_0), ((HB.out.cell (World.block_lt_of_cell? w _ hw166_1)).trans hw166_1), ((HB.out.cell (World.block_lt_of_cell? w _ hw166_2)).trans hw166_2), ((HB.out.cell (World.block_lt_of_cell? w _ hw166_3)).trans hw166_3)⟩ (fun hHeld => ?_)
                clear hK K
                refine norm_ (a' := ?_) ?_ ?_
                rotate_left
                ·show Act.put _ (some 48) _ = _
                 simp only [Act.put, pt_]
                 rfl
                refine pu_ 24 49 40 33554431 ?_ HT_ rfl rfl (by kernel_rfl) (fun _ _ _ h => h) (Or.inl ⟨by rfl, ?_⟩) ?_ ?_ ?_; rotate_left; (·intro w'; go_simp; with_reducible rfl); rotate_left; (·simp only [Act.put, pt_]; rfl)
                refine pu_ 25 50 40 67108863 ?_ HT_ rfl rfl (by kernel_rfl) (fun _ _ _ h => h) (Or.inl ⟨by rfl, ?_⟩) ?_ ?_ ?_; rotate_left; (·intro w'; go_simp; with_reducible rfl); rotate_left; (·simp only [Act.put, pt_]; rfl)
                refine pu_ 26 51 40 134217727 ?_ HT_ rfl rfl (by kernel_rfl) (fun _ _ _ h => h) (Or.inl ⟨by rfl, ?_⟩) ?_ ?_ ?_; rotate_left; (·intro w'; go_simp; with_reducible rfl); rotate_left; (·simp only [Act.put, pt_]; rfl)
                refine pu_ 27 52 40 268435455 ?_ HT_ rfl rfl (by kernel_rfl) (fun _ _ _ h => h) (Or.inl ⟨by rfl, ?_⟩) ?_ ?_ ?_; rotate_left; (·intro w'; go_simp; with_reducible rfl); rotate_left; (·simp only [Act.put, pt_]; rfl)
                refine tk_ 28 53 40 536870911 ?_ HT_ HW_ rfl rfl (by kernel_rfl) (fun _ _ _ h => h) (Or.inl ⟨by rfl, ?_⟩) hHeld ?_ ?_ ?_; rotate_left; (·rintro w' ⟨s0, s1, s2, s3, s4, s5, s6, s7, s8, s9, s10⟩; go_simp; with_reducible rfl); rotate_left; (·simp only [Act.put, pt_]; rfl)
                refine pu_ 29 54 40 1073741823 ?_ HT_ rfl rfl (by kernel_rfl) (fun _ _ _ h => h) (Or.inl ⟨by rfl, ?_⟩) ?_ ?_ ?_; rotate_left; (·intro w'; go_simp; with_reducible rfl); rotate_left; (·simp only [Act.put, pt_]; rfl)
                refine pu_ 30 55 40 2147483647 ?_ HT_ rfl rfl (by kernel_rfl) (fun _ _ _ h => h) (Or.inl ⟨by rfl, ?_⟩) ?_ ?_ ?_; rotate_left; (·intro w'; go_simp; with_reducible rfl); rotate_left; (·simp only [Act.put, pt_]; rfl)
                refine pu_ 32 57 40 6442450943 ?_ HT_ rfl rfl (by kernel_rfl) (fun _ _ _ h => h) (Or.inl ⟨by rfl, ?_⟩) ?_ ?_ ?_; rotate_left; (·intro w'; go_simp; with_reducible rfl); rotate_left; (·simp only [Act.put, pt_]; rfl)
                refine pu_ 34 59 40 23622320127 ?_ HT_ rfl rfl (by kernel_rfl) (fun _ _ _ h => h) (Or.inl ⟨by rfl, ?_⟩) ?_ ?_ ?_; rotate_left; (·intro w'; go_simp; with_reducible rfl); rotate_left; (·simp only [Act.put, pt_]; rfl)
                refine tk_ 31 56 40 25769803775 ?_ HT_ HW_ rfl rfl (by kernel_rfl) (fun _ _ _ h => h) (Or.inl ⟨by rfl, ?_⟩) hHeld ?_ ?_ ?_; rotate_left; (·rintro w' ⟨s0, s1, s2, s3, s4, s5, s6, s7, s8, s9, s10⟩; go_simp; with_reducible rfl); rotate_left; (·simp only [Act.put, pt_]; rfl)
                refine tk_ 33 58 40 34359738367 ?_ HT_ HW_ rfl rfl (by kernel_rfl) (fun _ _ _ h => h) (Or.inl ⟨by rfl, ?_⟩) hHeld ?_ ?_ ?_; rotate_left; (·rintro w' ⟨s0, s1, s2, s3, s4, s5, s6, s7, s8, s9, s10⟩; go_simp; with_reducible rfl); rotate_left; (·simp only [Act.put, pt_]; rfl)
                refine tk_ 35 60 40 68719476735 ?_ HT_ HW_ rfl rfl (by kernel_rfl) (fun _ _ _ h => h) (Or.inl ⟨by rfl, ?_⟩) hHeld ?_ ?_ ?_; rotate_left; (·rintro w' ⟨s0, s1, s2, s3, s4, s5, s6, s7, s8, s9, s10⟩; go_simp; with_reducible rfl); rotate_left; (·simp only [Act.put, pt_]; rfl)
                refine one_ (i := 36) (N := some 61) (bs_ 40 137438953471) rfl rfl (one_of HT_.out (by kernel_rfl)) (by decide) (fun K hK => ?_)
                refine goes_ Try.func35 (by kernel_rfl) rfl #[.agg #[.int .i64 a0_0, .int .i64 a0_1, .string a0_2], .int .i64 ((rd_T42 l1 x5_2).f1), .int .i64 ((rd_T42 l1 x5_2).f2)] (by rfl) rfl rfl (by (try simp only [List.map_toArray, List.map_cons, List.map_nil]); first | done | rfl | (simp only [List.length_drop, List.length_take]; rfl)) ?_
                with_reducible refine (spec_Beside.calls k2 a0_0 a0_1 a0_2 ((rd_T42 l1 x5_2).f1) ((rd_T42 l1 x5_2).f2) t168 _ A33.out).mono ?_
                rintro e w37 ⟨rfl, hb⟩
                refine ⟨_, rfl, ?_⟩
                have n0_ := Aside0.mk (blk_below (g := gb161) (o := .cells #[.int .i64 a0_0, .int .i64 a0_1, .string a0_2] 38 (0, 0)) (by (with_reducible repeat (first | refine blk_drewN ?_ _ | refine blk_drew ?_ | refine blk_alloc ?_ _)); exact BK161.out) hb)
                have n1_ := Aside0.mk (blk_below (g := gb164) (o := .cells #[.int .i64 ((rd_T42 l1 x5_2).f0), .int .i64 ((rd_T42 l1 x5_2).f1), .int .i64 ((rd_T42 l1 x5_2).f2), .bool ((rd_T42 l1 x5_2).f3)] 42 (0, 0)) (by (with_reducible repeat (first | refine blk_drewN ?_ _ | refine blk_drew ?_ | refine blk_alloc ?_ _)); exact BK164.out) hb)
                have n2_ := Aside0.mk (below_step (by repeat (first | (with_reducible first | exact HB.out | apply below_alloc | apply pw_below_drewN | apply below_drew1 | refine below_set ?_ GE161.out | refine below_set ?_ GE164.out) | exact HB.out)) hb)
                clear BK161
                clear BK164
                clear HB
                have BK161 := n0_
                have BK164 := n1_
                have HB := n2_
                clear n0_ n1_ n2_
                (try clear hb)
                (try clear hb2)
                (try clear hk)
                (try clear hi)
                refine hK.out _ _ ⟨(blk_cell BK164.out 0).trans rfl, (blk_cell BK164.out 1).trans rfl, (blk_cell BK164.out 2).trans rfl, (blk_cell BK164.out 3).trans rfl, (blk_cell BK161.out 0).trans rfl, (blk_cell BK161.out 1).trans rfl, (blk_cell BK161.out 2).trans rfl, ((HB.out.cell (World.block_lt_of_cell? w _ hw166_0)).trans hw166_0), ((HB.out.cell (World.block_lt_of_cell? w _ hw166_1)).trans hw166_1), ((HB.out.cell (World.block_lt_of_cell? w _ hw166_2)).trans hw166_2), ((HB.out.cell (World.block_lt_of_cell? w _ hw166_3)).trans hw166_3)⟩ (fun hHeld => ?_)
                clear hK K
                refine norm_ (a' := ?_) ?_ ?_
                rotate_left
                ·show Act.put _ (some 61) _ = _
                 simp only [Act.put, pt_]
                 rfl
                refine pu_ 37 62 40 274877906943 ?_ HT_ rfl rfl (by kernel_rfl) (fun _ _ _ h => h) (Or.inl ⟨by rfl, ?_⟩) ?_ ?_ ?_; rotate_left; (·intro w'; go_simp; with_reducible rfl); rotate_left; (·simp only [Act.put, pt_]; rfl)
                refine pu_ 38 63 40 549755813887 ?_ HT_ rfl rfl (by kernel_rfl) (fun _ _ _ h => h) (Or.inl ⟨by rfl, ?_⟩) ?_ ?_ ?_; rotate_left; (·intro w'; go_simp; with_reducible rfl); rotate_left; (·simp only [Act.put, pt_]; rfl)
                refine pu_ 39 64 40 1099511627775 ?_ HT_ rfl rfl (by kernel_rfl) (fun _ _ _ h => h) (Or.inl ⟨by rfl, ?_⟩) ?_ ?_ ?_; rotate_left; (·intro w'; go_simp; with_reducible rfl); rotate_left; (·simp only [Act.put, pt_]; rfl)
                refine done_ (done_of HT_.out (by kernel_rfl)) ?_
                try go_wp2
                go_meet
                case rel => exact ⟨_, (!t168), (by first | rfl | (simp; done) | (simp [*]; done)), H', ⟨by have := HJ2.out; have := HK2.out; first | omega | exact Nat.le_refl _⟩, ⟨by (with_reducible repeat (first | refine blk_drewN ?_ _ | refine blk_drew ?_ | refine blk_alloc ?_ _)); exact BK161.out⟩, ⟨by (with_reducible repeat (first | refine blk_drewN ?_ _ | refine blk_drew ?_ | refine blk_alloc ?_ _)); exact BK164.out⟩, ⟨by repeat (first | (with_reducible first | exact HB.out | apply below_alloc | apply pw_below_drewN | apply below_drew1 | refine below_set ?_ GE161.out | refine below_set ?_ GE164.out) | exact HB.out)⟩⟩
              ·replace c28 := Bool.eq_false_iff.mpr c28
               subst c28
               have H1 : (spec_RobotsOk.j2 k2 l1 x5_2 true a0_0 a0_1 a0_2 ((rd_T42 l1 x5_2).f0) ((rd_T42 l1 x5_2).f1) ((rd_T42 l1 x5_2).f2) ((rd_T42 l1 x5_2).f3)) = some r := by rw [if_neg (show ¬ (false = true) by decide)] at H; exact H
               clear H
               have H := H1
               clear H1
               have H' := Aside0.mk H
               clear H
               try go_wp2
               have n0_ : Aside0 (((((w15.setCell ⟨gb164, 0, none⟩ (.int .i64 ((rd_T42 l1 x5_2).f0))).setCell ⟨gb164, 1, none⟩ (.int .i64 ((rd_T42 l1 x5_2).f1))).setCell ⟨gb164, 2, none⟩ (.int .i64 ((rd_T42 l1 x5_2).f2))).setCell ⟨gb164, 3, none⟩ (.bool ((rd_T42 l1 x5_2).f3))).heap[gb161]? = some (.cells #[.int .i64 a0_0, .int .i64 a0_1, .string a0_2] 38 (0, 0))) := ⟨by (with_reducible repeat (first | refine blk_drewN ?_ _ | refine blk_drew ?_ | refine blk_alloc ?_ _)); refine blk_far ?_ NB161_164.out _; (with_reducible repeat (first | refine blk_drewN ?_ _ | refine blk_drew ?_ | refine blk_alloc ?_ _)); refine blk_far ?_ NB161_164.out _; (with_reducible repeat (first | refine blk_drewN ?_ _ | refine blk_drew ?_ | refine blk_alloc ?_ _)); refine blk_far ?_ NB161_164.out _; (with_reducible repeat (first | refine blk_drewN ?_ _ | refine blk_drew ?_ | refine blk_alloc ?_ _)); refine blk_far ?_ NB161_164.out _; (with_reducible repeat (first | refine blk_drewN ?_ _ | refine blk_drew ?_ | refine blk_alloc ?_ _)); exact BK161.out⟩
               have n1_ : Aside0 (((((w15.setCell ⟨gb164, 0, none⟩ (.int .i64 ((rd_T42 l1 x5_2).f0))).setCell ⟨gb164, 1, none⟩ (.int .i64 ((rd_T42 l1 x5_2).f1))).setCell ⟨gb164, 2, none⟩ (.int .i64 ((rd_T42 l1 x5_2).f2))).setCell ⟨gb164, 3, none⟩ (.bool ((rd_T42 l1 x5_2).f3))).heap[gb164]? = some (.cells #[.int .i64 ((rd_T42 l1 x5_2).f0), .int .i64 ((rd_T42 l1 x5_2).f1), .int .i64 ((rd_T42 l1 x5_2).f2), .bool ((rd_T42 l1 x5_2).f3)] 42 (0, 0))) := ⟨by (with_reducible repeat (first | refine blk_drewN ?_ _ | refine blk_drew ?_ | refine blk_alloc ?_ _)); refine blk_put (cs := #[.int .i64 ((rd_T42 l1 x5_2).f0), .int .i64 ((rd_T42 l1 x5_2).f1), .int .i64 ((rd_T42 l1 x5_2).f2), .bool false]) ?_ 3 _ rfl; (with_reducible repeat (first | refine blk_drewN ?_ _ | refine blk_drew ?_ | refine blk_alloc ?_ _)); refine blk_put (cs := #[.int .i64 ((rd_T42 l1 x5_2).f0), .int .i64 ((rd_T42 l1 x5_2).f1), .int .i64 0, .bool false]) ?_ 2 _ rfl; (with_reducible repeat (first | refine blk_drewN ?_ _ | refine blk_drew ?_ | refine blk_alloc ?_ _)); refine blk_put (cs := #[.int .i64 ((rd_T42 l1 x5_2).f0), .int .i64 0, .int .i64 0, .bool false]) ?_ 1 _ rfl; (with_reducible repeat (first | refine blk_drewN ?_ _ | refine blk_drew ?_ | refine blk_alloc ?_ _)); refine blk_put (cs := #[.int .i64 0, .int .i64 0, .int .i64 0, .bool false]) ?_ 0 _ rfl; (with_reducible repeat (first | refine blk_drewN ?_ _ | refine blk_drew ?_ | refine blk_alloc ?_ _)); exact BK164.out⟩
               have n2_ : Aside0 (Below w.heap.size w ((((w15.setCell ⟨gb164, 0, none⟩ (.int .i64 ((rd_T42 l1 x5_2).f0))).setCell ⟨gb164, 1, none⟩ (.int .i64 ((rd_T42 l1 x5_2).f1))).setCell ⟨gb164, 2, none⟩ (.int .i64 ((rd_T42 l1 x5_2).f2))).setCell ⟨gb164, 3, none⟩ (.bool ((rd_T42 l1 x5_2).f3)))) := ⟨by repeat (first | (with_reducible first | exact HB.out | apply below_alloc | apply pw_below_drewN | apply below_drew1 | refine below_set ?_ GE161.out | refine below_set ?_ GE164.out) | exact HB.out)⟩
               (try clear BK161)
               (try clear BK164)
               (try clear HB)
               generalize ((((w15.setCell ⟨gb164, 0, none⟩ (.int .i64 ((rd_T42 l1 x5_2).f0))).setCell ⟨gb164, 1, none⟩ (.int .i64 ((rd_T42 l1 x5_2).f1))).setCell ⟨gb164, 2, none⟩ (.int .i64 ((rd_T42 l1 x5_2).f2))).setCell ⟨gb164, 3, none⟩ (.bool ((rd_T42 l1 x5_2).f3))) = w38 at n0_ n1_ n2_ ⊢
               have BK161 := n0_
               have BK164 := n1_
               have HB := n2_
               clear n0_ n1_ n2_
               have n0_ := Aside0.mk (blk_drew BK161.out)
               have n1_ := Aside0.mk (blk_drew BK164.out)
               have n2_ := Aside0.mk (below_drew1 HB.out)
               clear BK161
               clear BK164
               clear HB
               have BK161 := n0_
               have BK164 := n1_
               have HB := n2_
               clear n0_ n1_ n2_
               have p166 : 0 ≤ ((ji21) : Int) := of_decide_eq_true (by first | (with_reducible assumption) | assumption)
               have q166 : (ji21) < (l1.length : Int) := of_decide_eq_true (by first | (with_reducible assumption) | assumption)
               obtain ⟨ad166, e166, hx166_0, hx166_1, hx166_2, hx166_3⟩ := at_T42 HR1.out (ji21) p166 q166
               have hw166_3 := hx166_3
               have hw166_2 := hx166_2
               have hw166_1 := hx166_1
               have hw166_0 := hx166_0
               obtain rfl : ad163 = ad166 := (by injection e166)
               replace hx166_0 := (HB.out.cell (World.block_lt_of_cell? w _ hx166_0)).trans hx166_0
               replace hx166_1 := (HB.out.cell (World.block_lt_of_cell? w _ hx166_1)).trans hx166_1
               replace hx166_2 := (HB.out.cell (World.block_lt_of_cell? w _ hx166_2)).trans hx166_2
               replace hx166_3 := (HB.out.cell (World.block_lt_of_cell? w _ hx166_3)).trans hx166_3
               replace p166 := eq_true p166
               replace q166 := eq_true q166
               refine start_ (n := 40) (S := fun w' => w'.cell? ⟨gb164, 0, none⟩ = some (.int .i64 ((rd_T42 l1 x5_2).f0)) ∧ w'.cell? ⟨gb164, 1, none⟩ = some (.int .i64 ((rd_T42 l1 x5_2).f1)) ∧ w'.cell? ⟨gb164, 2, none⟩ = some (.int .i64 ((rd_T42 l1 x5_2).f2)) ∧ w'.cell? ⟨gb164, 3, none⟩ = some (.bool ((rd_T42 l1 x5_2).f3)) ∧ w'.cell? ⟨gb161, 0, none⟩ = some (.int .i64 a0_0) ∧ w'.cell? ⟨gb161, 1, none⟩ = some (.int .i64 a0_1) ∧ w'.cell? ⟨gb161, 2, none⟩ = some (.string a0_2) ∧ w'.cell? (ad163.add (((ji21)).toNat * 4)) = some (.int .i64 ((rd_T42 l1 (ji21)).f0)) ∧ w'.cell? ⟨(ad163.add (((ji21)).toNat * 4)).block, (ad163.add (((ji21)).toNat * 4)).off + 1, none⟩ = some (.int .i64 ((rd_T42 l1 (ji21)).f1)) ∧ w'.cell? ⟨(ad163.add (((ji21)).toNat * 4)).block, (ad163.add (((ji21)).toNat * 4)).off + 2, none⟩ = some (.int .i64 ((rd_T42 l1 (ji21)).f2)) ∧ w'.cell? ⟨(ad163.add (((ji21)).toNat * 4)).block, (ad163.add (((ji21)).toNat * 4)).off + 3, none⟩ = some (.bool ((rd_T42 l1 (ji21)).f3))) (ds := []) #[false, false, false, false, false, false, false, false, false, false, false, false, false, false, false, false, false, false, false, false, false, false, false, false, false, false, false, false, false, false, false, false, false, false, false, false, false, false, false, false] (by kernel_rfl) rfl rfl ⟨(blk_cell BK164.out 0).trans rfl, (blk_cell BK164.out 1).trans rfl, (blk_cell BK164.out 2).trans rfl, (blk_cell BK164.out 3).trans rfl, (blk_cell BK161.out 0).trans rfl, (blk_cell BK161.out 1).trans rfl, (blk_cell BK161.out 2).trans rfl, ((HB.out.cell (World.block_lt_of_cell? w _ hw166_0)).trans hw166_0), ((HB.out.cell (World.block_lt_of_cell? w _ hw166_1)).trans hw166_1), ((HB.out.cell (World.block_lt_of_cell? w _ hw166_2)).trans hw166_2), ((HB.out.cell (World.block_lt_of_cell? w _ hw166_3)).trans hw166_3)⟩ (fun hHeld => ?_); refine with_tabW spec_RobotsOk.tab7 spec_RobotsOk.bits7 (fun HT_ HW_ => ?_)
               generalize w38.drew = w39 at BK161 BK164 HB hx166_0 hx166_1 hx166_2 hx166_3 hHeld ⊢
               refine pu_ 0 25 40 1 ?_ HT_ rfl rfl (by kernel_rfl) (fun _ _ _ h => h) (Or.inl ⟨by rfl, ?_⟩) ?_ ?_ ?_; rotate_left; (·intro w'; go_simp; with_reducible rfl); rotate_left; (·simp only [Act.put, pt_]; rfl)
               refine tk_ 1 26 40 3 ?_ HT_ HW_ rfl rfl (by kernel_rfl) (fun _ _ _ h => h) (Or.inl ⟨by rfl, ?_⟩) hHeld ?_ ?_ ?_; rotate_left; (·rintro w' ⟨s0, s1, s2, s3, s4, s5, s6, s7, s8, s9, s10⟩; go_simp; with_reducible rfl); rotate_left; (·simp only [Act.put, pt_]; rfl)
               refine one_ (i := 2) (N := some 27) (bs_ 40 7) rfl rfl (one_of HT_.out (by kernel_rfl)) (by decide) (fun K hK => ?_)
               refine goes_ Try.func33 (by kernel_rfl) rfl #[.int .i64 ((rd_T42 l1 x5_2).f0), .int .i64 0, .int .i64 99] (by rfl) rfl rfl (by (try simp only [List.map_toArray, List.map_cons, List.map_nil]); first | done | rfl | (simp only [List.length_drop, List.length_take]; rfl)) ?_
               with_reducible refine (spec_l01In.calls ((rd_T42 l1 x5_2).f0) 0 99 true _ A18.out).mono ?_
               rintro e w' ⟨rfl, ⟨nd, rfl⟩⟩
               refine ⟨_, rfl, ?_⟩
               refine hK.out _ _ ⟨(blk_cell BK164.out 0).trans rfl, (blk_cell BK164.out 1).trans rfl, (blk_cell BK164.out 2).trans rfl, (blk_cell BK164.out 3).trans rfl, (blk_cell BK161.out 0).trans rfl, (blk_cell BK161.out 1).trans rfl, (blk_cell BK161.out 2).trans rfl, ((HB.out.cell (World.block_lt_of_cell? w _ hw166_0)).trans hw166_0), ((HB.out.cell (World.block_lt_of_cell? w _ hw166_1)).trans hw166_1), ((HB.out.cell (World.block_lt_of_cell? w _ hw166_2)).trans hw166_2), ((HB.out.cell (World.block_lt_of_cell? w _ hw166_3)).trans hw166_3)⟩ (fun hHeld => ?_)
               clear hK K
               refine norm_ (a' := ?_) ?_ ?_
               rotate_left
               ·show Act.put _ (some 27) _ = _
                simp only [Act.put, pt_]
                rfl
               refine pu_ 3 28 40 15 ?_ HT_ rfl rfl (by kernel_rfl) (fun _ _ _ h => h) (Or.inl ⟨by rfl, ?_⟩) ?_ ?_ ?_; rotate_left; (·intro w'; go_simp; with_reducible rfl); rotate_left; (·simp only [Act.put, pt_]; rfl)
               refine pu_ 4 29 40 31 ?_ HT_ rfl rfl (by kernel_rfl) (fun _ _ _ h => h) (Or.inl ⟨by rfl, ?_⟩) ?_ ?_ ?_; rotate_left; (·intro w'; go_simp; with_reducible rfl); rotate_left; (·simp only [Act.put, pt_]; rfl)
               refine pu_ 5 30 40 63 ?_ HT_ rfl rfl (by kernel_rfl) (fun _ _ _ h => h) (Or.inl ⟨by rfl, ?_⟩) ?_ ?_ ?_; rotate_left; (·intro w'; go_simp; with_reducible rfl); rotate_left; (·simp only [Act.put, pt_]; rfl)
               refine pu_ 6 31 40 127 ?_ HT_ rfl rfl (by kernel_rfl) (fun _ _ _ h => h) (Or.inl ⟨by rfl, ?_⟩) ?_ ?_ ?_; rotate_left; (·intro w'; go_simp; with_reducible rfl); rotate_left; (·simp only [Act.put, pt_]; rfl)
               refine pu_ 7 32 40 255 ?_ HT_ rfl rfl (by kernel_rfl) (fun _ _ _ h => h) (Or.inl ⟨by rfl, ?_⟩) ?_ ?_ ?_; rotate_left; (·intro w'; go_simp; with_reducible rfl); rotate_left; (·simp only [Act.put, pt_]; rfl)
               refine pu_ 8 33 40 511 ?_ HT_ rfl rfl (by kernel_rfl) (fun _ _ _ h => h) (Or.inl ⟨by rfl, ?_⟩) ?_ ?_ ?_; rotate_left; (·intro w'; go_simp; with_reducible rfl); rotate_left; (·simp only [Act.put, pt_]; rfl)
               refine pu_ 9 34 40 1023 ?_ HT_ rfl rfl (by kernel_rfl) (fun _ _ _ h => h) (Or.inl ⟨by rfl, ?_⟩) ?_ ?_ ?_; rotate_left; (·intro w'; go_simp; with_reducible rfl); rotate_left; (·simp only [Act.put, pt_]; rfl)
               refine pu_ 10 35 40 2047 ?_ HT_ rfl rfl (by kernel_rfl) (fun _ _ _ h => h) (Or.inl ⟨by rfl, ?_⟩) ?_ ?_ ?_; rotate_left; (·intro w'; go_simp; with_reducible rfl); rotate_left; (·simp only [Act.put, pt_]; rfl)
               refine pu_ 11 36 40 4095 ?_ HT_ rfl rfl (by kernel_rfl) (fun _ _ _ h => h) (Or.inl ⟨by rfl, ?_⟩) ?_ ?_ ?_; rotate_left; (·intro w'; go_simp; with_reducible rfl); rotate_left; (·simp only [Act.put, pt_]; rfl)
               refine pu_ 12 37 40 8191 ?_ HT_ rfl rfl (by kernel_rfl) (fun _ _ _ h => h) (Or.inl ⟨by rfl, ?_⟩) ?_ ?_ ?_; rotate_left; (·intro w'; go_simp; with_reducible rfl); rotate_left; (·simp only [Act.put, pt_]; rfl)
               refine pu_ 14 39 40 24575 ?_ HT_ rfl rfl (by kernel_rfl) (fun _ _ _ h => h) (Or.inl ⟨by rfl, ?_⟩) ?_ ?_ ?_; rotate_left; (·intro w'; go_simp; with_reducible rfl); rotate_left; (·simp only [Act.put, pt_]; rfl)
               refine tk_ 13 38 40 32767 ?_ HT_ HW_ rfl rfl (by kernel_rfl) (fun _ _ _ h => h) (Or.inl ⟨by rfl, ?_⟩) hHeld ?_ ?_ ?_; rotate_left; (·rintro w' ⟨s0, s1, s2, s3, s4, s5, s6, s7, s8, s9, s10⟩; go_simp; with_reducible rfl); rotate_left; (·simp only [Act.put, pt_]; rfl)
               refine tk_ 15 40 40 65535 ?_ HT_ HW_ rfl rfl (by kernel_rfl) (fun _ _ _ h => h) (Or.inl ⟨by rfl, ?_⟩) hHeld ?_ ?_ ?_; rotate_left; (·rintro w' ⟨s0, s1, s2, s3, s4, s5, s6, s7, s8, s9, s10⟩; go_simp; with_reducible rfl); rotate_left; (·simp only [Act.put, pt_]; rfl)
               refine pu_ 16 41 40 131071 ?_ HT_ rfl rfl (by kernel_rfl) (fun _ _ _ h => h) (Or.inl ⟨by rfl, ?_⟩) ?_ ?_ ?_; rotate_left; (·intro w'; go_simp; with_reducible rfl); rotate_left; (·simp only [Act.put, pt_]; rfl)
               refine pu_ 17 42 40 262143 ?_ HT_ rfl rfl (by kernel_rfl) (fun _ _ _ h => h) (Or.inl ⟨by rfl, ?_⟩) ?_ ?_ ?_; rotate_left; (·intro w'; go_simp; with_reducible rfl); rotate_left; (·simp only [Act.put, pt_]; rfl)
               refine pu_ 18 43 40 524287 ?_ HT_ rfl rfl (by kernel_rfl) (fun _ _ _ h => h) (Or.inl ⟨by rfl, ?_⟩) ?_ ?_ ?_; rotate_left; (·intro w'; go_simp; with_reducible rfl); rotate_left; (·simp only [Act.put, pt_]; rfl)
               refine pu_ 19 44 40 1048575 ?_ HT_ rfl rfl (by kernel_rfl) (fun _ _ _ h => h) (Or.inl ⟨by rfl, ?_⟩) ?_ ?_ ?_; rotate_left; (·intro w'; go_simp; with_reducible rfl); rotate_left; (·simp only [Act.put, pt_]; rfl)
               refine pu_ 21 46 40 3145727 ?_ HT_ rfl rfl (by kernel_rfl) (fun _ _ _ h => h) (Or.inl ⟨by rfl, ?_⟩) ?_ ?_ ?_; rotate_left; (·intro w'; go_simp; with_reducible rfl); rotate_left; (·simp only [Act.put, pt_]; rfl)
               refine tk_ 20 45 40 4194303 ?_ HT_ HW_ rfl rfl (by kernel_rfl) (fun _ _ _ h => h) (Or.inl ⟨by rfl, ?_⟩) hHeld ?_ ?_ ?_; rotate_left; (·rintro w' ⟨s0, s1, s2, s3, s4, s5, s6, s7, s8, s9, s10⟩; go_simp; with_reducible rfl); rotate_left; (·simp only [Act.put, pt_]; rfl)
               refine tk_ 22 47 40 8388607 ?_ HT_ HW_ rfl rfl (by kernel_rfl) (fun _ _ _ h => h) (Or.inl ⟨by rfl, ?_⟩) hHeld ?_ ?_ ?_; rotate_left; (·rintro w' ⟨s0, s1, s2, s3, s4, s5, s6, s7, s8, s9, s10⟩; go_simp; with_reducible rfl); rotate_left; (·simp only [Act.put, pt_]; rfl)
               refine one_ (i := 23) (N := some 48) (bs_ 40 16777215) rfl rfl (one_of HT_.out (by kernel_rfl)) (by decide) (fun K hK => ?_)
               refine goes_ Try.func34 (by kernel_rfl) rfl #[.agg #[.int .i64 a0_0, .int .i64 a0_1, .string a0_2], .int .i64 ((rd_T42 l1 x5_2).f1)] (by rfl) rfl rfl (by (try simp only [List.map_toArray, List.map_cons, List.map_nil]); first | done | rfl | (simp only [List.length_drop, List.length_take]; rfl)) ?_
               with_reducible refine (spec_FreeAt.calls k2 a0_0 a0_1 a0_2 ((rd_T42 l1 x5_2).f1) false _ A27.out).mono ?_
               rintro e w40 ⟨rfl, hb⟩
               refine ⟨_, rfl, ?_⟩
               have n0_ := Aside0.mk (blk_below (g := gb161) (o := .cells #[.int .i64 a0_0, .int .i64 a0_1, .string a0_2] 38 (0, 0)) (by (with_reducible repeat (first | refine blk_drewN ?_ _ | refine blk_drew ?_ | refine blk_alloc ?_ _)); exact BK161.out) hb)
               have n1_ := Aside0.mk (blk_below (g := gb164) (o := .cells #[.int .i64 ((rd_T42 l1 x5_2).f0), .int .i64 ((rd_T42 l1 x5_2).f1), .int .i64 ((rd_T42 l1 x5_2).f2), .bool ((rd_T42 l1 x5_2).f3)] 42 (0, 0)) (by (with_reducible repeat (first | refine blk_drewN ?_ _ | refine blk_drew ?_ | refine blk_alloc ?_ _)); exact BK164.out) hb)
               have n2_ := Aside0.mk (below_step (by repeat (first | (with_reducible first | exact HB.out | apply below_alloc | apply pw_below_drewN | apply below_drew1 | refine below_set ?_ GE161.out | refine below_set ?_ GE164.out) | exact HB.out)) hb)
               clear BK161
               clear BK164
               clear HB
               have BK161 := n0_
               have BK164 := n1_
               have HB := n2_
               clear n0_ n1_ n2_
               (try clear hb)
               (try clear hb2)
               (try clear hk)
               (try clear hi)
               refine hK.out _ _ ⟨(blk_cell BK164.out 0).trans rfl, (blk_cell BK164.out 1).trans rfl, (blk_cell BK164.out 2).trans rfl, (blk_cell BK164.out 3).trans rfl, (blk_cell BK161.out 0).trans rfl, (blk_cell BK161.out 1).trans rfl, (blk_cell BK161.out 2).trans rfl, ((HB.out.cell (World.block_lt_of_cell? w _ hw166_0)).trans hw166_0), ((HB.out.cell (World.block_lt_of_cell? w _ hw166_1)).trans hw166_1), ((HB.out.cell (World.block_lt_of_cell? w _ hw166_2)).trans hw166_2), ((HB.out.cell (World.block_lt_of_cell? w _ hw166_3)).trans hw166_3)⟩ (fun hHeld => ?_)
               clear hK K
               refine norm_ (a' := ?_) ?_ ?_
               rotate_left
               ·show Act.put _ (some 48) _ = _
                simp only [Act.put, pt_]
                rfl
               refine pu_ 24 49 40 33554431 ?_ HT_ rfl rfl (by kernel_rfl) (fun _ _ _ h => h) (Or.inl ⟨by rfl, ?_⟩) ?_ ?_ ?_; rotate_left; (·intro w'; go_simp; with_reducible rfl); rotate_left; (·simp only [Act.put, pt_]; rfl)
               refine pu_ 25 50 40 67108863 ?_ HT_ rfl rfl (by kernel_rfl) (fun _ _ _ h => h) (Or.inl ⟨by rfl, ?_⟩) ?_ ?_ ?_; rotate_left; (·intro w'; go_simp; with_reducible rfl); rotate_left; (·simp only [Act.put, pt_]; rfl)
               refine pu_ 26 51 40 134217727 ?_ HT_ rfl rfl (by kernel_rfl) (fun _ _ _ h => h) (Or.inl ⟨by rfl, ?_⟩) ?_ ?_ ?_; rotate_left; (·intro w'; go_simp; with_reducible rfl); rotate_left; (·simp only [Act.put, pt_]; rfl)
               refine pu_ 27 52 40 268435455 undef HT_ rfl rfl (by kernel_rfl) (fun _ _ _ h => h) (Or.inr ⟨by rfl, rfl⟩) ?_ ?_ ?_; rotate_left; (·simp only [Act.put, pt_]; rfl)
               refine pu_ 28 53 40 536870911 undef HT_ rfl rfl (by kernel_rfl) (fun _ _ _ h => h) (Or.inr ⟨by rfl, rfl⟩) ?_ ?_ ?_; rotate_left; (·simp only [Act.put, pt_]; rfl)
               refine pu_ 29 54 40 1073741823 undef HT_ rfl rfl (by kernel_rfl) (fun _ _ _ h => h) (Or.inr ⟨by rfl, rfl⟩) ?_ ?_ ?_; rotate_left; (·simp only [Act.put, pt_]; rfl)
               refine pu_ 30 55 40 2147483647 undef HT_ rfl rfl (by kernel_rfl) (fun _ _ _ h => h) (Or.inr ⟨by rfl, rfl⟩) ?_ ?_ ?_; rotate_left; (·simp only [Act.put, pt_]; rfl)
               refine pu_ 31 56 40 4294967295 undef HT_ rfl rfl (by kernel_rfl) (fun _ _ _ h => h) (Or.inr ⟨by rfl, rfl⟩) ?_ ?_ ?_; rotate_left; (·simp only [Act.put, pt_]; rfl)
               refine pu_ 32 57 40 8589934591 undef HT_ rfl rfl (by kernel_rfl) (fun _ _ _ h => h) (Or.inr ⟨by rfl, rfl⟩) ?_ ?_ ?_; rotate_left; (·simp only [Act.put, pt_]; rfl)
               refine pu_ 33 58 40 17179869183 undef HT_ rfl rfl (by kernel_rfl) (fun _ _ _ h => h) (Or.inr ⟨by rfl, rfl⟩) ?_ ?_ ?_; rotate_left; (·simp only [Act.put, pt_]; rfl)
               refine pu_ 34 59 40 34359738367 undef HT_ rfl rfl (by kernel_rfl) (fun _ _ _ h => h) (Or.inr ⟨by rfl, rfl⟩) ?_ ?_ ?_; rotate_left; (·simp only [Act.put, pt_]; rfl)
               refine pu_ 35 60 40 68719476735 undef HT_ rfl rfl (by kernel_rfl) (fun _ _ _ h => h) (Or.inr ⟨by rfl, rfl⟩) ?_ ?_ ?_; rotate_left; (·simp only [Act.put, pt_]; rfl)
               refine pu_ 36 61 40 137438953471 undef HT_ rfl rfl (by kernel_rfl) (fun _ _ _ h => h) (Or.inr ⟨by rfl, rfl⟩) ?_ ?_ ?_; rotate_left; (·simp only [Act.put, pt_]; rfl)
               refine pu_ 37 62 40 274877906943 undef HT_ rfl rfl (by kernel_rfl) (fun _ _ _ h => h) (Or.inr ⟨by rfl, rfl⟩) ?_ ?_ ?_; rotate_left; (·simp only [Act.put, pt_]; rfl)
               refine pu_ 38 63 40 549755813887 undef HT_ rfl rfl (by kernel_rfl) (fun _ _ _ h => h) (Or.inr ⟨by rfl, rfl⟩) ?_ ?_ ?_; rotate_left; (·simp only [Act.put, pt_]; rfl)
               refine pu_ 39 64 40 1099511627775 ?_ HT_ rfl rfl (by kernel_rfl) (fun _ _ _ h => h) (Or.inl ⟨by rfl, ?_⟩) ?_ ?_ ?_; rotate_left; (·intro w'; go_simp; with_reducible rfl); rotate_left; (·simp only [Act.put, pt_]; rfl)
               refine done_ (done_of HT_.out (by kernel_rfl)) ?_
               try go_wp2
               go_meet
               case rel => exact ⟨_, (true), (by first | rfl | (simp; done) | (simp [*]; done)), H', ⟨by have := HJ2.out; have := HK2.out; first | omega | exact Nat.le_refl _⟩, ⟨by (with_reducible repeat (first | refine blk_drewN ?_ _ | refine blk_drew ?_ | refine blk_alloc ?_ _)); exact BK161.out⟩, ⟨by (with_reducible repeat (first | refine blk_drewN ?_ _ | refine blk_drew ?_ | refine blk_alloc ?_ _)); exact BK164.out⟩, ⟨by repeat (first | (with_reducible first | exact HB.out | apply below_alloc | apply pw_below_drewN | apply below_drew1 | refine below_set ?_ GE161.out | refine below_set ?_ GE164.out) | exact HB.out)⟩⟩
            ·rw [if_neg c23] at H
             exact absurd H (by simp)
           ·rw [if_neg c22] at H
            exact absurd H (by simp)
          ·rw [if_neg c20] at H
           have c20b0 : decide (0 < x5_2) = false := decide_eq_false c20
           clear c20
           (first | rw [c20b0] | (simp only [i64_w, i32_w]; rw [c20b0]) | skip)
           replace H := Option.bind_eq_some_iff.mp H
           obtain ⟨t169, A410, H⟩ := H
           replace H : (if t169 = true then (if ((rd_T42 l1 x5_2).f2) = (-1) then (spec_RobotsOk.j2 k2 l1 x5_2 false a0_0 a0_1 a0_2 ((rd_T42 l1 x5_2).f0) ((rd_T42 l1 x5_2).f1) ((rd_T42 l1 x5_2).f2) ((rd_T42 l1 x5_2).f3)) else ((spec_Beside.f k2 a0_0 a0_1 a0_2 ((rd_T42 l1 x5_2).f1) ((rd_T42 l1 x5_2).f2)).bind fun t170 => (spec_RobotsOk.j2 k2 l1 x5_2 (!t170) a0_0 a0_1 a0_2 ((rd_T42 l1 x5_2).f0) ((rd_T42 l1 x5_2).f1) ((rd_T42 l1 x5_2).f2) ((rd_T42 l1 x5_2).f3)))) else (spec_RobotsOk.j2 k2 l1 x5_2 true a0_0 a0_1 a0_2 ((rd_T42 l1 x5_2).f0) ((rd_T42 l1 x5_2).f1) ((rd_T42 l1 x5_2).f2) ((rd_T42 l1 x5_2).f3))) = some r := H
           have A41 := Aside0.mk A410
           clear A410
           by_cases c42 : t169 = true
           ·subst c42
            have H1 : (if ((rd_T42 l1 x5_2).f2) = (-1) then (spec_RobotsOk.j2 k2 l1 x5_2 false a0_0 a0_1 a0_2 ((rd_T42 l1 x5_2).f0) ((rd_T42 l1 x5_2).f1) ((rd_T42 l1 x5_2).f2) ((rd_T42 l1 x5_2).f3)) else ((spec_Beside.f k2 a0_0 a0_1 a0_2 ((rd_T42 l1 x5_2).f1) ((rd_T42 l1 x5_2).f2)).bind fun t170 => (spec_RobotsOk.j2 k2 l1 x5_2 (!t170) a0_0 a0_1 a0_2 ((rd_T42 l1 x5_2).f0) ((rd_T42 l1 x5_2).f1) ((rd_T42 l1 x5_2).f2) ((rd_T42 l1 x5_2).f3)))) = some r := by rw [if_pos rfl] at H; exact H
            clear H
            have H := H1
            clear H1
            by_cases c43 : ((rd_T42 l1 x5_2).f2) = (-1)
            ·rw [if_pos c43] at H
             have c43b0 : (((rd_T42 l1 x5_2).f2) == (-1)) = true := beq_iff_eq.mpr c43
             have c43b1 : (((rd_T42 l1 x5_2).f2) != (-1)) = false := bne_eq_false_iff_eq.mpr c43
             clear c43
             have H' := Aside0.mk H
             clear H
             try go_wp2
             have n0_ : Aside0 (((((w15.setCell ⟨gb164, 0, none⟩ (.int .i64 ((rd_T42 l1 x5_2).f0))).setCell ⟨gb164, 1, none⟩ (.int .i64 ((rd_T42 l1 x5_2).f1))).setCell ⟨gb164, 2, none⟩ (.int .i64 ((rd_T42 l1 x5_2).f2))).setCell ⟨gb164, 3, none⟩ (.bool ((rd_T42 l1 x5_2).f3))).heap[gb161]? = some (.cells #[.int .i64 a0_0, .int .i64 a0_1, .string a0_2] 38 (0, 0))) := ⟨by (with_reducible repeat (first | refine blk_drewN ?_ _ | refine blk_drew ?_ | refine blk_alloc ?_ _)); refine blk_far ?_ NB161_164.out _; (with_reducible repeat (first | refine blk_drewN ?_ _ | refine blk_drew ?_ | refine blk_alloc ?_ _)); refine blk_far ?_ NB161_164.out _; (with_reducible repeat (first | refine blk_drewN ?_ _ | refine blk_drew ?_ | refine blk_alloc ?_ _)); refine blk_far ?_ NB161_164.out _; (with_reducible repeat (first | refine blk_drewN ?_ _ | refine blk_drew ?_ | refine blk_alloc ?_ _)); refine blk_far ?_ NB161_164.out _; (with_reducible repeat (first | refine blk_drewN ?_ _ | refine blk_drew ?_ | refine blk_alloc ?_ _)); exact BK161.out⟩
             have n1_ : Aside0 (((((w15.setCell ⟨gb164, 0, none⟩ (.int .i64 ((rd_T42 l1 x5_2).f0))).setCell ⟨gb164, 1, none⟩ (.int .i64 ((rd_T42 l1 x5_2).f1))).setCell ⟨gb164, 2, none⟩ (.int .i64 ((rd_T42 l1 x5_2).f2))).setCell ⟨gb164, 3, none⟩ (.bool ((rd_T42 l1 x5_2).f3))).heap[gb164]? = some (.cells #[.int .i64 ((rd_T42 l1 x5_2).f0), .int .i64 ((rd_T42 l1 x5_2).f1), .int .i64 ((rd_T42 l1 x5_2).f2), .bool ((rd_T42 l1 x5_2).f3)] 42 (0, 0))) := ⟨by (with_reducible repeat (first | refine blk_drewN ?_ _ | refine blk_drew ?_ | refine blk_alloc ?_ _)); refine blk_put (cs := #[.int .i64 ((rd_T42 l1 x5_2).f0), .int .i64 ((rd_T42 l1 x5_2).f1), .int .i64 ((rd_T42 l1 x5_2).f2), .bool false]) ?_ 3 _ rfl; (with_reducible repeat (first | refine blk_drewN ?_ _ | refine blk_drew ?_ | refine blk_alloc ?_ _)); refine blk_put (cs := #[.int .i64 ((rd_T42 l1 x5_2).f0), .int .i64 ((rd_T42 l1 x5_2).f1), .int .i64 0, .bool false]) ?_ 2 _ rfl; (with_reducible repeat (first | refine blk_drewN ?_ _ | refine blk_drew ?_ | refine blk_alloc ?_ _)); refine blk_put (cs := #[.int .i64 ((rd_T42 l1 x5_2).f0), .int .i64 0, .int .i64 0, .bool false]) ?_ 1 _ rfl; (with_reducible repeat (first | refine blk_drewN ?_ _ | refine blk_drew ?_ | refine blk_alloc ?_ _)); refine blk_put (cs := #[.int .i64 0, .int .i64 0, .int .i64 0, .bool false]) ?_ 0 _ rfl; (with_reducible repeat (first | refine blk_drewN ?_ _ | refine blk_drew ?_ | refine blk_alloc ?_ _)); exact BK164.out⟩
             have n2_ : Aside0 (Below w.heap.size w ((((w15.setCell ⟨gb164, 0, none⟩ (.int .i64 ((rd_T42 l1 x5_2).f0))).setCell ⟨gb164, 1, none⟩ (.int .i64 ((rd_T42 l1 x5_2).f1))).setCell ⟨gb164, 2, none⟩ (.int .i64 ((rd_T42 l1 x5_2).f2))).setCell ⟨gb164, 3, none⟩ (.bool ((rd_T42 l1 x5_2).f3)))) := ⟨by repeat (first | (with_reducible first | exact HB.out | apply below_alloc | apply pw_below_drewN | apply below_drew1 | refine below_set ?_ GE161.out | refine below_set ?_ GE164.out) | exact HB.out)⟩
             (try clear BK161)
             (try clear BK164)
             (try clear HB)
             generalize ((((w15.setCell ⟨gb164, 0, none⟩ (.int .i64 ((rd_T42 l1 x5_2).f0))).setCell ⟨gb164, 1, none⟩ (.int .i64 ((rd_T42 l1 x5_2).f1))).setCell ⟨gb164, 2, none⟩ (.int .i64 ((rd_T42 l1 x5_2).f2))).setCell ⟨gb164, 3, none⟩ (.bool ((rd_T42 l1 x5_2).f3))) = w44 at n0_ n1_ n2_ ⊢
             have BK161 := n0_
             have BK164 := n1_
             have HB := n2_
             clear n0_ n1_ n2_
             have n0_ := Aside0.mk (blk_drew BK161.out)
             have n1_ := Aside0.mk (blk_drew BK164.out)
             have n2_ := Aside0.mk (below_drew1 HB.out)
             clear BK161
             clear BK164
             clear HB
             have BK161 := n0_
             have BK164 := n1_
             have HB := n2_
             clear n0_ n1_ n2_
             refine start_ (n := 40) (S := fun w' => w'.cell? ⟨gb164, 0, none⟩ = some (.int .i64 ((rd_T42 l1 x5_2).f0)) ∧ w'.cell? ⟨gb164, 1, none⟩ = some (.int .i64 ((rd_T42 l1 x5_2).f1)) ∧ w'.cell? ⟨gb164, 2, none⟩ = some (.int .i64 ((rd_T42 l1 x5_2).f2)) ∧ w'.cell? ⟨gb164, 3, none⟩ = some (.bool ((rd_T42 l1 x5_2).f3)) ∧ w'.cell? ⟨gb161, 0, none⟩ = some (.int .i64 a0_0) ∧ w'.cell? ⟨gb161, 1, none⟩ = some (.int .i64 a0_1) ∧ w'.cell? ⟨gb161, 2, none⟩ = some (.string a0_2)) (ds := []) #[false, false, false, false, false, false, false, false, false, false, false, false, false, false, false, false, false, false, false, false, false, false, false, false, false, false, false, false, false, false, false, false, false, false, false, false, false, false, false, false] (by kernel_rfl) rfl rfl ⟨(blk_cell BK164.out 0).trans rfl, (blk_cell BK164.out 1).trans rfl, (blk_cell BK164.out 2).trans rfl, (blk_cell BK164.out 3).trans rfl, (blk_cell BK161.out 0).trans rfl, (blk_cell BK161.out 1).trans rfl, (blk_cell BK161.out 2).trans rfl⟩ (fun hHeld => ?_); refine with_tabW spec_RobotsOk.tab7 spec_RobotsOk.bits7 (fun HT_ HW_ => ?_)
             generalize w44.drew = w45 at BK161 BK164 HB hHeld ⊢
             refine pu_ 0 25 40 1 ?_ HT_ rfl rfl (by kernel_rfl) (fun _ _ _ h => h) (Or.inl ⟨by rfl, ?_⟩) ?_ ?_ ?_; rotate_left; (·intro w'; go_simp; with_reducible rfl); rotate_left; (·simp only [Act.put, pt_]; rfl)
             refine tk_ 1 26 40 3 ?_ HT_ HW_ rfl rfl (by kernel_rfl) (fun _ _ _ h => h) (Or.inl ⟨by rfl, ?_⟩) hHeld ?_ ?_ ?_; rotate_left; (·rintro w' ⟨s0, s1, s2, s3, s4, s5, s6⟩; go_simp; with_reducible rfl); rotate_left; (·simp only [Act.put, pt_]; rfl)
             refine one_ (i := 2) (N := some 27) (bs_ 40 7) rfl rfl (one_of HT_.out (by kernel_rfl)) (by decide) (fun K hK => ?_)
             refine goes_ Try.func33 (by kernel_rfl) rfl #[.int .i64 ((rd_T42 l1 x5_2).f0), .int .i64 0, .int .i64 99] (by rfl) rfl rfl (by (try simp only [List.map_toArray, List.map_cons, List.map_nil]); first | done | rfl | (simp only [List.length_drop, List.length_take]; rfl)) ?_
             with_reducible refine (spec_l01In.calls ((rd_T42 l1 x5_2).f0) 0 99 true _ A18.out).mono ?_
             rintro e w' ⟨rfl, ⟨nd, rfl⟩⟩
             refine ⟨_, rfl, ?_⟩
             refine hK.out _ _ ⟨(blk_cell BK164.out 0).trans rfl, (blk_cell BK164.out 1).trans rfl, (blk_cell BK164.out 2).trans rfl, (blk_cell BK164.out 3).trans rfl, (blk_cell BK161.out 0).trans rfl, (blk_cell BK161.out 1).trans rfl, (blk_cell BK161.out 2).trans rfl⟩ (fun hHeld => ?_)
             clear hK K
             refine norm_ (a' := ?_) ?_ ?_
             rotate_left
             ·show Act.put _ (some 27) _ = _
              simp only [Act.put, pt_]
              rfl
             refine pu_ 3 28 40 15 ?_ HT_ rfl rfl (by kernel_rfl) (fun _ _ _ h => h) (Or.inl ⟨by rfl, ?_⟩) ?_ ?_ ?_; rotate_left; (·intro w'; go_simp; with_reducible rfl); rotate_left; (·simp only [Act.put, pt_]; rfl)
             refine pu_ 4 29 40 31 ?_ HT_ rfl rfl (by kernel_rfl) (fun _ _ _ h => h) (Or.inl ⟨by rfl, ?_⟩) ?_ ?_ ?_; rotate_left; (·intro w'; go_simp; with_reducible rfl); rotate_left; (·simp only [Act.put, pt_]; rfl)
             refine pu_ 5 30 40 63 ?_ HT_ rfl rfl (by kernel_rfl) (fun _ _ _ h => h) (Or.inl ⟨by rfl, ?_⟩) ?_ ?_ ?_; rotate_left; (·intro w'; go_simp; with_reducible rfl); rotate_left; (·simp only [Act.put, pt_]; rfl)
             refine pu_ 6 31 40 127 ?_ HT_ rfl rfl (by kernel_rfl) (fun _ _ _ h => h) (Or.inl ⟨by rfl, ?_⟩) ?_ ?_ ?_; rotate_left; (·intro w'; go_simp; with_reducible rfl); rotate_left; (·simp only [Act.put, pt_]; rfl)
             refine pu_ 7 32 40 255 ?_ HT_ rfl rfl (by kernel_rfl) (fun _ _ _ h => h) (Or.inl ⟨by rfl, ?_⟩) ?_ ?_ ?_; rotate_left; (·intro w'; go_simp; with_reducible rfl); rotate_left; (·simp only [Act.put, pt_]; rfl)
             refine pu_ 8 33 40 511 undef HT_ rfl rfl (by kernel_rfl) (fun _ _ _ h => h) (Or.inr ⟨by rfl, rfl⟩) ?_ ?_ ?_; rotate_left; (·simp only [Act.put, pt_]; rfl)
             refine pu_ 9 34 40 1023 undef HT_ rfl rfl (by kernel_rfl) (fun _ _ _ h => h) (Or.inr ⟨by rfl, rfl⟩) ?_ ?_ ?_; rotate_left; (·simp only [Act.put, pt_]; rfl)
             refine pu_ 10 35 40 2047 undef HT_ rfl rfl (by kernel_rfl) (fun _ _ _ h => h) (Or.inr ⟨by rfl, rfl⟩) ?_ ?_ ?_; rotate_left; (·simp only [Act.put, pt_]; rfl)
             refine pu_ 11 36 40 4095 undef HT_ rfl rfl (by kernel_rfl) (fun _ _ _ h => h) (Or.inr ⟨by rfl, rfl⟩) ?_ ?_ ?_; rotate_left; (·simp only [Act.put, pt_]; rfl)
             refine pu_ 12 37 40 8191 undef HT_ rfl rfl (by kernel_rfl) (fun _ _ _ h => h) (Or.inr ⟨by rfl, rfl⟩) ?_ ?_ ?_; rotate_left; (·simp only [Act.put, pt_]; rfl)
             refine pu_ 13 38 40 16383 undef HT_ rfl rfl (by kernel_rfl) (fun _ _ _ h => h) (Or.inr ⟨by rfl, rfl⟩) ?_ ?_ ?_; rotate_left; (·simp only [Act.put, pt_]; rfl)
             refine pu_ 14 39 40 32767 undef HT_ rfl rfl (by kernel_rfl) (fun _ _ _ h => h) (Or.inr ⟨by rfl, rfl⟩) ?_ ?_ ?_; rotate_left; (·simp only [Act.put, pt_]; rfl)
             refine pu_ 15 40 40 65535 undef HT_ rfl rfl (by kernel_rfl) (fun _ _ _ h => h) (Or.inr ⟨by rfl, rfl⟩) ?_ ?_ ?_; rotate_left; (·simp only [Act.put, pt_]; rfl)
             refine pu_ 16 41 40 131071 undef HT_ rfl rfl (by kernel_rfl) (fun _ _ _ h => h) (Or.inr ⟨by rfl, rfl⟩) ?_ ?_ ?_; rotate_left; (·simp only [Act.put, pt_]; rfl)
             refine pu_ 17 42 40 262143 ?_ HT_ rfl rfl (by kernel_rfl) (fun _ _ _ h => h) (Or.inl ⟨by rfl, ?_⟩) ?_ ?_ ?_; rotate_left; (·intro w'; go_simp; with_reducible rfl); rotate_left; (·simp only [Act.put, pt_]; rfl)
             refine pu_ 18 43 40 524287 ?_ HT_ rfl rfl (by kernel_rfl) (fun _ _ _ h => h) (Or.inl ⟨by rfl, ?_⟩) ?_ ?_ ?_; rotate_left; (·intro w'; go_simp; with_reducible rfl); rotate_left; (·simp only [Act.put, pt_]; rfl)
             refine pu_ 19 44 40 1048575 ?_ HT_ rfl rfl (by kernel_rfl) (fun _ _ _ h => h) (Or.inl ⟨by rfl, ?_⟩) ?_ ?_ ?_; rotate_left; (·intro w'; go_simp; with_reducible rfl); rotate_left; (·simp only [Act.put, pt_]; rfl)
             refine pu_ 21 46 40 3145727 ?_ HT_ rfl rfl (by kernel_rfl) (fun _ _ _ h => h) (Or.inl ⟨by rfl, ?_⟩) ?_ ?_ ?_; rotate_left; (·intro w'; go_simp; with_reducible rfl); rotate_left; (·simp only [Act.put, pt_]; rfl)
             refine tk_ 20 45 40 4194303 ?_ HT_ HW_ rfl rfl (by kernel_rfl) (fun _ _ _ h => h) (Or.inl ⟨by rfl, ?_⟩) hHeld ?_ ?_ ?_; rotate_left; (·rintro w' ⟨s0, s1, s2, s3, s4, s5, s6⟩; go_simp; with_reducible rfl); rotate_left; (·simp only [Act.put, pt_]; rfl)
             refine tk_ 22 47 40 8388607 ?_ HT_ HW_ rfl rfl (by kernel_rfl) (fun _ _ _ h => h) (Or.inl ⟨by rfl, ?_⟩) hHeld ?_ ?_ ?_; rotate_left; (·rintro w' ⟨s0, s1, s2, s3, s4, s5, s6⟩; go_simp; with_reducible rfl); rotate_left; (·simp only [Act.put, pt_]; rfl)
             refine one_ (i := 23) (N := some 48) (bs_ 40 16777215) rfl rfl (one_of HT_.out (by kernel_rfl)) (by decide) (fun K hK => ?_)
             refine goes_ Try.func34 (by kernel_rfl) rfl #[.agg #[.int .i64 a0_0, .int .i64 a0_1, .string a0_2], .int .i64 ((rd_T42 l1 x5_2).f1)] (by rfl) rfl rfl (by (try simp only [List.map_toArray, List.map_cons, List.map_nil]); first | done | rfl | (simp only [List.length_drop, List.length_take]; rfl)) ?_
             with_reducible refine (spec_FreeAt.calls k2 a0_0 a0_1 a0_2 ((rd_T42 l1 x5_2).f1) true _ A41.out).mono ?_
             rintro e w46 ⟨rfl, hb⟩
             refine ⟨_, rfl, ?_⟩
             have n0_ := Aside0.mk (blk_below (g := gb161) (o := .cells #[.int .i64 a0_0, .int .i64 a0_1, .string a0_2] 38 (0, 0)) (by (with_reducible repeat (first | refine blk_drewN ?_ _ | refine blk_drew ?_ | refine blk_alloc ?_ _)); exact BK161.out) hb)
             have n1_ := Aside0.mk (blk_below (g := gb164) (o := .cells #[.int .i64 ((rd_T42 l1 x5_2).f0), .int .i64 ((rd_T42 l1 x5_2).f1), .int .i64 ((rd_T42 l1 x5_2).f2), .bool ((rd_T42 l1 x5_2).f3)] 42 (0, 0)) (by (with_reducible repeat (first | refine blk_drewN ?_ _ | refine blk_drew ?_ | refine blk_alloc ?_ _)); exact BK164.out) hb)
             have n2_ := Aside0.mk (below_step (by repeat (first | (with_reducible first | exact HB.out | apply below_alloc | apply pw_below_drewN | apply below_drew1 | refine below_set ?_ GE161.out | refine below_set ?_ GE164.out) | exact HB.out)) hb)
             clear BK161
             clear BK164
             clear HB
             have BK161 := n0_
             have BK164 := n1_
             have HB := n2_
             clear n0_ n1_ n2_
             (try clear hb)
             (try clear hb2)
             (try clear hk)
             (try clear hi)
             refine hK.out _ _ ⟨(blk_cell BK164.out 0).trans rfl, (blk_cell BK164.out 1).trans rfl, (blk_cell BK164.out 2).trans rfl, (blk_cell BK164.out 3).trans rfl, (blk_cell BK161.out 0).trans rfl, (blk_cell BK161.out 1).trans rfl, (blk_cell BK161.out 2).trans rfl⟩ (fun hHeld => ?_)
             clear hK K
             refine norm_ (a' := ?_) ?_ ?_
             rotate_left
             ·show Act.put _ (some 48) _ = _
              simp only [Act.put, pt_]
              rfl
             refine pu_ 24 49 40 33554431 ?_ HT_ rfl rfl (by kernel_rfl) (fun _ _ _ h => h) (Or.inl ⟨by rfl, ?_⟩) ?_ ?_ ?_; rotate_left; (·intro w'; go_simp; with_reducible rfl); rotate_left; (·simp only [Act.put, pt_]; rfl)
             refine pu_ 25 50 40 67108863 ?_ HT_ rfl rfl (by kernel_rfl) (fun _ _ _ h => h) (Or.inl ⟨by rfl, ?_⟩) ?_ ?_ ?_; rotate_left; (·intro w'; go_simp; with_reducible rfl); rotate_left; (·simp only [Act.put, pt_]; rfl)
             refine pu_ 26 51 40 134217727 ?_ HT_ rfl rfl (by kernel_rfl) (fun _ _ _ h => h) (Or.inl ⟨by rfl, ?_⟩) ?_ ?_ ?_; rotate_left; (·intro w'; go_simp; with_reducible rfl); rotate_left; (·simp only [Act.put, pt_]; rfl)
             refine pu_ 27 52 40 268435455 ?_ HT_ rfl rfl (by kernel_rfl) (fun _ _ _ h => h) (Or.inl ⟨by rfl, ?_⟩) ?_ ?_ ?_; rotate_left; (·intro w'; go_simp; with_reducible rfl); rotate_left; (·simp only [Act.put, pt_]; rfl)
             refine tk_ 28 53 40 536870911 ?_ HT_ HW_ rfl rfl (by kernel_rfl) (fun _ _ _ h => h) (Or.inl ⟨by rfl, ?_⟩) hHeld ?_ ?_ ?_; rotate_left; (·rintro w' ⟨s0, s1, s2, s3, s4, s5, s6⟩; go_simp; with_reducible rfl); rotate_left; (·simp only [Act.put, pt_]; rfl)
             refine pu_ 29 54 40 1073741823 ?_ HT_ rfl rfl (by kernel_rfl) (fun _ _ _ h => h) (Or.inl ⟨by rfl, ?_⟩) ?_ ?_ ?_; rotate_left; (·intro w'; go_simp; with_reducible rfl); rotate_left; (·simp only [Act.put, pt_]; rfl)
             refine pu_ 30 55 40 2147483647 ?_ HT_ rfl rfl (by kernel_rfl) (fun _ _ _ h => h) (Or.inl ⟨by rfl, ?_⟩) ?_ ?_ ?_; rotate_left; (·intro w'; go_simp; with_reducible rfl); rotate_left; (·simp only [Act.put, pt_]; rfl)
             refine pu_ 31 56 40 4294967295 undef HT_ rfl rfl (by kernel_rfl) (fun _ _ _ h => h) (Or.inr ⟨by rfl, rfl⟩) ?_ ?_ ?_; rotate_left; (·simp only [Act.put, pt_]; rfl)
             refine pu_ 32 57 40 8589934591 undef HT_ rfl rfl (by kernel_rfl) (fun _ _ _ h => h) (Or.inr ⟨by rfl, rfl⟩) ?_ ?_ ?_; rotate_left; (·simp only [Act.put, pt_]; rfl)
             refine pu_ 33 58 40 17179869183 undef HT_ rfl rfl (by kernel_rfl) (fun _ _ _ h => h) (Or.inr ⟨by rfl, rfl⟩) ?_ ?_ ?_; rotate_left; (·simp only [Act.put, pt_]; rfl)
             refine pu_ 34 59 40 34359738367 undef HT_ rfl rfl (by kernel_rfl) (fun _ _ _ h => h) (Or.inr ⟨by rfl, rfl⟩) ?_ ?_ ?_; rotate_left; (·simp only [Act.put, pt_]; rfl)
             refine pu_ 35 60 40 68719476735 undef HT_ rfl rfl (by kernel_rfl) (fun _ _ _ h => h) (Or.inr ⟨by rfl, rfl⟩) ?_ ?_ ?_; rotate_left; (·simp only [Act.put, pt_]; rfl)
             refine pu_ 36 61 40 137438953471 undef HT_ rfl rfl (by kernel_rfl) (fun _ _ _ h => h) (Or.inr ⟨by rfl, rfl⟩) ?_ ?_ ?_; rotate_left; (·simp only [Act.put, pt_]; rfl)
             refine pu_ 37 62 40 274877906943 undef HT_ rfl rfl (by kernel_rfl) (fun _ _ _ h => h) (Or.inr ⟨by rfl, rfl⟩) ?_ ?_ ?_; rotate_left; (·simp only [Act.put, pt_]; rfl)
             refine pu_ 38 63 40 549755813887 ?_ HT_ rfl rfl (by kernel_rfl) (fun _ _ _ h => h) (Or.inl ⟨by rfl, ?_⟩) ?_ ?_ ?_; rotate_left; (·intro w'; go_simp; with_reducible rfl); rotate_left; (·simp only [Act.put, pt_]; rfl)
             refine pu_ 39 64 40 1099511627775 ?_ HT_ rfl rfl (by kernel_rfl) (fun _ _ _ h => h) (Or.inl ⟨by rfl, ?_⟩) ?_ ?_ ?_; rotate_left; (·intro w'; go_simp; with_reducible rfl); rotate_left; (·simp only [Act.put, pt_]; rfl)
             refine done_ (done_of HT_.out (by kernel_rfl)) ?_
             try go_wp2
             go_meet
             case rel => exact ⟨_, (false), (by first | rfl | (simp; done) | (simp [*]; done)), H', ⟨by have := HJ2.out; have := HK2.out; first | omega | exact Nat.le_refl _⟩, ⟨by (with_reducible repeat (first | refine blk_drewN ?_ _ | refine blk_drew ?_ | refine blk_alloc ?_ _)); exact BK161.out⟩, ⟨by (with_reducible repeat (first | refine blk_drewN ?_ _ | refine blk_drew ?_ | refine blk_alloc ?_ _)); exact BK164.out⟩, ⟨by repeat (first | (with_reducible first | exact HB.out | apply below_alloc | apply pw_below_drewN | apply below_drew1 | refine below_set ?_ GE161.out | refine below_set ?_ GE164.out) | exact HB.out)⟩⟩
            ·rw [if_neg c43] at H
             have c43b0 : (((rd_T42 l1 x5_2).f2) == (-1)) = false := beq_eq_false_iff_ne.mpr c43
             have c43b1 : (((rd_T42 l1 x5_2).f2) != (-1)) = true := bne_iff_ne.mpr c43
             replace H := Option.bind_eq_some_iff.mp H
             obtain ⟨t170, A470, H⟩ := H
             replace H : (spec_RobotsOk.j2 k2 l1 x5_2 (!t170) a0_0 a0_1 a0_2 ((rd_T42 l1 x5_2).f0) ((rd_T42 l1 x5_2).f1) ((rd_T42 l1 x5_2).f2) ((rd_T42 l1 x5_2).f3)) = some r := H
             have A47 := Aside0.mk A470
             clear A470
             have H' := Aside0.mk H
             clear H
             try go_wp2
             have n0_ : Aside0 (((((w15.setCell ⟨gb164, 0, none⟩ (.int .i64 ((rd_T42 l1 x5_2).f0))).setCell ⟨gb164, 1, none⟩ (.int .i64 ((rd_T42 l1 x5_2).f1))).setCell ⟨gb164, 2, none⟩ (.int .i64 ((rd_T42 l1 x5_2).f2))).setCell ⟨gb164, 3, none⟩ (.bool ((rd_T42 l1 x5_2).f3))).heap[gb161]? = some (.cells #[.int .i64 a0_0, .int .i64 a0_1, .string a0_2] 38 (0, 0))) := ⟨by (with_reducible repeat (first | refine blk_drewN ?_ _ | refine blk_drew ?_ | refine blk_alloc ?_ _)); refine blk_far ?_ NB161_164.out _; (with_reducible repeat (first | refine blk_drewN ?_ _ | refine blk_drew ?_ | refine blk_alloc ?_ _)); refine blk_far ?_ NB161_164.out _; (with_reducible repeat (first | refine blk_drewN ?_ _ | refine blk_drew ?_ | refine blk_alloc ?_ _)); refine blk_far ?_ NB161_164.out _; (with_reducible repeat (first | refine blk_drewN ?_ _ | refine blk_drew ?_ | refine blk_alloc ?_ _)); refine blk_far ?_ NB161_164.out _; (with_reducible repeat (first | refine blk_drewN ?_ _ | refine blk_drew ?_ | refine blk_alloc ?_ _)); exact BK161.out⟩
             have n1_ : Aside0 (((((w15.setCell ⟨gb164, 0, none⟩ (.int .i64 ((rd_T42 l1 x5_2).f0))).setCell ⟨gb164, 1, none⟩ (.int .i64 ((rd_T42 l1 x5_2).f1))).setCell ⟨gb164, 2, none⟩ (.int .i64 ((rd_T42 l1 x5_2).f2))).setCell ⟨gb164, 3, none⟩ (.bool ((rd_T42 l1 x5_2).f3))).heap[gb164]? = some (.cells #[.int .i64 ((rd_T42 l1 x5_2).f0), .int .i64 ((rd_T42 l1 x5_2).f1), .int .i64 ((rd_T42 l1 x5_2).f2), .bool ((rd_T42 l1 x5_2).f3)] 42 (0, 0))) := ⟨by (with_reducible repeat (first | refine blk_drewN ?_ _ | refine blk_drew ?_ | refine blk_alloc ?_ _)); refine blk_put (cs := #[.int .i64 ((rd_T42 l1 x5_2).f0), .int .i64 ((rd_T42 l1 x5_2).f1), .int .i64 ((rd_T42 l1 x5_2).f2), .bool false]) ?_ 3 _ rfl; (with_reducible repeat (first | refine blk_drewN ?_ _ | refine blk_drew ?_ | refine blk_alloc ?_ _)); refine blk_put (cs := #[.int .i64 ((rd_T42 l1 x5_2).f0), .int .i64 ((rd_T42 l1 x5_2).f1), .int .i64 0, .bool false]) ?_ 2 _ rfl; (with_reducible repeat (first | refine blk_drewN ?_ _ | refine blk_drew ?_ | refine blk_alloc ?_ _)); refine blk_put (cs := #[.int .i64 ((rd_T42 l1 x5_2).f0), .int .i64 0, .int .i64 0, .bool false]) ?_ 1 _ rfl; (with_reducible repeat (first | refine blk_drewN ?_ _ | refine blk_drew ?_ | refine blk_alloc ?_ _)); refine blk_put (cs := #[.int .i64 0, .int .i64 0, .int .i64 0, .bool false]) ?_ 0 _ rfl; (with_reducible repeat (first | refine blk_drewN ?_ _ | refine blk_drew ?_ | refine blk_alloc ?_ _)); exact BK164.out⟩
             have n2_ : Aside0 (Below w.heap.size w ((((w15.setCell ⟨gb164, 0, none⟩ (.int .i64 ((rd_T42 l1 x5_2).f0))).setCell ⟨gb164, 1, none⟩ (.int .i64 ((rd_T42 l1 x5_2).f1))).setCell ⟨gb164, 2, none⟩ (.int .i64 ((rd_T42 l1 x5_2).f2))).setCell ⟨gb164, 3, none⟩ (.bool ((rd_T42 l1 x5_2).f3)))) := ⟨by repeat (first | (with_reducible first | exact HB.out | apply below_alloc | apply pw_below_drewN | apply below_drew1 | refine below_set ?_ GE161.out | refine below_set ?_ GE164.out) | exact HB.out)⟩
             (try clear BK161)
             (try clear BK164)
             (try clear HB)
             generalize ((((w15.setCell ⟨gb164, 0, none⟩ (.int .i64 ((rd_T42 l1 x5_2).f0))).setCell ⟨gb164, 1, none⟩ (.int .i64 ((rd_T42 l1 x5_2).f1))).setCell ⟨gb164, 2, none⟩ (.int .i64 ((rd_T42 l1 x5_2).f2))).setCell ⟨gb164, 3, none⟩ (.bool ((rd_T42 l1 x5_2).f3))) = w48 at n0_ n1_ n2_ ⊢
             have BK161 := n0_
             have BK164 := n1_
             have HB := n2_
             clear n0_ n1_ n2_
             have n0_ := Aside0.mk (blk_drew BK161.out)
             have n1_ := Aside0.mk (blk_drew BK164.out)
             have n2_ := Aside0.mk (below_drew1 HB.out)
             clear BK161
             clear BK164
             clear HB
             have BK161 := n0_
             have BK164 := n1_
             have HB := n2_
             clear n0_ n1_ n2_
             refine start_ (n := 40) (S := fun w' => w'.cell? ⟨gb164, 0, none⟩ = some (.int .i64 ((rd_T42 l1 x5_2).f0)) ∧ w'.cell? ⟨gb164, 1, none⟩ = some (.int .i64 ((rd_T42 l1 x5_2).f1)) ∧ w'.cell? ⟨gb164, 2, none⟩ = some (.int .i64 ((rd_T42 l1 x5_2).f2)) ∧ w'.cell? ⟨gb164, 3, none⟩ = some (.bool ((rd_T42 l1 x5_2).f3)) ∧ w'.cell? ⟨gb161, 0, none⟩ = some (.int .i64 a0_0) ∧ w'.cell? ⟨gb161, 1, none⟩ = some (.int .i64 a0_1) ∧ w'.cell? ⟨gb161, 2, none⟩ = some (.string a0_2)) (ds := []) #[false, false, false, false, false, false, false, false, false, false, false, false, false, false, false, false, false, false, false, false, false, false, false, false, false, false, false, false, false, false, false, false, false, false, false, false, false, false, false, false] (by kernel_rfl) rfl rfl ⟨(blk_cell BK164.out 0).trans rfl, (blk_cell BK164.out 1).trans rfl, (blk_cell BK164.out 2).trans rfl, (blk_cell BK164.out 3).trans rfl, (blk_cell BK161.out 0).trans rfl, (blk_cell BK161.out 1).trans rfl, (blk_cell BK161.out 2).trans rfl⟩ (fun hHeld => ?_); refine with_tabW spec_RobotsOk.tab7 spec_RobotsOk.bits7 (fun HT_ HW_ => ?_)
             generalize w48.drew = w49 at BK161 BK164 HB hHeld ⊢
             refine pu_ 0 25 40 1 ?_ HT_ rfl rfl (by kernel_rfl) (fun _ _ _ h => h) (Or.inl ⟨by rfl, ?_⟩) ?_ ?_ ?_; rotate_left; (·intro w'; go_simp; with_reducible rfl); rotate_left; (·simp only [Act.put, pt_]; rfl)
             refine tk_ 1 26 40 3 ?_ HT_ HW_ rfl rfl (by kernel_rfl) (fun _ _ _ h => h) (Or.inl ⟨by rfl, ?_⟩) hHeld ?_ ?_ ?_; rotate_left; (·rintro w' ⟨s0, s1, s2, s3, s4, s5, s6⟩; go_simp; with_reducible rfl); rotate_left; (·simp only [Act.put, pt_]; rfl)
             refine one_ (i := 2) (N := some 27) (bs_ 40 7) rfl rfl (one_of HT_.out (by kernel_rfl)) (by decide) (fun K hK => ?_)
             refine goes_ Try.func33 (by kernel_rfl) rfl #[.int .i64 ((rd_T42 l1 x5_2).f0), .int .i64 0, .int .i64 99] (by rfl) rfl rfl (by (try simp only [List.map_toArray, List.map_cons, List.map_nil]); first | done | rfl | (simp only [List.length_drop, List.length_take]; rfl)) ?_
             with_reducible refine (spec_l01In.calls ((rd_T42 l1 x5_2).f0) 0 99 true _ A18.out).mono ?_
             rintro e w' ⟨rfl, ⟨nd, rfl⟩⟩
             refine ⟨_, rfl, ?_⟩
             refine hK.out _ _ ⟨(blk_cell BK164.out 0).trans rfl, (blk_cell BK164.out 1).trans rfl, (blk_cell BK164.out 2).trans rfl, (blk_cell BK164.out 3).trans rfl, (blk_cell BK161.out 0).trans rfl, (blk_cell BK161.out 1).trans rfl, (blk_cell BK161.out 2).trans rfl⟩ (fun hHeld => ?_)
             clear hK K
             refine norm_ (a' := ?_) ?_ ?_
             rotate_left
             ·show Act.put _ (some 27) _ = _
              simp only [Act.put, pt_]
              rfl
             refine pu_ 3 28 40 15 ?_ HT_ rfl rfl (by kernel_rfl) (fun _ _ _ h => h) (Or.inl ⟨by rfl, ?_⟩) ?_ ?_ ?_; rotate_left; (·intro w'; go_simp; with_reducible rfl); rotate_left; (·simp only [Act.put, pt_]; rfl)
             refine pu_ 4 29 40 31 ?_ HT_ rfl rfl (by kernel_rfl) (fun _ _ _ h => h) (Or.inl ⟨by rfl, ?_⟩) ?_ ?_ ?_; rotate_left; (·intro w'; go_simp; with_reducible rfl); rotate_left; (·simp only [Act.put, pt_]; rfl)
             refine pu_ 5 30 40 63 ?_ HT_ rfl rfl (by kernel_rfl) (fun _ _ _ h => h) (Or.inl ⟨by rfl, ?_⟩) ?_ ?_ ?_; rotate_left; (·intro w'; go_simp; with_reducible rfl); rotate_left; (·simp only [Act.put, pt_]; rfl)
             refine pu_ 6 31 40 127 ?_ HT_ rfl rfl (by kernel_rfl) (fun _ _ _ h => h) (Or.inl ⟨by rfl, ?_⟩) ?_ ?_ ?_; rotate_left; (·intro w'; go_simp; with_reducible rfl); rotate_left; (·simp only [Act.put, pt_]; rfl)
             refine pu_ 7 32 40 255 ?_ HT_ rfl rfl (by kernel_rfl) (fun _ _ _ h => h) (Or.inl ⟨by rfl, ?_⟩) ?_ ?_ ?_; rotate_left; (·intro w'; go_simp; with_reducible rfl); rotate_left; (·simp only [Act.put, pt_]; rfl)
             refine pu_ 8 33 40 511 undef HT_ rfl rfl (by kernel_rfl) (fun _ _ _ h => h) (Or.inr ⟨by rfl, rfl⟩) ?_ ?_ ?_; rotate_left; (·simp only [Act.put, pt_]; rfl)
             refine pu_ 9 34 40 1023 undef HT_ rfl rfl (by kernel_rfl) (fun _ _ _ h => h) (Or.inr ⟨by rfl, rfl⟩) ?_ ?_ ?_; rotate_left; (·simp only [Act.put, pt_]; rfl)
             refine pu_ 10 35 40 2047 undef HT_ rfl rfl (by kernel_rfl) (fun _ _ _ h => h) (Or.inr ⟨by rfl, rfl⟩) ?_ ?_ ?_; rotate_left; (·simp only [Act.put, pt_]; rfl)
             refine pu_ 11 36 40 4095 undef HT_ rfl rfl (by kernel_rfl) (fun _ _ _ h => h) (Or.inr ⟨by rfl, rfl⟩) ?_ ?_ ?_; rotate_left; (·simp only [Act.put, pt_]; rfl)
             refine pu_ 12 37 40 8191 undef HT_ rfl rfl (by kernel_rfl) (fun _ _ _ h => h) (Or.inr ⟨by rfl, rfl⟩) ?_ ?_ ?_; rotate_left; (·simp only [Act.put, pt_]; rfl)
             refine pu_ 13 38 40 16383 undef HT_ rfl rfl (by kernel_rfl) (fun _ _ _ h => h) (Or.inr ⟨by rfl, rfl⟩) ?_ ?_ ?_; rotate_left; (·simp only [Act.put, pt_]; rfl)
             refine pu_ 14 39 40 32767 undef HT_ rfl rfl (by kernel_rfl) (fun _ _ _ h => h) (Or.inr ⟨by rfl, rfl⟩) ?_ ?_ ?_; rotate_left; (·simp only [Act.put, pt_]; rfl)
             refine pu_ 15 40 40 65535 undef HT_ rfl rfl (by kernel_rfl) (fun _ _ _ h => h) (Or.inr ⟨by rfl, rfl⟩) ?_ ?_ ?_; rotate_left; (·simp only [Act.put, pt_]; rfl)
             refine pu_ 16 41 40 131071 undef HT_ rfl rfl (by kernel_rfl) (fun _ _ _ h => h) (Or.inr ⟨by rfl, rfl⟩) ?_ ?_ ?_; rotate_left; (·simp only [Act.put, pt_]; rfl)
             refine pu_ 17 42 40 262143 ?_ HT_ rfl rfl (by kernel_rfl) (fun _ _ _ h => h) (Or.inl ⟨by rfl, ?_⟩) ?_ ?_ ?_; rotate_left; (·intro w'; go_simp; with_reducible rfl); rotate_left; (·simp only [Act.put, pt_]; rfl)
             refine pu_ 18 43 40 524287 ?_ HT_ rfl rfl (by kernel_rfl) (fun _ _ _ h => h) (Or.inl ⟨by rfl, ?_⟩) ?_ ?_ ?_; rotate_left; (·intro w'; go_simp; with_reducible rfl); rotate_left; (·simp only [Act.put, pt_]; rfl)
             refine pu_ 19 44 40 1048575 ?_ HT_ rfl rfl (by kernel_rfl) (fun _ _ _ h => h) (Or.inl ⟨by rfl, ?_⟩) ?_ ?_ ?_; rotate_left; (·intro w'; go_simp; with_reducible rfl); rotate_left; (·simp only [Act.put, pt_]; rfl)
             refine pu_ 21 46 40 3145727 ?_ HT_ rfl rfl (by kernel_rfl) (fun _ _ _ h => h) (Or.inl ⟨by rfl, ?_⟩) ?_ ?_ ?_; rotate_left; (·intro w'; go_simp; with_reducible rfl); rotate_left; (·simp only [Act.put, pt_]; rfl)
             refine tk_ 20 45 40 4194303 ?_ HT_ HW_ rfl rfl (by kernel_rfl) (fun _ _ _ h => h) (Or.inl ⟨by rfl, ?_⟩) hHeld ?_ ?_ ?_; rotate_left; (·rintro w' ⟨s0, s1, s2, s3, s4, s5, s6⟩; go_simp; with_reducible rfl); rotate_left; (·simp only [Act.put, pt_]; rfl)
             refine tk_ 22 47 40 8388607 ?_ HT_ HW_ rfl rfl (by kernel_rfl) (fun _ _ _ h => h) (Or.inl ⟨by rfl, ?_⟩) hHeld ?_ ?_ ?_; rotate_left; (·rintro w' ⟨s0, s1, s2, s3, s4, s5, s6⟩; go_simp; with_reducible rfl); rotate_left; (·simp only [Act.put, pt_]; rfl)
             refine one_ (i := 23) (N := some 48) (bs_ 40 16777215) rfl rfl (one_of HT_.out (by kernel_rfl)) (by decide) (fun K hK => ?_)
             refine goes_ Try.func34 (by kernel_rfl) rfl #[.agg #[.int .i64 a0_0, .int .i64 a0_1, .string a0_2], .int .i64 ((rd_T42 l1 x5_2).f1)] (by rfl) rfl rfl (by (try simp only [List.map_toArray, List.map_cons, List.map_nil]); first | done | rfl | (simp only [List.length_drop, List.length_take]; rfl)) ?_
             with_reducible refine (spec_FreeAt.calls k2 a0_0 a0_1 a0_2 ((rd_T42 l1 x5_2).f1) true _ A41.out).mono ?_
             rintro e w50 ⟨rfl, hb⟩
             refine ⟨_, rfl, ?_⟩
             have n0_ := Aside0.mk (blk_below (g := gb161) (o := .cells #[.int .i64 a0_0, .int .i64 a0_1, .string a0_2] 38 (0, 0)) (by (with_reducible repeat (first | refine blk_drewN ?_ _ | refine blk_drew ?_ | refine blk_alloc ?_ _)); exact BK161.out) hb)
             have n1_ := Aside0.mk (blk_below (g := gb164) (o := .cells #[.int .i64 ((rd_T42 l1 x5_2).f0), .int .i64 ((rd_T42 l1 x5_2).f1), .int .i64 ((rd_T42 l1 x5_2).f2), .bool ((rd_T42 l1 x5_2).f3)] 42 (0, 0)) (by (with_reducible repeat (first | refine blk_drewN ?_ _ | refine blk_drew ?_ | refine blk_alloc ?_ _)); exact BK164.out) hb)
             have n2_ := Aside0.mk (below_step (by repeat (first | (with_reducible first | exact HB.out | apply below_alloc | apply pw_below_drewN | apply below_drew1 | refine below_set ?_ GE161.out | refine below_set ?_ GE164.out) | exact HB.out)) hb)
             clear BK161
             clear BK164
             clear HB
             have BK161 := n0_
             have BK164 := n1_
             have HB := n2_
             clear n0_ n1_ n2_
             (try clear hb)
             (try clear hb2)
             (try clear hk)
             (try clear hi)
             refine hK.out _ _ ⟨(blk_cell BK164.out 0).trans rfl, (blk_cell BK164.out 1).trans rfl, (blk_cell BK164.out 2).trans rfl, (blk_cell BK164.out 3).trans rfl, (blk_cell BK161.out 0).trans rfl, (blk_cell BK161.out 1).trans rfl, (blk_cell BK161.out 2).trans rfl⟩ (fun hHeld => ?_)
             clear hK K
             refine norm_ (a' := ?_) ?_ ?_
             rotate_left
             ·show Act.put _ (some 48) _ = _
              simp only [Act.put, pt_]
              rfl
             refine pu_ 24 49 40 33554431 ?_ HT_ rfl rfl (by kernel_rfl) (fun _ _ _ h => h) (Or.inl ⟨by rfl, ?_⟩) ?_ ?_ ?_; rotate_left; (·intro w'; go_simp; with_reducible rfl); rotate_left; (·simp only [Act.put, pt_]; rfl)
             refine pu_ 25 50 40 67108863 ?_ HT_ rfl rfl (by kernel_rfl) (fun _ _ _ h => h) (Or.inl ⟨by rfl, ?_⟩) ?_ ?_ ?_; rotate_left; (·intro w'; go_simp; with_reducible rfl); rotate_left; (·simp only [Act.put, pt_]; rfl)
             refine pu_ 26 51 40 134217727 ?_ HT_ rfl rfl (by kernel_rfl) (fun _ _ _ h => h) (Or.inl ⟨by rfl, ?_⟩) ?_ ?_ ?_; rotate_left; (·intro w'; go_simp; with_reducible rfl); rotate_left; (·simp only [Act.put, pt_]; rfl)
             refine pu_ 27 52 40 268435455 ?_ HT_ rfl rfl (by kernel_rfl) (fun _ _ _ h => h) (Or.inl ⟨by rfl, ?_⟩) ?_ ?_ ?_; rotate_left; (·intro w'; go_simp; with_reducible rfl); rotate_left; (·simp only [Act.put, pt_]; rfl)
             refine tk_ 28 53 40 536870911 ?_ HT_ HW_ rfl rfl (by kernel_rfl) (fun _ _ _ h => h) (Or.inl ⟨by rfl, ?_⟩) hHeld ?_ ?_ ?_; rotate_left; (·rintro w' ⟨s0, s1, s2, s3, s4, s5, s6⟩; go_simp; with_reducible rfl); rotate_left; (·simp only [Act.put, pt_]; rfl)
             refine pu_ 29 54 40 1073741823 ?_ HT_ rfl rfl (by kernel_rfl) (fun _ _ _ h => h) (Or.inl ⟨by rfl, ?_⟩) ?_ ?_ ?_; rotate_left; (·intro w'; go_simp; with_reducible rfl); rotate_left; (·simp only [Act.put, pt_]; rfl)
             refine pu_ 30 55 40 2147483647 ?_ HT_ rfl rfl (by kernel_rfl) (fun _ _ _ h => h) (Or.inl ⟨by rfl, ?_⟩) ?_ ?_ ?_; rotate_left; (·intro w'; go_simp; with_reducible rfl); rotate_left; (·simp only [Act.put, pt_]; rfl)
             refine pu_ 32 57 40 6442450943 ?_ HT_ rfl rfl (by kernel_rfl) (fun _ _ _ h => h) (Or.inl ⟨by rfl, ?_⟩) ?_ ?_ ?_; rotate_left; (·intro w'; go_simp; with_reducible rfl); rotate_left; (·simp only [Act.put, pt_]; rfl)
             refine pu_ 34 59 40 23622320127 ?_ HT_ rfl rfl (by kernel_rfl) (fun _ _ _ h => h) (Or.inl ⟨by rfl, ?_⟩) ?_ ?_ ?_; rotate_left; (·intro w'; go_simp; with_reducible rfl); rotate_left; (·simp only [Act.put, pt_]; rfl)
             refine tk_ 31 56 40 25769803775 ?_ HT_ HW_ rfl rfl (by kernel_rfl) (fun _ _ _ h => h) (Or.inl ⟨by rfl, ?_⟩) hHeld ?_ ?_ ?_; rotate_left; (·rintro w' ⟨s0, s1, s2, s3, s4, s5, s6⟩; go_simp; with_reducible rfl); rotate_left; (·simp only [Act.put, pt_]; rfl)
             refine tk_ 33 58 40 34359738367 ?_ HT_ HW_ rfl rfl (by kernel_rfl) (fun _ _ _ h => h) (Or.inl ⟨by rfl, ?_⟩) hHeld ?_ ?_ ?_; rotate_left; (·rintro w' ⟨s0, s1, s2, s3, s4, s5, s6⟩; go_simp; with_reducible rfl); rotate_left; (·simp only [Act.put, pt_]; rfl)
             refine tk_ 35 60 40 68719476735 ?_ HT_ HW_ rfl rfl (by kernel_rfl) (fun _ _ _ h => h) (Or.inl ⟨by rfl, ?_⟩) hHeld ?_ ?_ ?_; rotate_left; (·rintro w' ⟨s0, s1, s2, s3, s4, s5, s6⟩; go_simp; with_reducible rfl); rotate_left; (·simp only [Act.put, pt_]; rfl)
             refine one_ (i := 36) (N := some 61) (bs_ 40 137438953471) rfl rfl (one_of HT_.out (by kernel_rfl)) (by decide) (fun K hK => ?_)
             refine goes_ Try.func35 (by kernel_rfl) rfl #[.agg #[.int .i64 a0_0, .int .i64 a0_1, .string a0_2], .int .i64 ((rd_T42 l1 x5_2).f1), .int .i64 ((rd_T42 l1 x5_2).f2)] (by rfl) rfl rfl (by (try simp only [List.map_toArray, List.map_cons, List.map_nil]); first | done | rfl | (simp only [List.length_drop, List.length_take]; rfl)) ?_
             with_reducible refine (spec_Beside.calls k2 a0_0 a0_1 a0_2 ((rd_T42 l1 x5_2).f1) ((rd_T42 l1 x5_2).f2) t170 _ A47.out).mono ?_
             rintro e w51 ⟨rfl, hb⟩
             refine ⟨_, rfl, ?_⟩
             have n0_ := Aside0.mk (blk_below (g := gb161) (o := .cells #[.int .i64 a0_0, .int .i64 a0_1, .string a0_2] 38 (0, 0)) (by (with_reducible repeat (first | refine blk_drewN ?_ _ | refine blk_drew ?_ | refine blk_alloc ?_ _)); exact BK161.out) hb)
             have n1_ := Aside0.mk (blk_below (g := gb164) (o := .cells #[.int .i64 ((rd_T42 l1 x5_2).f0), .int .i64 ((rd_T42 l1 x5_2).f1), .int .i64 ((rd_T42 l1 x5_2).f2), .bool ((rd_T42 l1 x5_2).f3)] 42 (0, 0)) (by (with_reducible repeat (first | refine blk_drewN ?_ _ | refine blk_drew ?_ | refine blk_alloc ?_ _)); exact BK164.out) hb)
             have n2_ := Aside0.mk (below_step (by repeat (first | (with_reducible first | exact HB.out | apply below_alloc | apply pw_below_drewN | apply below_drew1 | refine below_set ?_ GE161.out | refine below_set ?_ GE164.out) | exact HB.out)) hb)
             clear BK161
             clear BK164
             clear HB
             have BK161 := n0_
             have BK164 := n1_
             have HB := n2_
             clear n0_ n1_ n2_
             (try clear hb)
             (try clear hb2)
             (try clear hk)
             (try clear hi)
             refine hK.out _ _ ⟨(blk_cell BK164.out 0).trans rfl, (blk_cell BK164.out 1).trans rfl, (blk_cell BK164.out 2).trans rfl, (blk_cell BK164.out 3).trans rfl, (blk_cell BK161.out 0).trans rfl, (blk_cell BK161.out 1).trans rfl, (blk_cell BK161.out 2).trans rfl⟩ (fun hHeld => ?_)
             clear hK K
             refine norm_ (a' := ?_) ?_ ?_
             rotate_left
             ·show Act.put _ (some 61) _ = _
              simp only [Act.put, pt_]
              rfl
             refine pu_ 37 62 40 274877906943 ?_ HT_ rfl rfl (by kernel_rfl) (fun _ _ _ h => h) (Or.inl ⟨by rfl, ?_⟩) ?_ ?_ ?_; rotate_left; (·intro w'; go_simp; with_reducible rfl); rotate_left; (·simp only [Act.put, pt_]; rfl)
             refine pu_ 38 63 40 549755813887 ?_ HT_ rfl rfl (by kernel_rfl) (fun _ _ _ h => h) (Or.inl ⟨by rfl, ?_⟩) ?_ ?_ ?_; rotate_left; (·intro w'; go_simp; with_reducible rfl); rotate_left; (·simp only [Act.put, pt_]; rfl)
             refine pu_ 39 64 40 1099511627775 ?_ HT_ rfl rfl (by kernel_rfl) (fun _ _ _ h => h) (Or.inl ⟨by rfl, ?_⟩) ?_ ?_ ?_; rotate_left; (·intro w'; go_simp; with_reducible rfl); rotate_left; (·simp only [Act.put, pt_]; rfl)
             refine done_ (done_of HT_.out (by kernel_rfl)) ?_
             try go_wp2
             go_meet
             case rel => exact ⟨_, (!t170), (by first | rfl | (simp; done) | (simp [*]; done)), H', ⟨by have := HJ2.out; have := HK2.out; first | omega | exact Nat.le_refl _⟩, ⟨by (with_reducible repeat (first | refine blk_drewN ?_ _ | refine blk_drew ?_ | refine blk_alloc ?_ _)); exact BK161.out⟩, ⟨by (with_reducible repeat (first | refine blk_drewN ?_ _ | refine blk_drew ?_ | refine blk_alloc ?_ _)); exact BK164.out⟩, ⟨by repeat (first | (with_reducible first | exact HB.out | apply below_alloc | apply pw_below_drewN | apply below_drew1 | refine below_set ?_ GE161.out | refine below_set ?_ GE164.out) | exact HB.out)⟩⟩
           ·replace c42 := Bool.eq_false_iff.mpr c42
            subst c42
            have H1 : (spec_RobotsOk.j2 k2 l1 x5_2 true a0_0 a0_1 a0_2 ((rd_T42 l1 x5_2).f0) ((rd_T42 l1 x5_2).f1) ((rd_T42 l1 x5_2).f2) ((rd_T42 l1 x5_2).f3)) = some r := by rw [if_neg (show ¬ (false = true) by decide)] at H; exact H
            clear H
            have H := H1
            clear H1
            have H' := Aside0.mk H
            clear H
            try go_wp2
            have n0_ : Aside0 (((((w15.setCell ⟨gb164, 0, none⟩ (.int .i64 ((rd_T42 l1 x5_2).f0))).setCell ⟨gb164, 1, none⟩ (.int .i64 ((rd_T42 l1 x5_2).f1))).setCell ⟨gb164, 2, none⟩ (.int .i64 ((rd_T42 l1 x5_2).f2))).setCell ⟨gb164, 3, none⟩ (.bool ((rd_T42 l1 x5_2).f3))).heap[gb161]? = some (.cells #[.int .i64 a0_0, .int .i64 a0_1, .string a0_2] 38 (0, 0))) := ⟨by (with_reducible repeat (first | refine blk_drewN ?_ _ | refine blk_drew ?_ | refine blk_alloc ?_ _)); refine blk_far ?_ NB161_164.out _; (with_reducible repeat (first | refine blk_drewN ?_ _ | refine blk_drew ?_ | refine blk_alloc ?_ _)); refine blk_far ?_ NB161_164.out _; (with_reducible repeat (first | refine blk_drewN ?_ _ | refine blk_drew ?_ | refine blk_alloc ?_ _)); refine blk_far ?_ NB161_164.out _; (with_reducible repeat (first | refine blk_drewN ?_ _ | refine blk_drew ?_ | refine blk_alloc ?_ _)); refine blk_far ?_ NB161_164.out _; (with_reducible repeat (first | refine blk_drewN ?_ _ | refine blk_drew ?_ | refine blk_alloc ?_ _)); exact BK161.out⟩
            have n1_ : Aside0 (((((w15.setCell ⟨gb164, 0, none⟩ (.int .i64 ((rd_T42 l1 x5_2).f0))).setCell ⟨gb164, 1, none⟩ (.int .i64 ((rd_T42 l1 x5_2).f1))).setCell ⟨gb164, 2, none⟩ (.int .i64 ((rd_T42 l1 x5_2).f2))).setCell ⟨gb164, 3, none⟩ (.bool ((rd_T42 l1 x5_2).f3))).heap[gb164]? = some (.cells #[.int .i64 ((rd_T42 l1 x5_2).f0), .int .i64 ((rd_T42 l1 x5_2).f1), .int .i64 ((rd_T42 l1 x5_2).f2), .bool ((rd_T42 l1 x5_2).f3)] 42 (0, 0))) := ⟨by (with_reducible repeat (first | refine blk_drewN ?_ _ | refine blk_drew ?_ | refine blk_alloc ?_ _)); refine blk_put (cs := #[.int .i64 ((rd_T42 l1 x5_2).f0), .int .i64 ((rd_T42 l1 x5_2).f1), .int .i64 ((rd_T42 l1 x5_2).f2), .bool false]) ?_ 3 _ rfl; (with_reducible repeat (first | refine blk_drewN ?_ _ | refine blk_drew ?_ | refine blk_alloc ?_ _)); refine blk_put (cs := #[.int .i64 ((rd_T42 l1 x5_2).f0), .int .i64 ((rd_T42 l1 x5_2).f1), .int .i64 0, .bool false]) ?_ 2 _ rfl; (with_reducible repeat (first | refine blk_drewN ?_ _ | refine blk_drew ?_ | refine blk_alloc ?_ _)); refine blk_put (cs := #[.int .i64 ((rd_T42 l1 x5_2).f0), .int .i64 0, .int .i64 0, .bool false]) ?_ 1 _ rfl; (with_reducible repeat (first | refine blk_drewN ?_ _ | refine blk_drew ?_ | refine blk_alloc ?_ _)); refine blk_put (cs := #[.int .i64 0, .int .i64 0, .int .i64 0, .bool false]) ?_ 0 _ rfl; (with_reducible repeat (first | refine blk_drewN ?_ _ | refine blk_drew ?_ | refine blk_alloc ?_ _)); exact BK164.out⟩
            have n2_ : Aside0 (Below w.heap.size w ((((w15.setCell ⟨gb164, 0, none⟩ (.int .i64 ((rd_T42 l1 x5_2).f0))).setCell ⟨gb164, 1, none⟩ (.int .i64 ((rd_T42 l1 x5_2).f1))).setCell ⟨gb164, 2, none⟩ (.int .i64 ((rd_T42 l1 x5_2).f2))).setCell ⟨gb164, 3, none⟩ (.bool ((rd_T42 l1 x5_2).f3)))) := ⟨by repeat (first | (with_reducible first | exact HB.out | apply below_alloc | apply pw_below_drewN | apply below_drew1 | refine below_set ?_ GE161.out | refine below_set ?_ GE164.out) | exact HB.out)⟩
            (try clear BK161)
            (try clear BK164)
            (try clear HB)
            generalize ((((w15.setCell ⟨gb164, 0, none⟩ (.int .i64 ((rd_T42 l1 x5_2).f0))).setCell ⟨gb164, 1, none⟩ (.int .i64 ((rd_T42 l1 x5_2).f1))).setCell ⟨gb164, 2, none⟩ (.int .i64 ((rd_T42 l1 x5_2).f2))).setCell ⟨gb164, 3, none⟩ (.bool ((rd_T42 l1 x5_2).f3))) = w52 at n0_ n1_ n2_ ⊢
            have BK161 := n0_
            have BK164 := n1_
            have HB := n2_
            clear n0_ n1_ n2_
            have n0_ := Aside0.mk (blk_drew BK161.out)
            have n1_ := Aside0.mk (blk_drew BK164.out)
            have n2_ := Aside0.mk (below_drew1 HB.out)
            clear BK161
            clear BK164
            clear HB
            have BK161 := n0_
            have BK164 := n1_
            have HB := n2_
            clear n0_ n1_ n2_
            refine start_ (n := 40) (S := fun w' => w'.cell? ⟨gb164, 0, none⟩ = some (.int .i64 ((rd_T42 l1 x5_2).f0)) ∧ w'.cell? ⟨gb164, 1, none⟩ = some (.int .i64 ((rd_T42 l1 x5_2).f1)) ∧ w'.cell? ⟨gb164, 2, none⟩ = some (.int .i64 ((rd_T42 l1 x5_2).f2)) ∧ w'.cell? ⟨gb164, 3, none⟩ = some (.bool ((rd_T42 l1 x5_2).f3)) ∧ w'.cell? ⟨gb161, 0, none⟩ = some (.int .i64 a0_0) ∧ w'.cell? ⟨gb161, 1, none⟩ = some (.int .i64 a0_1) ∧ w'.cell? ⟨gb161, 2, none⟩ = some (.string a0_2)) (ds := []) #[false, false, false, false, false, false, false, false, false, false, false, false, false, false, false, false, false, false, false, false, false, false, false, false, false, false, false, false, false, false, false, false, false, false, false, false, false, false, false, false] (by kernel_rfl) rfl rfl ⟨(blk_cell BK164.out 0).trans rfl, (blk_cell BK164.out 1).trans rfl, (blk_cell BK164.out 2).trans rfl, (blk_cell BK164.out 3).trans rfl, (blk_cell BK161.out 0).trans rfl, (blk_cell BK161.out 1).trans rfl, (blk_cell BK161.out 2).trans rfl⟩ (fun hHeld => ?_); refine with_tabW spec_RobotsOk.tab7 spec_RobotsOk.bits7 (fun HT_ HW_ => ?_)
            generalize w52.drew = w53 at BK161 BK164 HB hHeld ⊢
            refine pu_ 0 25 40 1 ?_ HT_ rfl rfl (by kernel_rfl) (fun _ _ _ h => h) (Or.inl ⟨by rfl, ?_⟩) ?_ ?_ ?_; rotate_left; (·intro w'; go_simp; with_reducible rfl); rotate_left; (·simp only [Act.put, pt_]; rfl)
            refine tk_ 1 26 40 3 ?_ HT_ HW_ rfl rfl (by kernel_rfl) (fun _ _ _ h => h) (Or.inl ⟨by rfl, ?_⟩) hHeld ?_ ?_ ?_; rotate_left; (·rintro w' ⟨s0, s1, s2, s3, s4, s5, s6⟩; go_simp; with_reducible rfl); rotate_left; (·simp only [Act.put, pt_]; rfl)
            refine one_ (i := 2) (N := some 27) (bs_ 40 7) rfl rfl (one_of HT_.out (by kernel_rfl)) (by decide) (fun K hK => ?_)
            refine goes_ Try.func33 (by kernel_rfl) rfl #[.int .i64 ((rd_T42 l1 x5_2).f0), .int .i64 0, .int .i64 99] (by rfl) rfl rfl (by (try simp only [List.map_toArray, List.map_cons, List.map_nil]); first | done | rfl | (simp only [List.length_drop, List.length_take]; rfl)) ?_
            with_reducible refine (spec_l01In.calls ((rd_T42 l1 x5_2).f0) 0 99 true _ A18.out).mono ?_
            rintro e w' ⟨rfl, ⟨nd, rfl⟩⟩
            refine ⟨_, rfl, ?_⟩
            refine hK.out _ _ ⟨(blk_cell BK164.out 0).trans rfl, (blk_cell BK164.out 1).trans rfl, (blk_cell BK164.out 2).trans rfl, (blk_cell BK164.out 3).trans rfl, (blk_cell BK161.out 0).trans rfl, (blk_cell BK161.out 1).trans rfl, (blk_cell BK161.out 2).trans rfl⟩ (fun hHeld => ?_)
            clear hK K
            refine norm_ (a' := ?_) ?_ ?_
            rotate_left
            ·show Act.put _ (some 27) _ = _
             simp only [Act.put, pt_]
             rfl
            refine pu_ 3 28 40 15 ?_ HT_ rfl rfl (by kernel_rfl) (fun _ _ _ h => h) (Or.inl ⟨by rfl, ?_⟩) ?_ ?_ ?_; rotate_left; (·intro w'; go_simp; with_reducible rfl); rotate_left; (·simp only [Act.put, pt_]; rfl)
            refine pu_ 4 29 40 31 ?_ HT_ rfl rfl (by kernel_rfl) (fun _ _ _ h => h) (Or.inl ⟨by rfl, ?_⟩) ?_ ?_ ?_; rotate_left; (·intro w'; go_simp; with_reducible rfl); rotate_left; (·simp only [Act.put, pt_]; rfl)
            refine pu_ 5 30 40 63 ?_ HT_ rfl rfl (by kernel_rfl) (fun _ _ _ h => h) (Or.inl ⟨by rfl, ?_⟩) ?_ ?_ ?_; rotate_left; (·intro w'; go_simp; with_reducible rfl); rotate_left; (·simp only [Act.put, pt_]; rfl)
            refine pu_ 6 31 40 127 ?_ HT_ rfl rfl (by kernel_rfl) (fun _ _ _ h => h) (Or.inl ⟨by rfl, ?_⟩) ?_ ?_ ?_; rotate_left; (·intro w'; go_simp; with_reducible rfl); rotate_left; (·simp only [Act.put, pt_]; rfl)
            refine pu_ 7 32 40 255 ?_ HT_ rfl rfl (by kernel_rfl) (fun _ _ _ h => h) (Or.inl ⟨by rfl, ?_⟩) ?_ ?_ ?_; rotate_left; (·intro w'; go_simp; with_reducible rfl); rotate_left; (·simp only [Act.put, pt_]; rfl)
            refine pu_ 8 33 40 511 undef HT_ rfl rfl (by kernel_rfl) (fun _ _ _ h => h) (Or.inr ⟨by rfl, rfl⟩) ?_ ?_ ?_; rotate_left; (·simp only [Act.put, pt_]; rfl)
            refine pu_ 9 34 40 1023 undef HT_ rfl rfl (by kernel_rfl) (fun _ _ _ h => h) (Or.inr ⟨by rfl, rfl⟩) ?_ ?_ ?_; rotate_left; (·simp only [Act.put, pt_]; rfl)
            refine pu_ 10 35 40 2047 undef HT_ rfl rfl (by kernel_rfl) (fun _ _ _ h => h) (Or.inr ⟨by rfl, rfl⟩) ?_ ?_ ?_; rotate_left; (·simp only [Act.put, pt_]; rfl)
            refine pu_ 11 36 40 4095 undef HT_ rfl rfl (by kernel_rfl) (fun _ _ _ h => h) (Or.inr ⟨by rfl, rfl⟩) ?_ ?_ ?_; rotate_left; (·simp only [Act.put, pt_]; rfl)
            refine pu_ 12 37 40 8191 undef HT_ rfl rfl (by kernel_rfl) (fun _ _ _ h => h) (Or.inr ⟨by rfl, rfl⟩) ?_ ?_ ?_; rotate_left; (·simp only [Act.put, pt_]; rfl)
            refine pu_ 13 38 40 16383 undef HT_ rfl rfl (by kernel_rfl) (fun _ _ _ h => h) (Or.inr ⟨by rfl, rfl⟩) ?_ ?_ ?_; rotate_left; (·simp only [Act.put, pt_]; rfl)
            refine pu_ 14 39 40 32767 undef HT_ rfl rfl (by kernel_rfl) (fun _ _ _ h => h) (Or.inr ⟨by rfl, rfl⟩) ?_ ?_ ?_; rotate_left; (·simp only [Act.put, pt_]; rfl)
            refine pu_ 15 40 40 65535 undef HT_ rfl rfl (by kernel_rfl) (fun _ _ _ h => h) (Or.inr ⟨by rfl, rfl⟩) ?_ ?_ ?_; rotate_left; (·simp only [Act.put, pt_]; rfl)
            refine pu_ 16 41 40 131071 undef HT_ rfl rfl (by kernel_rfl) (fun _ _ _ h => h) (Or.inr ⟨by rfl, rfl⟩) ?_ ?_ ?_; rotate_left; (·simp only [Act.put, pt_]; rfl)
            refine pu_ 17 42 40 262143 ?_ HT_ rfl rfl (by kernel_rfl) (fun _ _ _ h => h) (Or.inl ⟨by rfl, ?_⟩) ?_ ?_ ?_; rotate_left; (·intro w'; go_simp; with_reducible rfl); rotate_left; (·simp only [Act.put, pt_]; rfl)
            refine pu_ 18 43 40 524287 ?_ HT_ rfl rfl (by kernel_rfl) (fun _ _ _ h => h) (Or.inl ⟨by rfl, ?_⟩) ?_ ?_ ?_; rotate_left; (·intro w'; go_simp; with_reducible rfl); rotate_left; (·simp only [Act.put, pt_]; rfl)
            refine pu_ 19 44 40 1048575 ?_ HT_ rfl rfl (by kernel_rfl) (fun _ _ _ h => h) (Or.inl ⟨by rfl, ?_⟩) ?_ ?_ ?_; rotate_left; (·intro w'; go_simp; with_reducible rfl); rotate_left; (·simp only [Act.put, pt_]; rfl)
            refine pu_ 21 46 40 3145727 ?_ HT_ rfl rfl (by kernel_rfl) (fun _ _ _ h => h) (Or.inl ⟨by rfl, ?_⟩) ?_ ?_ ?_; rotate_left; (·intro w'; go_simp; with_reducible rfl); rotate_left; (·simp only [Act.put, pt_]; rfl)
            refine tk_ 20 45 40 4194303 ?_ HT_ HW_ rfl rfl (by kernel_rfl) (fun _ _ _ h => h) (Or.inl ⟨by rfl, ?_⟩) hHeld ?_ ?_ ?_; rotate_left; (·rintro w' ⟨s0, s1, s2, s3, s4, s5, s6⟩; go_simp; with_reducible rfl); rotate_left; (·simp only [Act.put, pt_]; rfl)
            refine tk_ 22 47 40 8388607 ?_ HT_ HW_ rfl rfl (by kernel_rfl) (fun _ _ _ h => h) (Or.inl ⟨by rfl, ?_⟩) hHeld ?_ ?_ ?_; rotate_left; (·rintro w' ⟨s0, s1, s2, s3, s4, s5, s6⟩; go_simp; with_reducible rfl); rotate_left; (·simp only [Act.put, pt_]; rfl)
            refine one_ (i := 23) (N := some 48) (bs_ 40 16777215) rfl rfl (one_of HT_.out (by kernel_rfl)) (by decide) (fun K hK => ?_)
            refine goes_ Try.func34 (by kernel_rfl) rfl #[.agg #[.int .i64 a0_0, .int .i64 a0_1, .string a0_2], .int .i64 ((rd_T42 l1 x5_2).f1)] (by rfl) rfl rfl (by (try simp only [List.map_toArray, List.map_cons, List.map_nil]); first | done | rfl | (simp only [List.length_drop, List.length_take]; rfl)) ?_
            with_reducible refine (spec_FreeAt.calls k2 a0_0 a0_1 a0_2 ((rd_T42 l1 x5_2).f1) false _ A41.out).mono ?_
            rintro e w54 ⟨rfl, hb⟩
            refine ⟨_, rfl, ?_⟩
            have n0_ := Aside0.mk (blk_below (g := gb161) (o := .cells #[.int .i64 a0_0, .int .i64 a0_1, .string a0_2] 38 (0, 0)) (by (with_reducible repeat (first | refine blk_drewN ?_ _ | refine blk_drew ?_ | refine blk_alloc ?_ _)); exact BK161.out) hb)
            have n1_ := Aside0.mk (blk_below (g := gb164) (o := .cells #[.int .i64 ((rd_T42 l1 x5_2).f0), .int .i64 ((rd_T42 l1 x5_2).f1), .int .i64 ((rd_T42 l1 x5_2).f2), .bool ((rd_T42 l1 x5_2).f3)] 42 (0, 0)) (by (with_reducible repeat (first | refine blk_drewN ?_ _ | refine blk_drew ?_ | refine blk_alloc ?_ _)); exact BK164.out) hb)
            have n2_ := Aside0.mk (below_step (by repeat (first | (with_reducible first | exact HB.out | apply below_alloc | apply pw_below_drewN | apply below_drew1 | refine below_set ?_ GE161.out | refine below_set ?_ GE164.out) | exact HB.out)) hb)
            clear BK161
            clear BK164
            clear HB
            have BK161 := n0_
            have BK164 := n1_
            have HB := n2_
            clear n0_ n1_ n2_
            (try clear hb)
            (try clear hb2)
            (try clear hk)
            (try clear hi)
            refine hK.out _ _ ⟨(blk_cell BK164.out 0).trans rfl, (blk_cell BK164.out 1).trans rfl, (blk_cell BK164.out 2).trans rfl, (blk_cell BK164.out 3).trans rfl, (blk_cell BK161.out 0).trans rfl, (blk_cell BK161.out 1).trans rfl, (blk_cell BK161.out 2).trans rfl⟩ (fun hHeld => ?_)
            clear hK K
            refine norm_ (a' := ?_) ?_ ?_
            rotate_left
            ·show Act.put _ (some 48) _ = _
             simp only [Act.put, pt_]
             rfl
            refine pu_ 24 49 40 33554431 ?_ HT_ rfl rfl (by kernel_rfl) (fun _ _ _ h => h) (Or.inl ⟨by rfl, ?_⟩) ?_ ?_ ?_; rotate_left; (·intro w'; go_simp; with_reducible rfl); rotate_left; (·simp only [Act.put, pt_]; rfl)
            refine pu_ 25 50 40 67108863 ?_ HT_ rfl rfl (by kernel_rfl) (fun _ _ _ h => h) (Or.inl ⟨by rfl, ?_⟩) ?_ ?_ ?_; rotate_left; (·intro w'; go_simp; with_reducible rfl); rotate_left; (·simp only [Act.put, pt_]; rfl)
            refine pu_ 26 51 40 134217727 ?_ HT_ rfl rfl (by kernel_rfl) (fun _ _ _ h => h) (Or.inl ⟨by rfl, ?_⟩) ?_ ?_ ?_; rotate_left; (·intro w'; go_simp; with_reducible rfl); rotate_left; (·simp only [Act.put, pt_]; rfl)
            refine pu_ 27 52 40 268435455 undef HT_ rfl rfl (by kernel_rfl) (fun _ _ _ h => h) (Or.inr ⟨by rfl, rfl⟩) ?_ ?_ ?_; rotate_left; (·simp only [Act.put, pt_]; rfl)
            refine pu_ 28 53 40 536870911 undef HT_ rfl rfl (by kernel_rfl) (fun _ _ _ h => h) (Or.inr ⟨by rfl, rfl⟩) ?_ ?_ ?_; rotate_left; (·simp only [Act.put, pt_]; rfl)
            refine pu_ 29 54 40 1073741823 undef HT_ rfl rfl (by kernel_rfl) (fun _ _ _ h => h) (Or.inr ⟨by rfl, rfl⟩) ?_ ?_ ?_; rotate_left; (·simp only [Act.put, pt_]; rfl)
            refine pu_ 30 55 40 2147483647 undef HT_ rfl rfl (by kernel_rfl) (fun _ _ _ h => h) (Or.inr ⟨by rfl, rfl⟩) ?_ ?_ ?_; rotate_left; (·simp only [Act.put, pt_]; rfl)
            refine pu_ 31 56 40 4294967295 undef HT_ rfl rfl (by kernel_rfl) (fun _ _ _ h => h) (Or.inr ⟨by rfl, rfl⟩) ?_ ?_ ?_; rotate_left; (·simp only [Act.put, pt_]; rfl)
            refine pu_ 32 57 40 8589934591 undef HT_ rfl rfl (by kernel_rfl) (fun _ _ _ h => h) (Or.inr ⟨by rfl, rfl⟩) ?_ ?_ ?_; rotate_left; (·simp only [Act.put, pt_]; rfl)
            refine pu_ 33 58 40 17179869183 undef HT_ rfl rfl (by kernel_rfl) (fun _ _ _ h => h) (Or.inr ⟨by rfl, rfl⟩) ?_ ?_ ?_; rotate_left; (·simp only [Act.put, pt_]; rfl)
            refine pu_ 34 59 40 34359738367 undef HT_ rfl rfl (by kernel_rfl) (fun _ _ _ h => h) (Or.inr ⟨by rfl, rfl⟩) ?_ ?_ ?_; rotate_left; (·simp only [Act.put, pt_]; rfl)
            refine pu_ 35 60 40 68719476735 undef HT_ rfl rfl (by kernel_rfl) (fun _ _ _ h => h) (Or.inr ⟨by rfl, rfl⟩) ?_ ?_ ?_; rotate_left; (·simp only [Act.put, pt_]; rfl)
            refine pu_ 36 61 40 137438953471 undef HT_ rfl rfl (by kernel_rfl) (fun _ _ _ h => h) (Or.inr ⟨by rfl, rfl⟩) ?_ ?_ ?_; rotate_left; (·simp only [Act.put, pt_]; rfl)
            refine pu_ 37 62 40 274877906943 undef HT_ rfl rfl (by kernel_rfl) (fun _ _ _ h => h) (Or.inr ⟨by rfl, rfl⟩) ?_ ?_ ?_; rotate_left; (·simp only [Act.put, pt_]; rfl)
            refine pu_ 38 63 40 549755813887 undef HT_ rfl rfl (by kernel_rfl) (fun _ _ _ h => h) (Or.inr ⟨by rfl, rfl⟩) ?_ ?_ ?_; rotate_left; (·simp only [Act.put, pt_]; rfl)
            refine pu_ 39 64 40 1099511627775 ?_ HT_ rfl rfl (by kernel_rfl) (fun _ _ _ h => h) (Or.inl ⟨by rfl, ?_⟩) ?_ ?_ ?_; rotate_left; (·intro w'; go_simp; with_reducible rfl); rotate_left; (·simp only [Act.put, pt_]; rfl)
            refine done_ (done_of HT_.out (by kernel_rfl)) ?_
            try go_wp2
            go_meet
            case rel => exact ⟨_, (true), (by first | rfl | (simp; done) | (simp [*]; done)), H', ⟨by have := HJ2.out; have := HK2.out; first | omega | exact Nat.le_refl _⟩, ⟨by (with_reducible repeat (first | refine blk_drewN ?_ _ | refine blk_drew ?_ | refine blk_alloc ?_ _)); exact BK161.out⟩, ⟨by (with_reducible repeat (first | refine blk_drewN ?_ _ | refine blk_drew ?_ | refine blk_alloc ?_ _)); exact BK164.out⟩, ⟨by repeat (first | (with_reducible first | exact HB.out | apply below_alloc | apply pw_below_drewN | apply below_drew1 | refine below_set ?_ GE161.out | refine below_set ?_ GE164.out) | exact HB.out)⟩⟩
         ·replace c19 := Bool.eq_false_iff.mpr c19
          subst c19
          have H1 : (spec_RobotsOk.j2 k2 l1 x5_2 true a0_0 a0_1 a0_2 ((rd_T42 l1 x5_2).f0) ((rd_T42 l1 x5_2).f1) ((rd_T42 l1 x5_2).f2) ((rd_T42 l1 x5_2).f3)) = some r := by rw [if_neg (show ¬ (false = true) by decide)] at H; exact H
          clear H
          have H := H1
          clear H1
          have H' := Aside0.mk H
          clear H
          try go_wp2
          have n0_ : Aside0 (((((w15.setCell ⟨gb164, 0, none⟩ (.int .i64 ((rd_T42 l1 x5_2).f0))).setCell ⟨gb164, 1, none⟩ (.int .i64 ((rd_T42 l1 x5_2).f1))).setCell ⟨gb164, 2, none⟩ (.int .i64 ((rd_T42 l1 x5_2).f2))).setCell ⟨gb164, 3, none⟩ (.bool ((rd_T42 l1 x5_2).f3))).heap[gb161]? = some (.cells #[.int .i64 a0_0, .int .i64 a0_1, .string a0_2] 38 (0, 0))) := ⟨by (with_reducible repeat (first | refine blk_drewN ?_ _ | refine blk_drew ?_ | refine blk_alloc ?_ _)); refine blk_far ?_ NB161_164.out _; (with_reducible repeat (first | refine blk_drewN ?_ _ | refine blk_drew ?_ | refine blk_alloc ?_ _)); refine blk_far ?_ NB161_164.out _; (with_reducible repeat (first | refine blk_drewN ?_ _ | refine blk_drew ?_ | refine blk_alloc ?_ _)); refine blk_far ?_ NB161_164.out _; (with_reducible repeat (first | refine blk_drewN ?_ _ | refine blk_drew ?_ | refine blk_alloc ?_ _)); refine blk_far ?_ NB161_164.out _; (with_reducible repeat (first | refine blk_drewN ?_ _ | refine blk_drew ?_ | refine blk_alloc ?_ _)); exact BK161.out⟩
          have n1_ : Aside0 (((((w15.setCell ⟨gb164, 0, none⟩ (.int .i64 ((rd_T42 l1 x5_2).f0))).setCell ⟨gb164, 1, none⟩ (.int .i64 ((rd_T42 l1 x5_2).f1))).setCell ⟨gb164, 2, none⟩ (.int .i64 ((rd_T42 l1 x5_2).f2))).setCell ⟨gb164, 3, none⟩ (.bool ((rd_T42 l1 x5_2).f3))).heap[gb164]? = some (.cells #[.int .i64 ((rd_T42 l1 x5_2).f0), .int .i64 ((rd_T42 l1 x5_2).f1), .int .i64 ((rd_T42 l1 x5_2).f2), .bool ((rd_T42 l1 x5_2).f3)] 42 (0, 0))) := ⟨by (with_reducible repeat (first | refine blk_drewN ?_ _ | refine blk_drew ?_ | refine blk_alloc ?_ _)); refine blk_put (cs := #[.int .i64 ((rd_T42 l1 x5_2).f0), .int .i64 ((rd_T42 l1 x5_2).f1), .int .i64 ((rd_T42 l1 x5_2).f2), .bool false]) ?_ 3 _ rfl; (with_reducible repeat (first | refine blk_drewN ?_ _ | refine blk_drew ?_ | refine blk_alloc ?_ _)); refine blk_put (cs := #[.int .i64 ((rd_T42 l1 x5_2).f0), .int .i64 ((rd_T42 l1 x5_2).f1), .int .i64 0, .bool false]) ?_ 2 _ rfl; (with_reducible repeat (first | refine blk_drewN ?_ _ | refine blk_drew ?_ | refine blk_alloc ?_ _)); refine blk_put (cs := #[.int .i64 ((rd_T42 l1 x5_2).f0), .int .i64 0, .int .i64 0, .bool false]) ?_ 1 _ rfl; (with_reducible repeat (first | refine blk_drewN ?_ _ | refine blk_drew ?_ | refine blk_alloc ?_ _)); refine blk_put (cs := #[.int .i64 0, .int .i64 0, .int .i64 0, .bool false]) ?_ 0 _ rfl; (with_reducible repeat (first | refine blk_drewN ?_ _ | refine blk_drew ?_ | refine blk_alloc ?_ _)); exact BK164.out⟩
          have n2_ : Aside0 (Below w.heap.size w ((((w15.setCell ⟨gb164, 0, none⟩ (.int .i64 ((rd_T42 l1 x5_2).f0))).setCell ⟨gb164, 1, none⟩ (.int .i64 ((rd_T42 l1 x5_2).f1))).setCell ⟨gb164, 2, none⟩ (.int .i64 ((rd_T42 l1 x5_2).f2))).setCell ⟨gb164, 3, none⟩ (.bool ((rd_T42 l1 x5_2).f3)))) := ⟨by repeat (first | (with_reducible first | exact HB.out | apply below_alloc | apply pw_below_drewN | apply below_drew1 | refine below_set ?_ GE161.out | refine below_set ?_ GE164.out) | exact HB.out)⟩
          (try clear BK161)
          (try clear BK164)
          (try clear HB)
          generalize ((((w15.setCell ⟨gb164, 0, none⟩ (.int .i64 ((rd_T42 l1 x5_2).f0))).setCell ⟨gb164, 1, none⟩ (.int .i64 ((rd_T42 l1 x5_2).f1))).setCell ⟨gb164, 2, none⟩ (.int .i64 ((rd_T42 l1 x5_2).f2))).setCell ⟨gb164, 3, none⟩ (.bool ((rd_T42 l1 x5_2).f3))) = w55 at n0_ n1_ n2_ ⊢
          have BK161 := n0_
          have BK164 := n1_
          have HB := n2_
          clear n0_ n1_ n2_
          have n0_ := Aside0.mk (blk_drew BK161.out)
          have n1_ := Aside0.mk (blk_drew BK164.out)
          have n2_ := Aside0.mk (below_drew1 HB.out)
          clear BK161
          clear BK164
          clear HB
          have BK161 := n0_
          have BK164 := n1_
          have HB := n2_
          clear n0_ n1_ n2_
          refine start_ (n := 40) (S := fun w' => w'.cell? ⟨gb164, 0, none⟩ = some (.int .i64 ((rd_T42 l1 x5_2).f0)) ∧ w'.cell? ⟨gb164, 1, none⟩ = some (.int .i64 ((rd_T42 l1 x5_2).f1)) ∧ w'.cell? ⟨gb164, 2, none⟩ = some (.int .i64 ((rd_T42 l1 x5_2).f2)) ∧ w'.cell? ⟨gb164, 3, none⟩ = some (.bool ((rd_T42 l1 x5_2).f3))) (ds := []) #[false, false, false, false, false, false, false, false, false, false, false, false, false, false, false, false, false, false, false, false, false, false, false, false, false, false, false, false, false, false, false, false, false, false, false, false, false, false, false, false] (by kernel_rfl) rfl rfl ⟨(blk_cell BK164.out 0).trans rfl, (blk_cell BK164.out 1).trans rfl, (blk_cell BK164.out 2).trans rfl, (blk_cell BK164.out 3).trans rfl⟩ (fun hHeld => ?_); refine with_tabW spec_RobotsOk.tab7 spec_RobotsOk.bits7 (fun HT_ HW_ => ?_)
          generalize w55.drew = w56 at BK161 BK164 HB hHeld ⊢
          refine pu_ 0 25 40 1 ?_ HT_ rfl rfl (by kernel_rfl) (fun _ _ _ h => h) (Or.inl ⟨by rfl, ?_⟩) ?_ ?_ ?_; rotate_left; (·intro w'; go_simp; with_reducible rfl); rotate_left; (·simp only [Act.put, pt_]; rfl)
          refine tk_ 1 26 40 3 ?_ HT_ HW_ rfl rfl (by kernel_rfl) (fun _ _ _ h => h) (Or.inl ⟨by rfl, ?_⟩) hHeld ?_ ?_ ?_; rotate_left; (·rintro w' ⟨s0, s1, s2, s3⟩; go_simp; with_reducible rfl); rotate_left; (·simp only [Act.put, pt_]; rfl)
          refine one_ (i := 2) (N := some 27) (bs_ 40 7) rfl rfl (one_of HT_.out (by kernel_rfl)) (by decide) (fun K hK => ?_)
          refine goes_ Try.func33 (by kernel_rfl) rfl #[.int .i64 ((rd_T42 l1 x5_2).f0), .int .i64 0, .int .i64 99] (by rfl) rfl rfl (by (try simp only [List.map_toArray, List.map_cons, List.map_nil]); first | done | rfl | (simp only [List.length_drop, List.length_take]; rfl)) ?_
          with_reducible refine (spec_l01In.calls ((rd_T42 l1 x5_2).f0) 0 99 false _ A18.out).mono ?_
          rintro e w' ⟨rfl, ⟨nd, rfl⟩⟩
          refine ⟨_, rfl, ?_⟩
          refine hK.out _ _ ⟨(blk_cell BK164.out 0).trans rfl, (blk_cell BK164.out 1).trans rfl, (blk_cell BK164.out 2).trans rfl, (blk_cell BK164.out 3).trans rfl⟩ (fun hHeld => ?_)
          clear hK K
          refine norm_ (a' := ?_) ?_ ?_
          rotate_left
          ·show Act.put _ (some 27) _ = _
           simp only [Act.put, pt_]
           rfl
          refine pu_ 3 28 40 15 ?_ HT_ rfl rfl (by kernel_rfl) (fun _ _ _ h => h) (Or.inl ⟨by rfl, ?_⟩) ?_ ?_ ?_; rotate_left; (·intro w'; go_simp; with_reducible rfl); rotate_left; (·simp only [Act.put, pt_]; rfl)
          refine pu_ 4 29 40 31 ?_ HT_ rfl rfl (by kernel_rfl) (fun _ _ _ h => h) (Or.inl ⟨by rfl, ?_⟩) ?_ ?_ ?_; rotate_left; (·intro w'; go_simp; with_reducible rfl); rotate_left; (·simp only [Act.put, pt_]; rfl)
          refine pu_ 5 30 40 63 undef HT_ rfl rfl (by kernel_rfl) (fun _ _ _ h => h) (Or.inr ⟨by rfl, rfl⟩) ?_ ?_ ?_; rotate_left; (·simp only [Act.put, pt_]; rfl)
          refine pu_ 6 31 40 127 undef HT_ rfl rfl (by kernel_rfl) (fun _ _ _ h => h) (Or.inr ⟨by rfl, rfl⟩) ?_ ?_ ?_; rotate_left; (·simp only [Act.put, pt_]; rfl)
          refine pu_ 7 32 40 255 undef HT_ rfl rfl (by kernel_rfl) (fun _ _ _ h => h) (Or.inr ⟨by rfl, rfl⟩) ?_ ?_ ?_; rotate_left; (·simp only [Act.put, pt_]; rfl)
          refine pu_ 8 33 40 511 undef HT_ rfl rfl (by kernel_rfl) (fun _ _ _ h => h) (Or.inr ⟨by rfl, rfl⟩) ?_ ?_ ?_; rotate_left; (·simp only [Act.put, pt_]; rfl)
          refine pu_ 9 34 40 1023 undef HT_ rfl rfl (by kernel_rfl) (fun _ _ _ h => h) (Or.inr ⟨by rfl, rfl⟩) ?_ ?_ ?_; rotate_left; (·simp only [Act.put, pt_]; rfl)
          refine pu_ 10 35 40 2047 undef HT_ rfl rfl (by kernel_rfl) (fun _ _ _ h => h) (Or.inr ⟨by rfl, rfl⟩) ?_ ?_ ?_; rotate_left; (·simp only [Act.put, pt_]; rfl)
          refine pu_ 11 36 40 4095 undef HT_ rfl rfl (by kernel_rfl) (fun _ _ _ h => h) (Or.inr ⟨by rfl, rfl⟩) ?_ ?_ ?_; rotate_left; (·simp only [Act.put, pt_]; rfl)
          refine pu_ 12 37 40 8191 undef HT_ rfl rfl (by kernel_rfl) (fun _ _ _ h => h) (Or.inr ⟨by rfl, rfl⟩) ?_ ?_ ?_; rotate_left; (·simp only [Act.put, pt_]; rfl)
          refine pu_ 13 38 40 16383 undef HT_ rfl rfl (by kernel_rfl) (fun _ _ _ h => h) (Or.inr ⟨by rfl, rfl⟩) ?_ ?_ ?_; rotate_left; (·simp only [Act.put, pt_]; rfl)
          refine pu_ 14 39 40 32767 undef HT_ rfl rfl (by kernel_rfl) (fun _ _ _ h => h) (Or.inr ⟨by rfl, rfl⟩) ?_ ?_ ?_; rotate_left; (·simp only [Act.put, pt_]; rfl)
          refine pu_ 15 40 40 65535 undef HT_ rfl rfl (by kernel_rfl) (fun _ _ _ h => h) (Or.inr ⟨by rfl, rfl⟩) ?_ ?_ ?_; rotate_left; (·simp only [Act.put, pt_]; rfl)
          refine pu_ 16 41 40 131071 undef HT_ rfl rfl (by kernel_rfl) (fun _ _ _ h => h) (Or.inr ⟨by rfl, rfl⟩) ?_ ?_ ?_; rotate_left; (·simp only [Act.put, pt_]; rfl)
          refine pu_ 17 42 40 262143 undef HT_ rfl rfl (by kernel_rfl) (fun _ _ _ h => h) (Or.inr ⟨by rfl, rfl⟩) ?_ ?_ ?_; rotate_left; (·simp only [Act.put, pt_]; rfl)
          refine pu_ 18 43 40 524287 ?_ HT_ rfl rfl (by kernel_rfl) (fun _ _ _ h => h) (Or.inl ⟨by rfl, ?_⟩) ?_ ?_ ?_; rotate_left; (·intro w'; go_simp; with_reducible rfl); rotate_left; (·simp only [Act.put, pt_]; rfl)
          refine pu_ 19 44 40 1048575 ?_ HT_ rfl rfl (by kernel_rfl) (fun _ _ _ h => h) (Or.inl ⟨by rfl, ?_⟩) ?_ ?_ ?_; rotate_left; (·intro w'; go_simp; with_reducible rfl); rotate_left; (·simp only [Act.put, pt_]; rfl)
          refine pu_ 20 45 40 2097151 undef HT_ rfl rfl (by kernel_rfl) (fun _ _ _ h => h) (Or.inr ⟨by rfl, rfl⟩) ?_ ?_ ?_; rotate_left; (·simp only [Act.put, pt_]; rfl)
          refine pu_ 21 46 40 4194303 undef HT_ rfl rfl (by kernel_rfl) (fun _ _ _ h => h) (Or.inr ⟨by rfl, rfl⟩) ?_ ?_ ?_; rotate_left; (·simp only [Act.put, pt_]; rfl)
          refine pu_ 22 47 40 8388607 undef HT_ rfl rfl (by kernel_rfl) (fun _ _ _ h => h) (Or.inr ⟨by rfl, rfl⟩) ?_ ?_ ?_; rotate_left; (·simp only [Act.put, pt_]; rfl)
          refine pu_ 23 48 40 16777215 undef HT_ rfl rfl (by kernel_rfl) (fun _ _ _ h => h) (Or.inr ⟨by rfl, rfl⟩) ?_ ?_ ?_; rotate_left; (·simp only [Act.put, pt_]; rfl)
          refine pu_ 24 49 40 33554431 undef HT_ rfl rfl (by kernel_rfl) (fun _ _ _ h => h) (Or.inr ⟨by rfl, rfl⟩) ?_ ?_ ?_; rotate_left; (·simp only [Act.put, pt_]; rfl)
          refine pu_ 25 50 40 67108863 ?_ HT_ rfl rfl (by kernel_rfl) (fun _ _ _ h => h) (Or.inl ⟨by rfl, ?_⟩) ?_ ?_ ?_; rotate_left; (·intro w'; go_simp; with_reducible rfl); rotate_left; (·simp only [Act.put, pt_]; rfl)
          refine pu_ 26 51 40 134217727 ?_ HT_ rfl rfl (by kernel_rfl) (fun _ _ _ h => h) (Or.inl ⟨by rfl, ?_⟩) ?_ ?_ ?_; rotate_left; (·intro w'; go_simp; with_reducible rfl); rotate_left; (·simp only [Act.put, pt_]; rfl)
          refine pu_ 27 52 40 268435455 undef HT_ rfl rfl (by kernel_rfl) (fun _ _ _ h => h) (Or.inr ⟨by rfl, rfl⟩) ?_ ?_ ?_; rotate_left; (·simp only [Act.put, pt_]; rfl)
          refine pu_ 28 53 40 536870911 undef HT_ rfl rfl (by kernel_rfl) (fun _ _ _ h => h) (Or.inr ⟨by rfl, rfl⟩) ?_ ?_ ?_; rotate_left; (·simp only [Act.put, pt_]; rfl)
          refine pu_ 29 54 40 1073741823 undef HT_ rfl rfl (by kernel_rfl) (fun _ _ _ h => h) (Or.inr ⟨by rfl, rfl⟩) ?_ ?_ ?_; rotate_left; (·simp only [Act.put, pt_]; rfl)
          refine pu_ 30 55 40 2147483647 undef HT_ rfl rfl (by kernel_rfl) (fun _ _ _ h => h) (Or.inr ⟨by rfl, rfl⟩) ?_ ?_ ?_; rotate_left; (·simp only [Act.put, pt_]; rfl)
          refine pu_ 31 56 40 4294967295 undef HT_ rfl rfl (by kernel_rfl) (fun _ _ _ h => h) (Or.inr ⟨by rfl, rfl⟩) ?_ ?_ ?_; rotate_left; (·simp only [Act.put, pt_]; rfl)
          refine pu_ 32 57 40 8589934591 undef HT_ rfl rfl (by kernel_rfl) (fun _ _ _ h => h) (Or.inr ⟨by rfl, rfl⟩) ?_ ?_ ?_; rotate_left; (·simp only [Act.put, pt_]; rfl)
          refine pu_ 33 58 40 17179869183 undef HT_ rfl rfl (by kernel_rfl) (fun _ _ _ h => h) (Or.inr ⟨by rfl, rfl⟩) ?_ ?_ ?_; rotate_left; (·simp only [Act.put, pt_]; rfl)
          refine pu_ 34 59 40 34359738367 undef HT_ rfl rfl (by kernel_rfl) (fun _ _ _ h => h) (Or.inr ⟨by rfl, rfl⟩) ?_ ?_ ?_; rotate_left; (·simp only [Act.put, pt_]; rfl)
          refine pu_ 35 60 40 68719476735 undef HT_ rfl rfl (by kernel_rfl) (fun _ _ _ h => h) (Or.inr ⟨by rfl, rfl⟩) ?_ ?_ ?_; rotate_left; (·simp only [Act.put, pt_]; rfl)
          refine pu_ 36 61 40 137438953471 undef HT_ rfl rfl (by kernel_rfl) (fun _ _ _ h => h) (Or.inr ⟨by rfl, rfl⟩) ?_ ?_ ?_; rotate_left; (·simp only [Act.put, pt_]; rfl)
          refine pu_ 37 62 40 274877906943 undef HT_ rfl rfl (by kernel_rfl) (fun _ _ _ h => h) (Or.inr ⟨by rfl, rfl⟩) ?_ ?_ ?_; rotate_left; (·simp only [Act.put, pt_]; rfl)
          refine pu_ 38 63 40 549755813887 undef HT_ rfl rfl (by kernel_rfl) (fun _ _ _ h => h) (Or.inr ⟨by rfl, rfl⟩) ?_ ?_ ?_; rotate_left; (·simp only [Act.put, pt_]; rfl)
          refine pu_ 39 64 40 1099511627775 ?_ HT_ rfl rfl (by kernel_rfl) (fun _ _ _ h => h) (Or.inl ⟨by rfl, ?_⟩) ?_ ?_ ?_; rotate_left; (·intro w'; go_simp; with_reducible rfl); rotate_left; (·simp only [Act.put, pt_]; rfl)
          refine done_ (done_of HT_.out (by kernel_rfl)) ?_
          try go_wp2
          go_meet
          case rel => exact ⟨_, (true), (by first | rfl | (simp; done) | (simp [*]; done)), H', ⟨by have := HJ2.out; have := HK2.out; first | omega | exact Nat.le_refl _⟩, ⟨by (with_reducible repeat (first | refine blk_drewN ?_ _ | refine blk_drew ?_ | refine blk_alloc ?_ _)); exact BK161.out⟩, ⟨by (with_reducible repeat (first | refine blk_drewN ?_ _ | refine blk_drew ?_ | refine blk_alloc ?_ _)); exact BK164.out⟩, ⟨by repeat (first | (with_reducible first | exact HB.out | apply below_alloc | apply pw_below_drewN | apply below_drew1 | refine below_set ?_ GE161.out | refine below_set ?_ GE164.out) | exact HB.out)⟩⟩
        case rest =>
         clear HC14
         try clear c1
         try clear p2
         try clear c3
         try clear c4
         try clear c19
         try clear c33
         try clear c34
         try clear c35
         try clear c42
         obtain ⟨kq, x64_13, rfl, HA, HJ13, BK161, BK164, HB⟩ := hcut
         cases kq with
         | zero => exact absurd HA.out (by simp [spec_RobotsOk.j2])
         | succ kj13 =>
          have H := HA.out
          clear HA
          simp only [spec_RobotsOk.j2] at H
          by_cases c57 : x64_13 = true
          ·subst c57
           have H1 : (some false) = some r := by rw [if_pos rfl] at H; exact H
           clear H
           have H := H1
           clear H1
           obtain rfl := Option.some.inj H
           go_wp2
           go_ret
           exact ⟨by first | rfl | (simp [errW_none, errW_some] <;> rfl) | (simp [*, errW_none, errW_some] <;> rfl), by repeat (first | (with_reducible first | exact HB.out | apply below_alloc | apply pw_below_drewN | apply below_drew1 | refine below_set ?_ GE161.out | refine below_set ?_ GE164.out) | exact HB.out)⟩
          ·replace c57 := Bool.eq_false_iff.mpr c57
           subst c57
           have H1 : (if 0 ≤ x5_2 then (if x5_2 ≤ (l1.length : Int) then ((spec_HolderOf.f kj13 (l1.take (x5_2 : Int).toNat) ((rd_T42 l1 x5_2).f1)).bind fun t175 => (if t175 ≥ 0 then (some false) else ((spec_HolderOf.f kj13 (l1.take (x5_2 : Int).toNat) ((rd_T42 l1 x5_2).f2)).bind fun t180 => (if t180 ≥ 0 then (some false) else (spec_RobotsOk.l0 kj13 l1 (wrap64 (x5_2 + 1)) a0_0 a0_1 a0_2))))) else (none)) else (none)) = some r := by rw [if_neg (show ¬ (false = true) by decide)] at H; exact H
           clear H
           have H := H1
           clear H1
           by_cases c58 : 0 ≤ x5_2
           ·rw [if_pos c58] at H
            have c58b0 := eq_true c58
            have c58b1 : decide (0 ≤ x5_2) = true := decide_eq_true c58
            clear c58
            by_cases c59 : x5_2 ≤ (l1.length : Int)
            ·rw [if_pos c59] at H
             have c59b0 := eq_true c59
             have c59b1 : decide (x5_2 ≤ (l1.length : Int)) = true := decide_eq_true c59
             clear c59
             obtain ⟨y171, hy171⟩ : ∃ y_ : List (S42), y_ = (l1.take (x5_2 : Int).toNat) := ⟨_, rfl⟩
             replace H : ((spec_HolderOf.f kj13 y171 ((rd_T42 l1 x5_2).f1)).bind fun t175 => (if t175 ≥ 0 then (some false) else ((spec_HolderOf.f kj13 (l1.take (x5_2 : Int).toNat) ((rd_T42 l1 x5_2).f2)).bind fun t180 => (if t180 ≥ 0 then (some false) else (spec_RobotsOk.l0 kj13 l1 (wrap64 (x5_2 + 1)) a0_0 a0_1 a0_2))))) = some r := by first | (rw [hy171]; with_reducible exact H) | (have H2_ := (Option.bind_some _ _).symm.trans H; rw [hy171]; with_reducible exact H2_) | (have H2_ := (Option.bind_some _ _).symm.trans H; with_reducible exact H2_) | with_reducible exact H | (rw [hy171]; exact H) | exact H
             have Ny171 := Aside0.mk hy171
             clear hy171
             replace H := Option.bind_eq_some_iff.mp H
             obtain ⟨t175, A600, H⟩ := H
             replace H : (if t175 ≥ 0 then (some false) else ((spec_HolderOf.f kj13 (l1.take (x5_2 : Int).toNat) ((rd_T42 l1 x5_2).f2)).bind fun t180 => (if t180 ≥ 0 then (some false) else (spec_RobotsOk.l0 kj13 l1 (wrap64 (x5_2 + 1)) a0_0 a0_1 a0_2)))) = some r := H
             have A60 := Aside0.mk A600
             clear A600
             by_cases c61 : t175 ≥ 0
             ·rw [if_pos c61] at H
              have c61b0 : decide (0 ≤ t175) = true := decide_eq_true c61
              clear c61
              obtain rfl := Option.some.inj H
              try go_wp2
              have n0_ := Aside0.mk (blk_drew BK161.out)
              have n1_ := Aside0.mk (blk_drew BK164.out)
              have n2_ := Aside0.mk (below_drew1 HB.out)
              clear BK161
              clear BK164
              clear HB
              have BK161 := n0_
              have BK164 := n1_
              have HB := n2_
              clear n0_ n1_ n2_
              have q63 : (x5_2 : Int) ≤ ((l1.length : Int) : Int) := of_decide_eq_true (by first | (with_reducible assumption) | assumption)
              obtain ⟨i063, hi063, _, hsz63, _⟩ := info_parts info42
              have hroom63 : l1.length ≤ c1 := HC1.out
              have hC63 : Kd.C k42 _ (some ad163) l1.length l1 := HR1.out
              have hcut63 := cut_to (P := Try.prog) 25 42 .i64 Try.underlying25 hi063 (some ad163) l1.length c1 x5_2 (of_decide_eq_true (by first | (with_reducible assumption) | assumption)) q63 hroom63
              have hr63 := Kd.C_take (m := (x5_2 : Int).toNat) hC63 (by omega)
              have hy63 : y171.length = (x5_2 : Int).toNat := (by rw [Ny171.out, List.length_take]; omega)
              rw [← Ny171.out] at hr63
              rw [← hy63] at hcut63
              have HR174 := Aside0.mk hr63
              have HC174 := Aside0.mk (show y171.length ≤ c1 from by omega)
              clear hr63 hC63 hroom63 hi063 hsz63
              have KY63 := Aside0.mk hy63
              clear hy63
              replace q63 := eq_true q63
              refine start_ (n := 16) (S := fun w' => w'.cell? ⟨gb164, 0, none⟩ = some (.int .i64 ((rd_T42 l1 x5_2).f0)) ∧ w'.cell? ⟨gb164, 1, none⟩ = some (.int .i64 ((rd_T42 l1 x5_2).f1)) ∧ w'.cell? ⟨gb164, 2, none⟩ = some (.int .i64 ((rd_T42 l1 x5_2).f2)) ∧ w'.cell? ⟨gb164, 3, none⟩ = some (.bool ((rd_T42 l1 x5_2).f3))) (ds := []) #[false, false, false, false, false, false, false, false, false, false, false, false, false, false, false, false] (by kernel_rfl) rfl rfl ⟨(blk_cell BK164.out 0).trans rfl, (blk_cell BK164.out 1).trans rfl, (blk_cell BK164.out 2).trans rfl, (blk_cell BK164.out 3).trans rfl⟩ (fun hHeld => ?_); refine with_tabW spec_RobotsOk.tab9 spec_RobotsOk.bits9 (fun HT_ HW_ => ?_)
              generalize wc.drew = w62 at BK161 BK164 HB HR174 hHeld ⊢
              refine pu_ 0 65 16 1 ?_ HT_ rfl rfl (by kernel_rfl) (fun _ _ _ h => h) (Or.inl ⟨by rfl, ?_⟩) ?_ ?_ ?_; rotate_left; (·intro w'; go_simp; with_reducible rfl); rotate_left; (·simp only [Act.put, pt_]; rfl)
              refine pu_ 1 66 16 3 ?_ HT_ rfl rfl (by kernel_rfl) (fun _ _ _ h => h) (Or.inl ⟨by rfl, ?_⟩) ?_ ?_ ?_; rotate_left; (·intro w'; go_simp; with_reducible rfl); rotate_left; (·simp only [Act.put, pt_]; rfl)
              refine pu_ 2 67 16 7 ?_ HT_ rfl rfl (by kernel_rfl) (fun _ _ _ h => h) (Or.inl ⟨by rfl, ?_⟩) ?_ ?_ ?_; rotate_left; (·intro w'; go_simp; with_reducible rfl); rotate_left; (·simp only [Act.put, pt_]; rfl)
              refine pu_ 3 68 16 15 ?_ HT_ rfl rfl (by kernel_rfl) (fun _ _ _ h => h) (Or.inl ⟨by rfl, ?_⟩) ?_ ?_ ?_; rotate_left; (·intro w'; go_simp; with_reducible rfl); rotate_left; (·simp only [Act.put, pt_]; rfl)
              refine tk_ 4 69 16 31 ?_ HT_ HW_ rfl rfl (by kernel_rfl) (fun _ _ _ h => h) (Or.inl ⟨by rfl, ?_⟩) hHeld ?_ ?_ ?_; rotate_left; (·rintro w' ⟨s0, s1, s2, s3⟩; go_simp; with_reducible rfl); rotate_left; (·simp only [Act.put, pt_]; rfl)
              refine one_ (i := 5) (N := some 70) (bs_ 16 63) rfl rfl (one_of HT_.out (by kernel_rfl)) (by decide) (fun K hK => ?_)
              refine goes_ Try.func12 (by kernel_rfl) rfl #[.slice (some ad163) y171.length c1, .int .i64 ((rd_T42 l1 x5_2).f1)] (by rfl) rfl rfl (by (try simp only [List.map_toArray, List.map_cons, List.map_nil]); first | done | rfl | (simp only [List.length_drop, List.length_take]; rfl)) ?_
              with_reducible refine (spec_HolderOf.calls kj13 _ _ y171 ((rd_T42 l1 x5_2).f1) t175 _ ?side1 ?side2 A60.out).mono ?_
              (case side1 => repeat (first | exact (Kd.C_below HR174.out HB.out) | (with_reducible refine Kd.C_alloc ?_ _) | (with_reducible refine Kd.C_drewN ?_ _) | (with_reducible refine Kd.C_drew ?_)))
              (case side2 => exact HC174.out)
              rintro e w' ⟨rfl, ⟨nd, rfl⟩⟩
              refine ⟨_, rfl, ?_⟩
              refine hK.out _ _ ⟨(blk_cell BK164.out 0).trans rfl, (blk_cell BK164.out 1).trans rfl, (blk_cell BK164.out 2).trans rfl, (blk_cell BK164.out 3).trans rfl⟩ (fun hHeld => ?_)
              clear hK K
              refine norm_ (a' := ?_) ?_ ?_
              rotate_left
              ·show Act.put _ (some 70) _ = _
               simp only [Act.put, pt_]
               rfl
              refine pu_ 6 71 16 127 ?_ HT_ rfl rfl (by kernel_rfl) (fun _ _ _ h => h) (Or.inl ⟨by rfl, ?_⟩) ?_ ?_ ?_; rotate_left; (·intro w'; go_simp; with_reducible rfl); rotate_left; (·simp only [Act.put, pt_]; rfl)
              refine pu_ 7 72 16 255 ?_ HT_ rfl rfl (by kernel_rfl) (fun _ _ _ h => h) (Or.inl ⟨by rfl, ?_⟩) ?_ ?_ ?_; rotate_left; (·intro w'; go_simp; with_reducible rfl); rotate_left; (·simp only [Act.put, pt_]; rfl)
              refine pu_ 8 73 16 511 undef HT_ rfl rfl (by kernel_rfl) (fun _ _ _ h => h) (Or.inr ⟨by rfl, rfl⟩) ?_ ?_ ?_; rotate_left; (·simp only [Act.put, pt_]; rfl)
              refine pu_ 9 74 16 1023 undef HT_ rfl rfl (by kernel_rfl) (fun _ _ _ h => h) (Or.inr ⟨by rfl, rfl⟩) ?_ ?_ ?_; rotate_left; (·simp only [Act.put, pt_]; rfl)
              refine pu_ 10 75 16 2047 undef HT_ rfl rfl (by kernel_rfl) (fun _ _ _ h => h) (Or.inr ⟨by rfl, rfl⟩) ?_ ?_ ?_; rotate_left; (·simp only [Act.put, pt_]; rfl)
              refine pu_ 11 76 16 4095 undef HT_ rfl rfl (by kernel_rfl) (fun _ _ _ h => h) (Or.inr ⟨by rfl, rfl⟩) ?_ ?_ ?_; rotate_left; (·simp only [Act.put, pt_]; rfl)
              refine pu_ 12 77 16 8191 undef HT_ rfl rfl (by kernel_rfl) (fun _ _ _ h => h) (Or.inr ⟨by rfl, rfl⟩) ?_ ?_ ?_; rotate_left; (·simp only [Act.put, pt_]; rfl)
              refine pu_ 13 78 16 16383 undef HT_ rfl rfl (by kernel_rfl) (fun _ _ _ h => h) (Or.inr ⟨by rfl, rfl⟩) ?_ ?_ ?_; rotate_left; (·simp only [Act.put, pt_]; rfl)
              refine pu_ 14 79 16 32767 undef HT_ rfl rfl (by kernel_rfl) (fun _ _ _ h => h) (Or.inr ⟨by rfl, rfl⟩) ?_ ?_ ?_; rotate_left; (·simp only [Act.put, pt_]; rfl)
              refine pu_ 15 80 16 65535 ?_ HT_ rfl rfl (by kernel_rfl) (fun _ _ _ h => h) (Or.inl ⟨by rfl, ?_⟩) ?_ ?_ ?_; rotate_left; (·intro w'; go_simp; with_reducible rfl); rotate_left; (·simp only [Act.put, pt_]; rfl)
              refine done_ (done_of HT_.out (by kernel_rfl)) ?_
              try go_wp2
              go_ret
              exact ⟨by first | rfl | (simp [errW_none, errW_some] <;> rfl) | (simp [*, errW_none, errW_some] <;> rfl), by repeat (first | (with_reducible first | exact HB.out | apply below_alloc | apply pw_below_drewN | apply below_drew1 | refine below_set ?_ GE161.out | refine below_set ?_ GE164.out) | exact HB.out)⟩
             ·rw [if_neg c61] at H
              have c61b0 : decide (0 ≤ t175) = false := decide_eq_false c61
              clear c61
              have c64b0 := eq_true (of_decide_eq_true (by first | (with_reducible assumption) | assumption) : 0 ≤ x5_2)
              have c65b0 := eq_true (of_decide_eq_true (by first | (with_reducible assumption) | assumption) : x5_2 ≤ (l1.length : Int))
              obtain ⟨y176, hy176⟩ : ∃ y_ : List (S42), y_ = (l1.take (x5_2 : Int).toNat) := ⟨_, rfl⟩
              replace H : ((spec_HolderOf.f kj13 y176 ((rd_T42 l1 x5_2).f2)).bind fun t180 => (if t180 ≥ 0 then (some false) else (spec_RobotsOk.l0 kj13 l1 (wrap64 (x5_2 + 1)) a0_0 a0_1 a0_2))) = some r := by first | (rw [hy176]; with_reducible exact H) | (have H2_ := (Option.bind_some _ _).symm.trans H; rw [hy176]; with_reducible exact H2_) | (have H2_ := (Option.bind_some _ _).symm.trans H; with_reducible exact H2_) | with_reducible exact H | (rw [hy176]; exact H) | exact H
              have Ny176 := Aside0.mk hy176
              clear hy176
              replace H := Option.bind_eq_some_iff.mp H
              obtain ⟨t180, A660, H⟩ := H
              replace H : (if t180 ≥ 0 then (some false) else (spec_RobotsOk.l0 kj13 l1 (wrap64 (x5_2 + 1)) a0_0 a0_1 a0_2)) = some r := H
              have A66 := Aside0.mk A660
              clear A660
              by_cases c67 : t180 ≥ 0
              ·rw [if_pos c67] at H
               have c67b0 : decide (0 ≤ t180) = true := decide_eq_true c67
               clear c67
               obtain rfl := Option.some.inj H
               try go_wp2
               have n0_ := Aside0.mk (blk_drew BK161.out)
               have n1_ := Aside0.mk (blk_drew BK164.out)
               have n2_ := Aside0.mk (below_drew1 HB.out)
               clear BK161
               clear BK164
               clear HB
               have BK161 := n0_
               have BK164 := n1_
               have HB := n2_
               clear n0_ n1_ n2_
               have q69 : (x5_2 : Int) ≤ ((l1.length : Int) : Int) := of_decide_eq_true (by first | (with_reducible assumption) | assumption)
               obtain ⟨i069, hi069, _, hsz69, _⟩ := info_parts info42
               have hroom69 : l1.length ≤ c1 := HC1.out
               have hC69 : Kd.C k42 _ (some ad163) l1.length l1 := HR1.out
               (try clear hcut63)
               have hcut69 := cut_to (P := Try.prog) 25 42 .i64 Try.underlying25 hi069 (some ad163) l1.length c1 x5_2 (of_decide_eq_true (by first | (with_reducible assumption) | assumption)) q69 hroom69
               have hr69 := Kd.C_take (m := (x5_2 : Int).toNat) hC69 (by omega)
               have hy69 : y171.length = (x5_2 : Int).toNat := (by rw [Ny171.out, List.length_take]; omega)
               rw [← Ny171.out] at hr69
               rw [← hy69] at hcut69
               have HR174 := Aside0.mk hr69
               have HC174 := Aside0.mk (show y171.length ≤ c1 from by omega)
               clear hr69 hC69 hroom69 hi069 hsz69
               have KY69 := Aside0.mk hy69
               clear hy69
               replace q69 := eq_true q69
               refine start_ (n := 16) (S := fun w' => w'.cell? ⟨gb164, 0, none⟩ = some (.int .i64 ((rd_T42 l1 x5_2).f0)) ∧ w'.cell? ⟨gb164, 1, none⟩ = some (.int .i64 ((rd_T42 l1 x5_2).f1)) ∧ w'.cell? ⟨gb164, 2, none⟩ = some (.int .i64 ((rd_T42 l1 x5_2).f2)) ∧ w'.cell? ⟨gb164, 3, none⟩ = some (.bool ((rd_T42 l1 x5_2).f3))) (ds := []) #[false, false, false, false, false, false, false, false, false, false, false, false, false, false, false, false] (by kernel_rfl) rfl rfl ⟨(blk_cell BK164.out 0).trans rfl, (blk_cell BK164.out 1).trans rfl, (blk_cell BK164.out 2).trans rfl, (blk_cell BK164.out 3).trans rfl⟩ (fun hHeld => ?_); refine with_tabW spec_RobotsOk.tab9 spec_RobotsOk.bits9 (fun HT_ HW_ => ?_)
               generalize wc.drew = w68 at BK161 BK164 HB HR174 hHeld ⊢
               refine pu_ 0 65 16 1 ?_ HT_ rfl rfl (by kernel_rfl) (fun _ _ _ h => h) (Or.inl ⟨by rfl, ?_⟩) ?_ ?_ ?_; rotate_left; (·intro w'; go_simp; with_reducible rfl); rotate_left; (·simp only [Act.put, pt_]; rfl)
               refine pu_ 1 66 16 3 ?_ HT_ rfl rfl (by kernel_rfl) (fun _ _ _ h => h) (Or.inl ⟨by rfl, ?_⟩) ?_ ?_ ?_; rotate_left; (·intro w'; go_simp; with_reducible rfl); rotate_left; (·simp only [Act.put, pt_]; rfl)
               refine pu_ 2 67 16 7 ?_ HT_ rfl rfl (by kernel_rfl) (fun _ _ _ h => h) (Or.inl ⟨by rfl, ?_⟩) ?_ ?_ ?_; rotate_left; (·intro w'; go_simp; with_reducible rfl); rotate_left; (·simp only [Act.put, pt_]; rfl)
               refine pu_ 3 68 16 15 ?_ HT_ rfl rfl (by kernel_rfl) (fun _ _ _ h => h) (Or.inl ⟨by rfl, ?_⟩) ?_ ?_ ?_; rotate_left; (·intro w'; go_simp; with_reducible rfl); rotate_left; (·simp only [Act.put, pt_]; rfl)
               refine tk_ 4 69 16 31 ?_ HT_ HW_ rfl rfl (by kernel_rfl) (fun _ _ _ h => h) (Or.inl ⟨by rfl, ?_⟩) hHeld ?_ ?_ ?_; rotate_left; (·rintro w' ⟨s0, s1, s2, s3⟩; go_simp; with_reducible rfl); rotate_left; (·simp only [Act.put, pt_]; rfl)
               refine one_ (i := 5) (N := some 70) (bs_ 16 63) rfl rfl (one_of HT_.out (by kernel_rfl)) (by decide) (fun K hK => ?_)
               refine goes_ Try.func12 (by kernel_rfl) rfl #[.slice (some ad163) y171.length c1, .int .i64 ((rd_T42 l1 x5_2).f1)] (by rfl) rfl rfl (by (try simp only [List.map_toArray, List.map_cons, List.map_nil]); first | done | rfl | (simp only [List.length_drop, List.length_take]; rfl)) ?_
               with_reducible refine (spec_HolderOf.calls kj13 _ _ y171 ((rd_T42 l1 x5_2).f1) t175 _ ?side1 ?side2 A60.out).mono ?_
               (case side1 => repeat (first | exact (Kd.C_below HR174.out HB.out) | (with_reducible refine Kd.C_alloc ?_ _) | (with_reducible refine Kd.C_drewN ?_ _) | (with_reducible refine Kd.C_drew ?_)))
               (case side2 => exact HC174.out)
               rintro e w' ⟨rfl, ⟨nd, rfl⟩⟩
               refine ⟨_, rfl, ?_⟩
               have q70 : (x5_2 : Int) ≤ ((l1.length : Int) : Int) := of_decide_eq_true (by first | (with_reducible assumption) | assumption)
               obtain ⟨i070, hi070, _, hsz70, _⟩ := info_parts info42
               have hroom70 : l1.length ≤ c1 := HC1.out
               have hC70 : Kd.C k42 _ (some ad163) l1.length l1 := HR1.out
               (try clear hcut63)
               (try clear hcut69)
               have hcut70 := cut_to (P := Try.prog) 25 42 .i64 Try.underlying25 hi070 (some ad163) l1.length c1 x5_2 (of_decide_eq_true (by first | (with_reducible assumption) | assumption)) q70 hroom70
               have hr70 := Kd.C_take (m := (x5_2 : Int).toNat) hC70 (by omega)
               have hy70 : y176.length = (x5_2 : Int).toNat := (by rw [Ny176.out, List.length_take]; omega)
               rw [← Ny176.out] at hr70
               rw [← hy70] at hcut70
               have HR179 := Aside0.mk hr70
               have HC179 := Aside0.mk (show y176.length ≤ c1 from by omega)
               clear hr70 hC70 hroom70 hi070 hsz70
               have KY70 := Aside0.mk hy70
               clear hy70
               replace q70 := eq_true q70
               refine hK.out _ _ ⟨(blk_cell BK164.out 0).trans rfl, (blk_cell BK164.out 1).trans rfl, (blk_cell BK164.out 2).trans rfl, (blk_cell BK164.out 3).trans rfl⟩ (fun hHeld => ?_)
               clear hK K
               refine norm_ (a' := ?_) ?_ ?_
               rotate_left
               ·show Act.put _ (some 70) _ = _
                simp only [Act.put, pt_]
                rfl
               refine pu_ 6 71 16 127 ?_ HT_ rfl rfl (by kernel_rfl) (fun _ _ _ h => h) (Or.inl ⟨by rfl, ?_⟩) ?_ ?_ ?_; rotate_left; (·intro w'; go_simp; with_reducible rfl); rotate_left; (·simp only [Act.put, pt_]; rfl)
               refine pu_ 7 72 16 255 ?_ HT_ rfl rfl (by kernel_rfl) (fun _ _ _ h => h) (Or.inl ⟨by rfl, ?_⟩) ?_ ?_ ?_; rotate_left; (·intro w'; go_simp; with_reducible rfl); rotate_left; (·simp only [Act.put, pt_]; rfl)
               refine pu_ 8 73 16 511 ?_ HT_ rfl rfl (by kernel_rfl) (fun _ _ _ h => h) (Or.inl ⟨by rfl, ?_⟩) ?_ ?_ ?_; rotate_left; (·intro w'; go_simp; with_reducible rfl); rotate_left; (·simp only [Act.put, pt_]; rfl)
               refine pu_ 9 74 16 1023 ?_ HT_ rfl rfl (by kernel_rfl) (fun _ _ _ h => h) (Or.inl ⟨by rfl, ?_⟩) ?_ ?_ ?_; rotate_left; (·intro w'; go_simp; with_reducible rfl); rotate_left; (·simp only [Act.put, pt_]; rfl)
               refine pu_ 10 75 16 2047 ?_ HT_ rfl rfl (by kernel_rfl) (fun _ _ _ h => h) (Or.inl ⟨by rfl, ?_⟩) ?_ ?_ ?_; rotate_left; (·intro w'; go_simp; with_reducible rfl); rotate_left; (·simp only [Act.put, pt_]; rfl)
               refine pu_ 11 76 16 4095 ?_ HT_ rfl rfl (by kernel_rfl) (fun _ _ _ h => h) (Or.inl ⟨by rfl, ?_⟩) ?_ ?_ ?_; rotate_left; (·intro w'; go_simp; with_reducible rfl); rotate_left; (·simp only [Act.put, pt_]; rfl)
               refine tk_ 12 77 16 8191 ?_ HT_ HW_ rfl rfl (by kernel_rfl) (fun _ _ _ h => h) (Or.inl ⟨by rfl, ?_⟩) hHeld ?_ ?_ ?_; rotate_left; (·rintro w' ⟨s0, s1, s2, s3⟩; go_simp; with_reducible rfl); rotate_left; (·simp only [Act.put, pt_]; rfl)
               refine one_ (i := 13) (N := some 78) (bs_ 16 16383) rfl rfl (one_of HT_.out (by kernel_rfl)) (by decide) (fun K hK => ?_)
               refine goes_ Try.func12 (by kernel_rfl) rfl #[.slice (some ad163) y176.length c1, .int .i64 ((rd_T42 l1 x5_2).f2)] (by rfl) rfl rfl (by (try simp only [List.map_toArray, List.map_cons, List.map_nil]); first | done | rfl | (simp only [List.length_drop, List.length_take]; rfl)) ?_
               with_reducible refine (spec_HolderOf.calls kj13 _ _ y176 ((rd_T42 l1 x5_2).f2) t180 _ ?side1 ?side2 A66.out).mono ?_
               (case side1 => repeat (first | exact (Kd.C_below HR179.out (by repeat (first | (with_reducible first | exact HB.out | apply below_alloc | apply pw_below_drewN | apply below_drew1 | refine below_set ?_ GE161.out | refine below_set ?_ GE164.out) | exact HB.out))) | (with_reducible refine Kd.C_alloc ?_ _) | (with_reducible refine Kd.C_drewN ?_ _) | (with_reducible refine Kd.C_drew ?_)))
               (case side2 => exact HC179.out)
               rintro e w' ⟨rfl, ⟨nd, rfl⟩⟩
               refine ⟨_, rfl, ?_⟩
               refine hK.out _ _ ⟨(blk_cell BK164.out 0).trans rfl, (blk_cell BK164.out 1).trans rfl, (blk_cell BK164.out 2).trans rfl, (blk_cell BK164.out 3).trans rfl⟩ (fun hHeld => ?_)
               clear hK K
               refine norm_ (a' := ?_) ?_ ?_
               rotate_left
               ·show Act.put _ (some 78) _ = _
                simp only [Act.put, pt_]
                rfl
               refine pu_ 14 79 16 32767 ?_ HT_ rfl rfl (by kernel_rfl) (fun _ _ _ h => h) (Or.inl ⟨by rfl, ?_⟩) ?_ ?_ ?_; rotate_left; (·intro w'; go_simp; with_reducible rfl); rotate_left; (·simp only [Act.put, pt_]; rfl)
               refine pu_ 15 80 16 65535 ?_ HT_ rfl rfl (by kernel_rfl) (fun _ _ _ h => h) (Or.inl ⟨by rfl, ?_⟩) ?_ ?_ ?_; rotate_left; (·intro w'; go_simp; with_reducible rfl); rotate_left; (·simp only [Act.put, pt_]; rfl)
               refine done_ (done_of HT_.out (by kernel_rfl)) ?_
               try go_wp2
               go_ret
               exact ⟨by first | rfl | (simp [errW_none, errW_some] <;> rfl) | (simp [*, errW_none, errW_some] <;> rfl), by repeat (first | (with_reducible first | exact HB.out | apply below_alloc | apply pw_below_drewN | apply below_drew1 | refine below_set ?_ GE161.out | refine below_set ?_ GE164.out) | exact HB.out)⟩
              ·rw [if_neg c67] at H
               have c67b0 : decide (0 ≤ t180) = false := decide_eq_false c67
               clear c67
               have H' := Aside0.mk H
               clear H
               try go_wp2
               have n0_ := Aside0.mk (blk_drew BK161.out)
               have n1_ := Aside0.mk (blk_drew BK164.out)
               have n2_ := Aside0.mk (below_drew1 HB.out)
               clear BK161
               clear BK164
               clear HB
               have BK161 := n0_
               have BK164 := n1_
               have HB := n2_
               clear n0_ n1_ n2_
               have q72 : (x5_2 : Int) ≤ ((l1.length : Int) : Int) := of_decide_eq_true (by first | (with_reducible assumption) | assumption)
               obtain ⟨i072, hi072, _, hsz72, _⟩ := info_parts info42
               have hroom72 : l1.length ≤ c1 := HC1.out
               have hC72 : Kd.C k42 _ (some ad163) l1.length l1 := HR1.out
               (try clear hcut63)
               (try clear hcut69)
               (try clear hcut70)
               have hcut72 := cut_to (P := Try.prog) 25 42 .i64 Try.underlying25 hi072 (some ad163) l1.length c1 x5_2 (of_decide_eq_true (by first | (with_reducible assumption) | assumption)) q72 hroom72
               have hr72 := Kd.C_take (m := (x5_2 : Int).toNat) hC72 (by omega)
               have hy72 : y171.length = (x5_2 : Int).toNat := (by rw [Ny171.out, List.length_take]; omega)
               rw [← Ny171.out] at hr72
               rw [← hy72] at hcut72
               have HR174 := Aside0.mk hr72
               have HC174 := Aside0.mk (show y171.length ≤ c1 from by omega)
               clear hr72 hC72 hroom72 hi072 hsz72
               have KY72 := Aside0.mk hy72
               clear hy72
               replace q72 := eq_true q72
               refine start_ (n := 16) (S := fun w' => w'.cell? ⟨gb164, 0, none⟩ = some (.int .i64 ((rd_T42 l1 x5_2).f0)) ∧ w'.cell? ⟨gb164, 1, none⟩ = some (.int .i64 ((rd_T42 l1 x5_2).f1)) ∧ w'.cell? ⟨gb164, 2, none⟩ = some (.int .i64 ((rd_T42 l1 x5_2).f2)) ∧ w'.cell? ⟨gb164, 3, none⟩ = some (.bool ((rd_T42 l1 x5_2).f3))) (ds := []) #[false, false, false, false, false, false, false, false, false, false, false, false, false, false, false, false] (by kernel_rfl) rfl rfl ⟨(blk_cell BK164.out 0).trans rfl, (blk_cell BK164.out 1).trans rfl, (blk_cell BK164.out 2).trans rfl, (blk_cell BK164.out 3).trans rfl⟩ (fun hHeld => ?_); refine with_tabW spec_RobotsOk.tab9 spec_RobotsOk.bits9 (fun HT_ HW_ => ?_)
               generalize wc.drew = w71 at BK161 BK164 HB HR174 hHeld ⊢
               refine pu_ 0 65 16 1 ?_ HT_ rfl rfl (by kernel_rfl) (fun _ _ _ h => h) (Or.inl ⟨by rfl, ?_⟩) ?_ ?_ ?_; rotate_left; (·intro w'; go_simp; with_reducible rfl); rotate_left; (·simp only [Act.put, pt_]; rfl)
               refine pu_ 1 66 16 3 ?_ HT_ rfl rfl (by kernel_rfl) (fun _ _ _ h => h) (Or.inl ⟨by rfl, ?_⟩) ?_ ?_ ?_; rotate_left; (·intro w'; go_simp; with_reducible rfl); rotate_left; (·simp only [Act.put, pt_]; rfl)
               refine pu_ 2 67 16 7 ?_ HT_ rfl rfl (by kernel_rfl) (fun _ _ _ h => h) (Or.inl ⟨by rfl, ?_⟩) ?_ ?_ ?_; rotate_left; (·intro w'; go_simp; with_reducible rfl); rotate_left; (·simp only [Act.put, pt_]; rfl)
               refine pu_ 3 68 16 15 ?_ HT_ rfl rfl (by kernel_rfl) (fun _ _ _ h => h) (Or.inl ⟨by rfl, ?_⟩) ?_ ?_ ?_; rotate_left; (·intro w'; go_simp; with_reducible rfl); rotate_left; (·simp only [Act.put, pt_]; rfl)
               refine tk_ 4 69 16 31 ?_ HT_ HW_ rfl rfl (by kernel_rfl) (fun _ _ _ h => h) (Or.inl ⟨by rfl, ?_⟩) hHeld ?_ ?_ ?_; rotate_left; (·rintro w' ⟨s0, s1, s2, s3⟩; go_simp; with_reducible rfl); rotate_left; (·simp only [Act.put, pt_]; rfl)
               refine one_ (i := 5) (N := some 70) (bs_ 16 63) rfl rfl (one_of HT_.out (by kernel_rfl)) (by decide) (fun K hK => ?_)
               refine goes_ Try.func12 (by kernel_rfl) rfl #[.slice (some ad163) y171.length c1, .int .i64 ((rd_T42 l1 x5_2).f1)] (by rfl) rfl rfl (by (try simp only [List.map_toArray, List.map_cons, List.map_nil]); first | done | rfl | (simp only [List.length_drop, List.length_take]; rfl)) ?_
               with_reducible refine (spec_HolderOf.calls kj13 _ _ y171 ((rd_T42 l1 x5_2).f1) t175 _ ?side1 ?side2 A60.out).mono ?_
               (case side1 => repeat (first | exact (Kd.C_below HR174.out HB.out) | (with_reducible refine Kd.C_alloc ?_ _) | (with_reducible refine Kd.C_drewN ?_ _) | (with_reducible refine Kd.C_drew ?_)))
               (case side2 => exact HC174.out)
               rintro e w' ⟨rfl, ⟨nd, rfl⟩⟩
               refine ⟨_, rfl, ?_⟩
               have q73 : (x5_2 : Int) ≤ ((l1.length : Int) : Int) := of_decide_eq_true (by first | (with_reducible assumption) | assumption)
               obtain ⟨i073, hi073, _, hsz73, _⟩ := info_parts info42
               have hroom73 : l1.length ≤ c1 := HC1.out
               have hC73 : Kd.C k42 _ (some ad163) l1.length l1 := HR1.out
               (try clear hcut63)
               (try clear hcut69)
               (try clear hcut70)
               (try clear hcut72)
               have hcut73 := cut_to (P := Try.prog) 25 42 .i64 Try.underlying25 hi073 (some ad163) l1.length c1 x5_2 (of_decide_eq_true (by first | (with_reducible assumption) | assumption)) q73 hroom73
               have hr73 := Kd.C_take (m := (x5_2 : Int).toNat) hC73 (by omega)
               have hy73 : y176.length = (x5_2 : Int).toNat := (by rw [Ny176.out, List.length_take]; omega)
               rw [← Ny176.out] at hr73
               rw [← hy73] at hcut73
               have HR179 := Aside0.mk hr73
               have HC179 := Aside0.mk (show y176.length ≤ c1 from by omega)
               clear hr73 hC73 hroom73 hi073 hsz73
               have KY73 := Aside0.mk hy73
               clear hy73
               replace q73 := eq_true q73
               refine hK.out _ _ ⟨(blk_cell BK164.out 0).trans rfl, (blk_cell BK164.out 1).trans rfl, (blk_cell BK164.out 2).trans rfl, (blk_cell BK164.out 3).trans rfl⟩ (fun hHeld => ?_)
               clear hK K
               refine norm_ (a' := ?_) ?_ ?_
               rotate_left
               ·show Act.put _ (some 70) _ = _
                simp only [Act.put, pt_]
                rfl
               refine pu_ 6 71 16 127 ?_ HT_ rfl rfl (by kernel_rfl) (fun _ _ _ h => h) (Or.inl ⟨by rfl, ?_⟩) ?_ ?_ ?_; rotate_left; (·intro w'; go_simp; with_reducible rfl); rotate_left; (·simp only [Act.put, pt_]; rfl)
               refine pu_ 7 72 16 255 ?_ HT_ rfl rfl (by kernel_rfl) (fun _ _ _ h => h) (Or.inl ⟨by rfl, ?_⟩) ?_ ?_ ?_; rotate_left; (·intro w'; go_simp; with_reducible rfl); rotate_left; (·simp only [Act.put, pt_]; rfl)
               refine pu_ 8 73 16 511 ?_ HT_ rfl rfl (by kernel_rfl) (fun _ _ _ h => h) (Or.inl ⟨by rfl, ?_⟩) ?_ ?_ ?_; rotate_left; (·intro w'; go_simp; with_reducible rfl); rotate_left; (·simp only [Act.put, pt_]; rfl)
               refine pu_ 9 74 16 1023 ?_ HT_ rfl rfl (by kernel_rfl) (fun _ _ _ h => h) (Or.inl ⟨by rfl, ?_⟩) ?_ ?_ ?_; rotate_left; (·intro w'; go_simp; with_reducible rfl); rotate_left; (·simp only [Act.put, pt_]; rfl)
               refine pu_ 10 75 16 2047 ?_ HT_ rfl rfl (by kernel_rfl) (fun _ _ _ h => h) (Or.inl ⟨by rfl, ?_⟩) ?_ ?_ ?_; rotate_left; (·intro w'; go_simp; with_reducible rfl); rotate_left; (·simp only [Act.put, pt_]; rfl)
               refine pu_ 11 76 16 4095 ?_ HT_ rfl rfl (by kernel_rfl) (fun _ _ _ h => h) (Or.inl ⟨by rfl, ?_⟩) ?_ ?_ ?_; rotate_left; (·intro w'; go_simp; with_reducible rfl); rotate_left; (·simp only [Act.put, pt_]; rfl)
               refine tk_ 12 77 16 8191 ?_ HT_ HW_ rfl rfl (by kernel_rfl) (fun _ _ _ h => h) (Or.inl ⟨by rfl, ?_⟩) hHeld ?_ ?_ ?_; rotate_left; (·rintro w' ⟨s0, s1, s2, s3⟩; go_simp; with_reducible rfl); rotate_left; (·simp only [Act.put, pt_]; rfl)
               refine one_ (i := 13) (N := some 78) (bs_ 16 16383) rfl rfl (one_of HT_.out (by kernel_rfl)) (by decide) (fun K hK => ?_)
               refine goes_ Try.func12 (by kernel_rfl) rfl #[.slice (some ad163) y176.length c1, .int .i64 ((rd_T42 l1 x5_2).f2)] (by rfl) rfl rfl (by (try simp only [List.map_toArray, List.map_cons, List.map_nil]); first | done | rfl | (simp only [List.length_drop, List.length_take]; rfl)) ?_
               with_reducible refine (spec_HolderOf.calls kj13 _ _ y176 ((rd_T42 l1 x5_2).f2) t180 _ ?side1 ?side2 A66.out).mono ?_
               (case side1 => repeat (first | exact (Kd.C_below HR179.out (by repeat (first | (with_reducible first | exact HB.out | apply below_alloc | apply pw_below_drewN | apply below_drew1 | refine below_set ?_ GE161.out | refine below_set ?_ GE164.out) | exact HB.out))) | (with_reducible refine Kd.C_alloc ?_ _) | (with_reducible refine Kd.C_drewN ?_ _) | (with_reducible refine Kd.C_drew ?_)))
               (case side2 => exact HC179.out)
               rintro e w' ⟨rfl, ⟨nd, rfl⟩⟩
               refine ⟨_, rfl, ?_⟩
               refine hK.out _ _ ⟨(blk_cell BK164.out 0).trans rfl, (blk_cell BK164.out 1).trans rfl, (blk_cell BK164.out 2).trans rfl, (blk_cell BK164.out 3).trans rfl⟩ (fun hHeld => ?_)
               clear hK K
               refine norm_ (a' := ?_) ?_ ?_
               rotate_left
               ·show Act.put _ (some 78) _ = _
                simp only [Act.put, pt_]
                rfl
               refine pu_ 14 79 16 32767 ?_ HT_ rfl rfl (by kernel_rfl) (fun _ _ _ h => h) (Or.inl ⟨by rfl, ?_⟩) ?_ ?_ ?_; rotate_left; (·intro w'; go_simp; with_reducible rfl); rotate_left; (·simp only [Act.put, pt_]; rfl)
               refine pu_ 15 80 16 65535 ?_ HT_ rfl rfl (by kernel_rfl) (fun _ _ _ h => h) (Or.inl ⟨by rfl, ?_⟩) ?_ ?_ ?_; rotate_left; (·intro w'; go_simp; with_reducible rfl); rotate_left; (·simp only [Act.put, pt_]; rfl)
               refine done_ (done_of HT_.out (by kernel_rfl)) ?_
               try go_wp2
               go_roundg kj13
               case measure => have := HJ2.out; have := HK2.out; have := HJ13.out; omega
               case rel => exact ⟨(wrap64 (x5_2 + 1)), (by first | rfl | (simp; done) | (simp [*]; done)), H', ⟨by have := HJ2.out; have := HK2.out; have := HJ13.out; omega⟩, ⟨by (with_reducible repeat (first | refine blk_drewN ?_ _ | refine blk_drew ?_ | refine blk_alloc ?_ _)); exact BK161.out⟩, ⟨by repeat (first | (with_reducible first | exact HB.out | apply below_alloc | apply pw_below_drewN | apply below_drew1 | refine below_set ?_ GE161.out | refine below_set ?_ GE164.out) | exact HB.out)⟩⟩
            ·rw [if_neg c59] at H
             exact absurd H (by simp)
           ·rw [if_neg c58] at H
            exact absurd H (by simp)
       ·rw [if_neg c13] at H
        exact absurd H (by simp)
      ·rw [if_neg c12] at H
       have c12b0 : decide (x5_2 < (l1.length : Int)) = false := decide_eq_false c12
       clear c12
       obtain rfl := Option.some.inj H
       go_wp2
       go_ret
       exact ⟨by first | rfl | (simp [errW_none, errW_some] <;> rfl) | (simp [*, errW_none, errW_some] <;> rfl), by repeat (first | (with_reducible first | exact HB.out | apply below_alloc | apply pw_below_drewN | apply below_drew1 | refine below_set ?_ GE161.out) | exact HB.out)⟩

end Go.Proofs.Ytkbbeenjbkmamaa.Q
