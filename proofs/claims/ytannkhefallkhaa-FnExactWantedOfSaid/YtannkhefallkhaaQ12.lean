-- Written by a session's own program (wip/tools/myprint.py) over the kit's printer, out of the translation. Not trusted: Lean checks it.
import Derived.Test.YtannkhefallkhaaQ0
import Derived.Test.YtannkhefallkhaaQ1
import Derived.Test.YtannkhefallkhaaQ6
import Derived.Test.YtannkhefallkhaaQ11
namespace Go.Proofs.Ytannkhefallkhaa.Q
open Go.RowKit Go.Proofs.YtannkhefallkhaaW.PrintWords Go.Proofs.YtannkhefallkhaaW.PrintLast Go.Proofs.YtannkhefallkhaaW.PrintMore
attribute [local go_sem] max2_int min2_int max_two min_two max_three min_three max_four min_four   -- for this text's walks alone
set_option linter.unusedVariables false
set_option linter.unusedSimpArgs false

/-! ### laws_FnExactWantedOf: function 3 -/
mutual
def laws_FnExactWantedOf.j0 : Nat → List Int → List Int → Int → List Int → Bool → List Int → List Int → List Int → Bool → Bool → Int → Int → ByteArray → Option (Bool)
 | 0, _, _, _, _, _, _, _, _, _, _, _, _, _ => none
 | k + 1, x1, x2, x3, x10, x11, x12, x13, x14, x15, x64, x382000, x382001, x382002 => if x64 = true then (some false) else ((laws_toIntS.f k x1).bind fun t410 => ((laws_eqIntS.f k x12 t410).bind fun t413 => (if t413 = true then ((laws_toIntS.f k x2).bind fun t414 => ((laws_eqIntS.f k x13 t414).bind fun t417 => (if t417 = true then ((laws_markIntS.f k x12 1).bind fun bt418 => ((laws_markIntS.f k x13 bt418.1).bind fun bt420 => (if bt420.1 < 0 then (laws_FnExactWantedOf.j1 k x1 x2 x3 x10 x11 x14 true x382000 x382001 x382002) else ((laws_eqIntS.f k x14 x10).bind fun t422 => (if t422 = true then (laws_FnExactWantedOf.j1 k x1 x2 x3 x10 x11 x14 (x15 != x11) x382000 x382001 x382002) else (laws_FnExactWantedOf.j1 k x1 x2 x3 x10 x11 x14 true x382000 x382001 x382002)))))) else (some false)))) else (some false))))
def laws_FnExactWantedOf.j1 : Nat → List Int → List Int → Int → List Int → Bool → List Int → Bool → Int → Int → ByteArray → Option (Bool)
 | 0, _, _, _, _, _, _, _, _, _, _ => none
 | k + 1, x1, x2, x3, x10, x11, x14, x93, x382000, x382001, x382002 => if x93 = true then (some false) else ((laws_markIntS.f k x14 1).bind fun bt423 => ((laws_heldIntS.f k bt423.2 1).bind fun t425 => (if t425 < 0 then (some false) else (if t425 = bt423.1 then ((laws_toGrid.f x382000 x382001 x382002).bind fun bt426 => ((laws_toIntS.f k x1).bind fun t429 => ((laws_toIntS.f k x2).bind fun t432 => ((impl_WantedOf.f k bt426.1 bt426.2.1 bt426.2.2 t429 t432 x3).bind fun bt435 => ((laws_eqIntS.f k bt435.1 x10).bind fun t439 => (if t439 = true then (laws_FnExactWantedOf.j2 k bt423.2 bt423.1 (bt435.2 != x11)) else (laws_FnExactWantedOf.j2 k bt423.2 bt423.1 true))))))) else (some false)))))
def laws_FnExactWantedOf.j2 : Nat → List Int → Int → Bool → Option (Bool)
 | 0, _, _, _ => none
 | k + 1, x14, x17, x124 => if x124 = true then (some false) else ((laws_heldIntS.f k x14 1).bind fun t440 => (if t440 < 0 then (some false) else (if t440 = x17 then (some true) else (some false))))
end
def laws_FnExactWantedOf.f (k : Nat) (a0_0 : Int) (a0_1 : Int) (a0_2 : ByteArray) (l1 : List Int) (l2 : List Int) (a3 : Int) : Option (Bool) := if (l1.length : Int) > 1048576 then (some true) else (if (l2.length : Int) > 1048576 then (some true) else ((laws_szGrid.f a0_0 a0_1 a0_2 1048576).bind fun t382 => (if t382 < 0 then (some true) else ((laws_toGrid.f a0_0 a0_1 a0_2).bind fun bt383 => ((laws_toIntS.f k l1).bind fun t386 => ((laws_toIntS.f k l2).bind fun t389 => ((spec_WantedOf.f k bt383.1 bt383.2.1 bt383.2.2 t386 t389 a3).bind fun bt392 => ((laws_toIntS.f k l1).bind fun t396 => ((laws_toIntS.f k l2).bind fun t399 => ((laws_toGrid.f a0_0 a0_1 a0_2).bind fun bt402 => ((impl_WantedOf.f k bt402.1 bt402.2.1 bt402.2.2 t396 t399 a3).bind fun bt405 => ((laws_eqIntS.f k bt405.1 bt392.1).bind fun t409 => (if t409 = true then (laws_FnExactWantedOf.j0 k l1 l2 a3 bt392.1 bt392.2 t396 t399 bt405.1 bt405.2 (bt405.2 != bt392.2) a0_0 a0_1 a0_2) else (laws_FnExactWantedOf.j0 k l1 l2 a3 bt392.1 bt392.2 t396 t399 bt405.1 bt405.2 true a0_0 a0_1 a0_2))))))))))))))
set_option maxHeartbeats 8000000 in
set_option maxRecDepth 100000 in
theorem laws_FnExactWantedOf.calls (k : Nat) (a0_0 : Int) (a0_1 : Int) (a0_2 : ByteArray) (A1 : Option Addr) (c1 : Nat) (l1 : List Int) (A2 : Option Addr) (c2 : Nat) (l2 : List Int) (a3 : Int) (r : Bool) (w : World) (hr1 : Kd.C (Kd.int .i64) w A1 l1.length l1) (hc1 : l1.length ≤ c1) (hr2 : Kd.C (Kd.int .i64) w A2 l2.length l2) (hc2 : l2.length ≤ c2) (hr_ : r = true) (h : laws_FnExactWantedOf.f k a0_0 a0_1 a0_2 l1 l2 a3 = some r) :
  Calls Try.prog 3 #[.agg #[.int .i64 a0_0, .int .i64 a0_1, .string a0_2], .slice A1 l1.length c1, .slice A2 l2.length c2, .int .i64 a3] w fun e w' => e = .returned (.bool r) ∧ Below w.heap.size w w' := by
 have hu23 := Try.underlying23
 have HR1 := Aside0.mk hr1
 have HC1 := Aside0.mk hc1
 clear hr1 hc1
 have HR2 := Aside0.mk hr2
 have HC2 := Aside0.mk hc2
 clear hr2 hc2
 have HB := Aside0.mk (Below.refl w.heap.size w)
 have H : (if (l1.length : Int) > 1048576 then (some true) else (if (l2.length : Int) > 1048576 then (some true) else ((laws_szGrid.f a0_0 a0_1 a0_2 1048576).bind fun t382 => (if t382 < 0 then (some true) else ((laws_toGrid.f a0_0 a0_1 a0_2).bind fun bt383 => ((laws_toIntS.f k l1).bind fun t386 => ((laws_toIntS.f k l2).bind fun t389 => ((spec_WantedOf.f k bt383.1 bt383.2.1 bt383.2.2 t386 t389 a3).bind fun bt392 => ((laws_toIntS.f k l1).bind fun t396 => ((laws_toIntS.f k l2).bind fun t399 => ((laws_toGrid.f a0_0 a0_1 a0_2).bind fun bt402 => ((impl_WantedOf.f k bt402.1 bt402.2.1 bt402.2.2 t396 t399 a3).bind fun bt405 => ((laws_eqIntS.f k bt405.1 bt392.1).bind fun t409 => (if t409 = true then (laws_FnExactWantedOf.j0 k l1 l2 a3 bt392.1 bt392.2 t396 t399 bt405.1 bt405.2 (bt405.2 != bt392.2) a0_0 a0_1 a0_2) else (laws_FnExactWantedOf.j0 k l1 l2 a3 bt392.1 bt392.2 t396 t399 bt405.1 bt405.2 true a0_0 a0_1 a0_2))))))))))))))) = some r := h
 clear h
 by_cases c5 : (l1.length : Int) > 1048576
 ·rw [if_pos c5] at H
  have c5b0 : decide (1048576 < (l1.length : Int)) = true := decide_eq_true c5
  have c5b1 : decide (1048576 < l1.length) = true := decide_eq_true (by omega)
  clear c5
  obtain rfl := Option.some.inj H
  go_enter Try.func3, Try.ntmps3
  go_wp2_with (first | ((with_reducible refine gate_dst (N := 4) rfl ?_); refine box_event ?hg (N := 4) ?hd (cs := #[.int .i64 a0_0, .int .i64 a0_1, .string a0_2]) (t := 23) ?hr ?_; (case hd => rfl); (case hg => rfl); (case hr => first | (go_simp; done) | (go_simp; rfl)); intro gb381 hg w6 hbox hb; have n0_ := Aside0.mk (below_step (uB HB.out) hb); have n1_ := Aside0.mk (hbox); have n2_ := Aside0.mk ((by rw [hg]; exact (below_size (uB HB.out)) : w.heap.size ≤ gb381)); have n3_ := Aside0.mk ((by rw [hg]; exact (below_size (uB HB.out)) : w.heap.size ≤ gb381)); clear HB; have HB := n0_; have BK381 := n1_; have GW381 := n2_; have GE381 := n3_; clear n0_ n1_ n2_ n3_; clear hb hbox hg))
  go_ret
  exact ⟨by first | rfl | (simp [errW_none, errW_some] <;> rfl) | (simp [*, errW_none, errW_some] <;> rfl), by repeat (first | (with_reducible first | exact HB.out | apply below_alloc | apply pw_below_drewN | apply below_drew1 | refine below_set ?_ GE381.out) | exact HB.out)⟩
 ·rw [if_neg c5] at H
  have c5b0 : decide (1048576 < (l1.length : Int)) = false := decide_eq_false c5
  have c5b1 : decide (1048576 < l1.length) = false := decide_eq_false (by omega)
  clear c5
  by_cases c7 : (l2.length : Int) > 1048576
  ·rw [if_pos c7] at H
   have c7b0 : decide (1048576 < (l2.length : Int)) = true := decide_eq_true c7
   have c7b1 : decide (1048576 < l2.length) = true := decide_eq_true (by omega)
   clear c7
   obtain rfl := Option.some.inj H
   go_enter Try.func3, Try.ntmps3
   go_wp2_with (first | ((with_reducible refine gate_dst (N := 4) rfl ?_); refine box_event ?hg (N := 4) ?hd (cs := #[.int .i64 a0_0, .int .i64 a0_1, .string a0_2]) (t := 23) ?hr ?_; (case hd => rfl); (case hg => rfl); (case hr => first | (go_simp; done) | (go_simp; rfl)); intro gb381 hg w8 hbox hb; have n0_ := Aside0.mk (below_step (uB HB.out) hb); have n1_ := Aside0.mk (hbox); have n2_ := Aside0.mk ((by rw [hg]; exact (below_size (uB HB.out)) : w.heap.size ≤ gb381)); have n3_ := Aside0.mk ((by rw [hg]; exact (below_size (uB HB.out)) : w.heap.size ≤ gb381)); clear HB; have HB := n0_; have BK381 := n1_; have GW381 := n2_; have GE381 := n3_; clear n0_ n1_ n2_ n3_; clear hb hbox hg))
   go_ret
   exact ⟨by first | rfl | (simp [errW_none, errW_some] <;> rfl) | (simp [*, errW_none, errW_some] <;> rfl), by repeat (first | (with_reducible first | exact HB.out | apply below_alloc | apply pw_below_drewN | apply below_drew1 | refine below_set ?_ GE381.out) | exact HB.out)⟩
  ·rw [if_neg c7] at H
   have c7b0 : decide (1048576 < (l2.length : Int)) = false := decide_eq_false c7
   have c7b1 : decide (1048576 < l2.length) = false := decide_eq_false (by omega)
   clear c7
   replace H := Option.bind_eq_some_iff.mp H
   obtain ⟨t382, A90, H⟩ := H
   replace H : (if t382 < 0 then (some true) else ((laws_toGrid.f a0_0 a0_1 a0_2).bind fun bt383 => ((laws_toIntS.f k l1).bind fun t386 => ((laws_toIntS.f k l2).bind fun t389 => ((spec_WantedOf.f k bt383.1 bt383.2.1 bt383.2.2 t386 t389 a3).bind fun bt392 => ((laws_toIntS.f k l1).bind fun t396 => ((laws_toIntS.f k l2).bind fun t399 => ((laws_toGrid.f a0_0 a0_1 a0_2).bind fun bt402 => ((impl_WantedOf.f k bt402.1 bt402.2.1 bt402.2.2 t396 t399 a3).bind fun bt405 => ((laws_eqIntS.f k bt405.1 bt392.1).bind fun t409 => (if t409 = true then (laws_FnExactWantedOf.j0 k l1 l2 a3 bt392.1 bt392.2 t396 t399 bt405.1 bt405.2 (bt405.2 != bt392.2) a0_0 a0_1 a0_2) else (laws_FnExactWantedOf.j0 k l1 l2 a3 bt392.1 bt392.2 t396 t399 bt405.1 bt405.2 true a0_0 a0_1 a0_2)))))))))))) = some r := H
   have A9 := Aside0.mk A90
   clear A90
   by_cases c10 : t382 < 0
   ·rw [if_pos c10] at H
    have c10b0 : decide (t382 < 0) = true := decide_eq_true c10
    clear c10
    obtain rfl := Option.some.inj H
    go_enter Try.func3, Try.ntmps3
    go_wp2_with (first | ((with_reducible refine gate_dst (N := 4) rfl ?_); refine box_event ?hg (N := 4) ?hd (cs := #[.int .i64 a0_0, .int .i64 a0_1, .string a0_2]) (t := 23) ?hr ?_; (case hd => rfl); (case hg => rfl); (case hr => first | (go_simp; done) | (go_simp; rfl)); intro gb381 hg w11 hbox hb; have n0_ := Aside0.mk (below_step (uB HB.out) hb); have n1_ := Aside0.mk (hbox); have n2_ := Aside0.mk ((by rw [hg]; exact (below_size (uB HB.out)) : w.heap.size ≤ gb381)); have n3_ := Aside0.mk ((by rw [hg]; exact (below_size (uB HB.out)) : w.heap.size ≤ gb381)); clear HB; have HB := n0_; have BK381 := n1_; have GW381 := n2_; have GE381 := n3_; clear n0_ n1_ n2_ n3_; clear hb hbox hg; have hcz12_0 : w11.cell? ⟨gb381, 0, none⟩ = some (.int .i64 a0_0) := (blk_cell BK381.out 0).trans rfl; have hcz12_1 : w11.cell? ⟨gb381, 1, none⟩ = some (.int .i64 a0_1) := (blk_cell BK381.out 1).trans rfl; have hcz12_2 : w11.cell? ⟨gb381, 2, none⟩ = some (.string a0_2) := (blk_cell BK381.out 2).trans rfl; have hfz12_0 := blk_frozen BK381.out 0; have hfz12_1 := blk_frozen BK381.out 1; have hfz12_2 := blk_frozen BK381.out 2) | ((with_reducible refine gate_callee (f := 5) rfl ?_); refine goesL_ (some 29) rfl rfl Try.func5 (by kernel_rfl) rfl #[.agg #[.int .i64 a0_0, .int .i64 a0_1, .string a0_2], .int .i64 1048576] rfl (by (try simp only [List.map_toArray, List.map_cons, List.map_nil]); first | done | rfl | (simp only [List.length_drop, List.length_take]; rfl)) ?_; (with_reducible refine (laws_szGrid.calls a0_0 a0_1 a0_2 1048576 t382 _ A9.out).mono ?_); rintro e w13 ⟨rfl, hb⟩; refine ⟨_, rfl, ?_⟩; have n0_ := Aside0.mk (blk_below (g := gb381) (o := .cells #[.int .i64 a0_0, .int .i64 a0_1, .string a0_2] 23 (0, 0)) (by (with_reducible repeat (first | refine blk_drewN ?_ _ | refine blk_drew ?_ | refine blk_alloc ?_ _)); exact BK381.out) hb); have n1_ := Aside0.mk (below_step (by repeat (first | (with_reducible first | exact HB.out | apply below_alloc | apply pw_below_drewN | apply below_drew1 | refine below_set ?_ GE381.out) | exact HB.out)) hb); clear BK381; clear HB; have BK381 := n0_; have HB := n1_; clear n0_ n1_; (try clear hb); (try clear hb2); (try clear hk); (try clear hi)))
    go_ret
    exact ⟨by first | rfl | (simp [errW_none, errW_some] <;> rfl) | (simp [*, errW_none, errW_some] <;> rfl), by repeat (first | (with_reducible first | exact HB.out | apply below_alloc | apply pw_below_drewN | apply below_drew1 | refine below_set ?_ GE381.out) | exact HB.out)⟩
   ·rw [if_neg c10] at H
    have c10b0 : decide (t382 < 0) = false := decide_eq_false c10
    clear c10
    replace H := Option.bind_eq_some_iff.mp H
    obtain ⟨⟨t383, t384, t385⟩, A140, H⟩ := H
    replace H : ((laws_toIntS.f k l1).bind fun t386 => ((laws_toIntS.f k l2).bind fun t389 => ((spec_WantedOf.f k t383 t384 t385 t386 t389 a3).bind fun bt392 => ((laws_toIntS.f k l1).bind fun t396 => ((laws_toIntS.f k l2).bind fun t399 => ((laws_toGrid.f a0_0 a0_1 a0_2).bind fun bt402 => ((impl_WantedOf.f k bt402.1 bt402.2.1 bt402.2.2 t396 t399 a3).bind fun bt405 => ((laws_eqIntS.f k bt405.1 bt392.1).bind fun t409 => (if t409 = true then (laws_FnExactWantedOf.j0 k l1 l2 a3 bt392.1 bt392.2 t396 t399 bt405.1 bt405.2 (bt405.2 != bt392.2) a0_0 a0_1 a0_2) else (laws_FnExactWantedOf.j0 k l1 l2 a3 bt392.1 bt392.2 t396 t399 bt405.1 bt405.2 true a0_0 a0_1 a0_2)))))))))) = some r := H
    have A14 := Aside0.mk A140
    clear A140
    replace H := Option.bind_eq_some_iff.mp H
    obtain ⟨t386, A150, H⟩ := H
    replace H : ((laws_toIntS.f k l2).bind fun t389 => ((spec_WantedOf.f k t383 t384 t385 t386 t389 a3).bind fun bt392 => ((laws_toIntS.f k l1).bind fun t396 => ((laws_toIntS.f k l2).bind fun t399 => ((laws_toGrid.f a0_0 a0_1 a0_2).bind fun bt402 => ((impl_WantedOf.f k bt402.1 bt402.2.1 bt402.2.2 t396 t399 a3).bind fun bt405 => ((laws_eqIntS.f k bt405.1 bt392.1).bind fun t409 => (if t409 = true then (laws_FnExactWantedOf.j0 k l1 l2 a3 bt392.1 bt392.2 t396 t399 bt405.1 bt405.2 (bt405.2 != bt392.2) a0_0 a0_1 a0_2) else (laws_FnExactWantedOf.j0 k l1 l2 a3 bt392.1 bt392.2 t396 t399 bt405.1 bt405.2 true a0_0 a0_1 a0_2))))))))) = some r := H
    have A15 := Aside0.mk A150
    clear A150
    replace H := Option.bind_eq_some_iff.mp H
    obtain ⟨t389, A160, H⟩ := H
    replace H : ((spec_WantedOf.f k t383 t384 t385 t386 t389 a3).bind fun bt392 => ((laws_toIntS.f k l1).bind fun t396 => ((laws_toIntS.f k l2).bind fun t399 => ((laws_toGrid.f a0_0 a0_1 a0_2).bind fun bt402 => ((impl_WantedOf.f k bt402.1 bt402.2.1 bt402.2.2 t396 t399 a3).bind fun bt405 => ((laws_eqIntS.f k bt405.1 bt392.1).bind fun t409 => (if t409 = true then (laws_FnExactWantedOf.j0 k l1 l2 a3 bt392.1 bt392.2 t396 t399 bt405.1 bt405.2 (bt405.2 != bt392.2) a0_0 a0_1 a0_2) else (laws_FnExactWantedOf.j0 k l1 l2 a3 bt392.1 bt392.2 t396 t399 bt405.1 bt405.2 true a0_0 a0_1 a0_2)))))))) = some r := H
    have A16 := Aside0.mk A160
    clear A160
    replace H := Option.bind_eq_some_iff.mp H
    obtain ⟨⟨t392, t395⟩, A170, H⟩ := H
    replace H : ((laws_toIntS.f k l1).bind fun t396 => ((laws_toIntS.f k l2).bind fun t399 => ((laws_toGrid.f a0_0 a0_1 a0_2).bind fun bt402 => ((impl_WantedOf.f k bt402.1 bt402.2.1 bt402.2.2 t396 t399 a3).bind fun bt405 => ((laws_eqIntS.f k bt405.1 t392).bind fun t409 => (if t409 = true then (laws_FnExactWantedOf.j0 k l1 l2 a3 t392 t395 t396 t399 bt405.1 bt405.2 (bt405.2 != t395) a0_0 a0_1 a0_2) else (laws_FnExactWantedOf.j0 k l1 l2 a3 t392 t395 t396 t399 bt405.1 bt405.2 true a0_0 a0_1 a0_2))))))) = some r := H
    have A17 := Aside0.mk A170
    clear A170
    replace H := Option.bind_eq_some_iff.mp H
    obtain ⟨t396, A180, H⟩ := H
    replace H : ((laws_toIntS.f k l2).bind fun t399 => ((laws_toGrid.f a0_0 a0_1 a0_2).bind fun bt402 => ((impl_WantedOf.f k bt402.1 bt402.2.1 bt402.2.2 t396 t399 a3).bind fun bt405 => ((laws_eqIntS.f k bt405.1 t392).bind fun t409 => (if t409 = true then (laws_FnExactWantedOf.j0 k l1 l2 a3 t392 t395 t396 t399 bt405.1 bt405.2 (bt405.2 != t395) a0_0 a0_1 a0_2) else (laws_FnExactWantedOf.j0 k l1 l2 a3 t392 t395 t396 t399 bt405.1 bt405.2 true a0_0 a0_1 a0_2)))))) = some r := H
    have A18 := Aside0.mk A180
    clear A180
    replace H := Option.bind_eq_some_iff.mp H
    obtain ⟨t399, A190, H⟩ := H
    replace H : ((laws_toGrid.f a0_0 a0_1 a0_2).bind fun bt402 => ((impl_WantedOf.f k bt402.1 bt402.2.1 bt402.2.2 t396 t399 a3).bind fun bt405 => ((laws_eqIntS.f k bt405.1 t392).bind fun t409 => (if t409 = true then (laws_FnExactWantedOf.j0 k l1 l2 a3 t392 t395 t396 t399 bt405.1 bt405.2 (bt405.2 != t395) a0_0 a0_1 a0_2) else (laws_FnExactWantedOf.j0 k l1 l2 a3 t392 t395 t396 t399 bt405.1 bt405.2 true a0_0 a0_1 a0_2))))) = some r := H
    have A19 := Aside0.mk A190
    clear A190
    replace H := Option.bind_eq_some_iff.mp H
    obtain ⟨⟨t402, t403, t404⟩, A200, H⟩ := H
    replace H : ((impl_WantedOf.f k t402 t403 t404 t396 t399 a3).bind fun bt405 => ((laws_eqIntS.f k bt405.1 t392).bind fun t409 => (if t409 = true then (laws_FnExactWantedOf.j0 k l1 l2 a3 t392 t395 t396 t399 bt405.1 bt405.2 (bt405.2 != t395) a0_0 a0_1 a0_2) else (laws_FnExactWantedOf.j0 k l1 l2 a3 t392 t395 t396 t399 bt405.1 bt405.2 true a0_0 a0_1 a0_2)))) = some r := H
    have A20 := Aside0.mk A200
    clear A200
    replace H := Option.bind_eq_some_iff.mp H
    obtain ⟨⟨t405, t408⟩, A210, H⟩ := H
    replace H : ((laws_eqIntS.f k t405 t392).bind fun t409 => (if t409 = true then (laws_FnExactWantedOf.j0 k l1 l2 a3 t392 t395 t396 t399 t405 t408 (t408 != t395) a0_0 a0_1 a0_2) else (laws_FnExactWantedOf.j0 k l1 l2 a3 t392 t395 t396 t399 t405 t408 true a0_0 a0_1 a0_2))) = some r := H
    have A21 := Aside0.mk A210
    clear A210
    have HC22 := Aside0.mk H
    clear H
    go_enter Try.func3, Try.ntmps3
    go_upto_region 13 with (first | ((with_reducible refine gate_dst (N := 4) rfl ?_); refine box_event ?hg (N := 4) ?hd (cs := #[.int .i64 a0_0, .int .i64 a0_1, .string a0_2]) (t := 23) ?hr ?_; (case hd => rfl); (case hg => rfl); (case hr => first | (go_simp; done) | (go_simp; rfl)); intro gb381 hg w23 hbox hb; have n0_ := Aside0.mk (below_step (uB HB.out) hb); have n1_ := Aside0.mk (hbox); have n2_ := Aside0.mk ((by rw [hg]; exact (below_size (uB HB.out)) : w.heap.size ≤ gb381)); have n3_ := Aside0.mk ((by rw [hg]; exact (below_size (uB HB.out)) : w.heap.size ≤ gb381)); clear HB; have HB := n0_; have BK381 := n1_; have GW381 := n2_; have GE381 := n3_; clear n0_ n1_ n2_ n3_; clear hb hbox hg; have hcz24_0 : w23.cell? ⟨gb381, 0, none⟩ = some (.int .i64 a0_0) := (blk_cell BK381.out 0).trans rfl; have hcz24_1 : w23.cell? ⟨gb381, 1, none⟩ = some (.int .i64 a0_1) := (blk_cell BK381.out 1).trans rfl; have hcz24_2 : w23.cell? ⟨gb381, 2, none⟩ = some (.string a0_2) := (blk_cell BK381.out 2).trans rfl; have hfz24_0 := blk_frozen BK381.out 0; have hfz24_1 := blk_frozen BK381.out 1; have hfz24_2 := blk_frozen BK381.out 2) | ((with_reducible refine gate_callee (f := 5) rfl ?_); refine goesL_ (some 29) rfl rfl Try.func5 (by kernel_rfl) rfl #[.agg #[.int .i64 a0_0, .int .i64 a0_1, .string a0_2], .int .i64 1048576] rfl (by (try simp only [List.map_toArray, List.map_cons, List.map_nil]); first | done | rfl | (simp only [List.length_drop, List.length_take]; rfl)) ?_; (with_reducible refine (laws_szGrid.calls a0_0 a0_1 a0_2 1048576 t382 _ A9.out).mono ?_); rintro e w25 ⟨rfl, hb⟩; refine ⟨_, rfl, ?_⟩; have n0_ := Aside0.mk (blk_below (g := gb381) (o := .cells #[.int .i64 a0_0, .int .i64 a0_1, .string a0_2] 23 (0, 0)) (by (with_reducible repeat (first | refine blk_drewN ?_ _ | refine blk_drew ?_ | refine blk_alloc ?_ _)); exact BK381.out) hb); have n1_ := Aside0.mk (below_step (by repeat (first | (with_reducible first | exact HB.out | apply below_alloc | apply pw_below_drewN | apply below_drew1 | refine below_set ?_ GE381.out) | exact HB.out)) hb); clear BK381; clear HB; have BK381 := n0_; have HB := n1_; clear n0_ n1_; (try clear hb); (try clear hb2); (try clear hk); (try clear hi); have hcz26_0 : w25.cell? ⟨gb381, 0, none⟩ = some (.int .i64 a0_0) := (blk_cell BK381.out 0).trans rfl; have hcz26_1 : w25.cell? ⟨gb381, 1, none⟩ = some (.int .i64 a0_1) := (blk_cell BK381.out 1).trans rfl; have hcz26_2 : w25.cell? ⟨gb381, 2, none⟩ = some (.string a0_2) := (blk_cell BK381.out 2).trans rfl; have hfz26_0 := blk_frozen BK381.out 0; have hfz26_1 := blk_frozen BK381.out 1; have hfz26_2 := blk_frozen BK381.out 2) | ((with_reducible refine gate_callee (f := 7) rfl ?_); refine goesL_ (some 34) rfl rfl Try.func7 (by kernel_rfl) rfl #[.agg #[.int .i64 a0_0, .int .i64 a0_1, .string a0_2]] rfl (by (try simp only [List.map_toArray, List.map_cons, List.map_nil]); first | done | rfl | (simp only [List.length_drop, List.length_take]; rfl)) ?_; (with_reducible refine (laws_toGrid.calls a0_0 a0_1 a0_2 t383 t384 t385 _ A14.out).mono ?_); rintro e w27 ⟨rfl, hb⟩; refine ⟨_, rfl, ?_⟩; have n0_ := Aside0.mk (blk_below (g := gb381) (o := .cells #[.int .i64 a0_0, .int .i64 a0_1, .string a0_2] 23 (0, 0)) (by (with_reducible repeat (first | refine blk_drewN ?_ _ | refine blk_drew ?_ | refine blk_alloc ?_ _)); exact BK381.out) hb); have n1_ := Aside0.mk (below_step (by repeat (first | (with_reducible first | exact HB.out | apply below_alloc | apply pw_below_drewN | apply below_drew1 | refine below_set ?_ GE381.out) | exact HB.out)) hb); clear BK381; clear HB; have BK381 := n0_; have HB := n1_; clear n0_ n1_; (try clear hb); (try clear hb2); (try clear hk); (try clear hi)) | ((with_reducible refine gate_callee (f := 8) rfl ?_); refine goesL_ (some 36) rfl rfl Try.func8 (by kernel_rfl) rfl #[.slice A1 l1.length c1] rfl (by (try simp only [List.map_toArray, List.map_cons, List.map_nil]); first | done | rfl | (simp only [List.length_drop, List.length_take]; rfl)) ?_; (with_reducible refine (laws_toIntS.calls k _ _ l1 t386 _ ?side1 ?side2 A15.out).mono ?_); (case side1 => repeat (first | exact (Kd.C_below HR1.out HB.out) | (with_reducible refine Kd.C_alloc ?_ _) | (with_reducible refine Kd.C_drewN ?_ _) | (with_reducible refine Kd.C_drew ?_))); (case side2 => exact HC1.out); rintro e w28 ⟨v387, rfl, ho0, hb⟩; refine ⟨_, rfl, ?_⟩; have n0_ := Aside0.mk (Kd.R_lower ho0 (below_size (by repeat (first | (with_reducible first | exact HB.out | apply below_alloc | apply pw_below_drewN | apply below_drew1 | refine below_set ?_ GE381.out) | exact HB.out)))); have n1_ := Aside0.mk (blk_below (g := gb381) (o := .cells #[.int .i64 a0_0, .int .i64 a0_1, .string a0_2] 23 (0, 0)) (by (with_reducible repeat (first | refine blk_drewN ?_ _ | refine blk_drew ?_ | refine blk_alloc ?_ _)); exact BK381.out) hb); have n2_ := Aside0.mk (below_step (by repeat (first | (with_reducible first | exact HB.out | apply below_alloc | apply pw_below_drewN | apply below_drew1 | refine below_set ?_ GE381.out) | exact HB.out)) hb); clear BK381; clear HB; have HO388 := n0_; have BK381 := n1_; have HB := n2_; clear n0_ n1_ n2_; (try clear hb); (try clear hb2); (try clear hk); (try clear hi); (try clear ho0)) | ((with_reducible refine gate_callee (f := 8) rfl ?_); refine goesL_ (some 38) rfl rfl Try.func8 (by kernel_rfl) rfl #[.slice A2 l2.length c2] rfl (by (try simp only [List.map_toArray, List.map_cons, List.map_nil]); first | done | rfl | (simp only [List.length_drop, List.length_take]; rfl)) ?_; (with_reducible refine (laws_toIntS.calls k _ _ l2 t389 _ ?side1 ?side2 A16.out).mono ?_); (case side1 => repeat (first | exact (Kd.C_below HR2.out HB.out) | (with_reducible refine Kd.C_alloc ?_ _) | (with_reducible refine Kd.C_drewN ?_ _) | (with_reducible refine Kd.C_drew ?_))); (case side2 => exact HC2.out); rintro e w29 ⟨v390, rfl, ho0, hb⟩; refine ⟨_, rfl, ?_⟩; have n0_ := Aside0.mk (Kd.R_elder' (uR HO388.out) (Kd.R_base ho0) hb); have n1_ := Aside0.mk (Kd.R_lower (Kd.R_new' ho0 (Kd.R_lt (uR HO388.out))) (below_size (by repeat (first | (with_reducible first | exact HB.out | apply below_alloc | apply pw_below_drewN | apply below_drew1 | refine below_set ?_ GE381.out) | exact HB.out)))); have n2_ := Aside0.mk (blk_below (g := gb381) (o := .cells #[.int .i64 a0_0, .int .i64 a0_1, .string a0_2] 23 (0, 0)) (by (with_reducible repeat (first | refine blk_drewN ?_ _ | refine blk_drew ?_ | refine blk_alloc ?_ _)); exact BK381.out) hb); have n3_ := Aside0.mk (below_step (by repeat (first | (with_reducible first | exact HB.out | apply below_alloc | apply pw_below_drewN | apply below_drew1 | refine below_set ?_ GE381.out) | exact HB.out)) hb); clear HO388; clear BK381; clear HB; have HO388 := n0_; have HO391 := n1_; have BK381 := n2_; have HB := n3_; clear n0_ n1_ n2_ n3_; (try clear hb); (try clear hb2); (try clear hk); (try clear hi); (try clear ho0); obtain ⟨Ao30, co30, eo30⟩ := Kd.R_slice HO388.out; subst eo30; obtain ⟨Ao31, co31, eo31⟩ := Kd.R_slice HO391.out; subst eo31) | ((with_reducible refine gate_callee (f := 6) rfl ?_); refine goesL_ (some 40) rfl rfl Try.func6 (by kernel_rfl) rfl #[.agg #[.int .i64 t383, .int .i64 t384, .string t385], .slice Ao30 t386.length co30, .slice Ao31 t389.length co31, .int .i64 a3] rfl (by (try simp only [List.map_toArray, List.map_cons, List.map_nil]); first | done | rfl | (simp only [List.length_drop, List.length_take]; rfl)) ?_; (with_reducible refine (spec_WantedOf.calls k t383 t384 t385 _ _ t386 _ _ t389 a3 t392 t395 _ ?side1 ?side2 ?side3 ?side4 A17.out).mono ?_); (case side1 => exact uC (Kd.R_reads' HO388.out).2.2); (case side2 => exact (Kd.R_reads' HO388.out).2.1); (case side3 => exact uC (Kd.R_reads' HO391.out).2.2); (case side4 => exact (Kd.R_reads' HO391.out).2.1); rintro e w32 ⟨v393, rfl, ho0, hb⟩; refine ⟨_, rfl, ?_⟩; have n0_ := Aside0.mk (Kd.R_elder' (uR HO388.out) (Kd.R_base ho0) hb); have n1_ := Aside0.mk (Kd.R_elder' (uR HO391.out) (Kd.R_base ho0) hb); have n2_ := Aside0.mk (Kd.R_lower (Kd.R_new' (Kd.R_new' ho0 (Kd.R_lt (uR HO388.out))) (Kd.R_lt (uR HO391.out))) (below_size (by repeat (first | (with_reducible first | exact HB.out | apply below_alloc | apply pw_below_drewN | apply below_drew1 | refine below_set ?_ GE381.out) | exact HB.out)))); have n3_ := Aside0.mk (blk_below (g := gb381) (o := .cells #[.int .i64 a0_0, .int .i64 a0_1, .string a0_2] 23 (0, 0)) (by (with_reducible repeat (first | refine blk_drewN ?_ _ | refine blk_drew ?_ | refine blk_alloc ?_ _)); exact BK381.out) hb); have n4_ := Aside0.mk (below_step (by repeat (first | (with_reducible first | exact HB.out | apply below_alloc | apply pw_below_drewN | apply below_drew1 | refine below_set ?_ GE381.out) | exact HB.out)) hb); clear HO388; clear HO391; clear BK381; clear HB; have HO388 := n0_; have HO391 := n1_; have HO394 := n2_; have BK381 := n3_; have HB := n4_; clear n0_ n1_ n2_ n3_ n4_; (try clear hb); (try clear hb2); (try clear hk); (try clear hi); (try clear ho0)) | ((with_reducible refine gate_callee (f := 8) rfl ?_); refine goesL_ (some 44) rfl rfl Try.func8 (by kernel_rfl) rfl #[.slice A1 l1.length c1] rfl (by (try simp only [List.map_toArray, List.map_cons, List.map_nil]); first | done | rfl | (simp only [List.length_drop, List.length_take]; rfl)) ?_; (with_reducible refine (laws_toIntS.calls k _ _ l1 t396 _ ?side1 ?side2 A18.out).mono ?_); (case side1 => repeat (first | exact (Kd.C_below HR1.out HB.out) | (with_reducible refine Kd.C_alloc ?_ _) | (with_reducible refine Kd.C_drewN ?_ _) | (with_reducible refine Kd.C_drew ?_))); (case side2 => exact HC1.out); rintro e w33 ⟨v397, rfl, ho0, hb⟩; refine ⟨_, rfl, ?_⟩; have n0_ := Aside0.mk (Kd.R_elder' (uR HO388.out) (Kd.R_base ho0) hb); have n1_ := Aside0.mk (Kd.R_elder' (uR HO391.out) (Kd.R_base ho0) hb); have n2_ := Aside0.mk (Kd.R_elder' (uR HO394.out) (Kd.R_base ho0) hb); have n3_ := Aside0.mk (Kd.R_lower (Kd.R_new' (Kd.R_new' (Kd.R_new' ho0 (Kd.R_lt (uR HO388.out))) (Kd.R_lt (uR HO391.out))) (Kd.R_lt (uR HO394.out))) (below_size (by repeat (first | (with_reducible first | exact HB.out | apply below_alloc | apply pw_below_drewN | apply below_drew1 | refine below_set ?_ GE381.out) | exact HB.out)))); have n4_ := Aside0.mk (blk_below (g := gb381) (o := .cells #[.int .i64 a0_0, .int .i64 a0_1, .string a0_2] 23 (0, 0)) (by (with_reducible repeat (first | refine blk_drewN ?_ _ | refine blk_drew ?_ | refine blk_alloc ?_ _)); exact BK381.out) hb); have n5_ := Aside0.mk (below_step (by repeat (first | (with_reducible first | exact HB.out | apply below_alloc | apply pw_below_drewN | apply below_drew1 | refine below_set ?_ GE381.out) | exact HB.out)) hb); clear HO388; clear HO391; clear HO394; clear BK381; clear HB; have HO388 := n0_; have HO391 := n1_; have HO394 := n2_; have HO398 := n3_; have BK381 := n4_; have HB := n5_; clear n0_ n1_ n2_ n3_ n4_ n5_; (try clear hb); (try clear hb2); (try clear hk); (try clear hi); (try clear ho0)) | ((with_reducible refine gate_callee (f := 8) rfl ?_); refine goesL_ (some 46) rfl rfl Try.func8 (by kernel_rfl) rfl #[.slice A2 l2.length c2] rfl (by (try simp only [List.map_toArray, List.map_cons, List.map_nil]); first | done | rfl | (simp only [List.length_drop, List.length_take]; rfl)) ?_; (with_reducible refine (laws_toIntS.calls k _ _ l2 t399 _ ?side1 ?side2 A19.out).mono ?_); (case side1 => repeat (first | exact (Kd.C_below HR2.out HB.out) | (with_reducible refine Kd.C_alloc ?_ _) | (with_reducible refine Kd.C_drewN ?_ _) | (with_reducible refine Kd.C_drew ?_))); (case side2 => exact HC2.out); rintro e w34 ⟨v400, rfl, ho0, hb⟩; refine ⟨_, rfl, ?_⟩; have n0_ := Aside0.mk (Kd.R_elder' (uR HO388.out) (Kd.R_base ho0) hb); have n1_ := Aside0.mk (Kd.R_elder' (uR HO391.out) (Kd.R_base ho0) hb); have n2_ := Aside0.mk (Kd.R_elder' (uR HO394.out) (Kd.R_base ho0) hb); have n3_ := Aside0.mk (Kd.R_elder' (uR HO398.out) (Kd.R_base ho0) hb); have n4_ := Aside0.mk (Kd.R_lower (Kd.R_new' (Kd.R_new' (Kd.R_new' (Kd.R_new' ho0 (Kd.R_lt (uR HO388.out))) (Kd.R_lt (uR HO391.out))) (Kd.R_lt (uR HO394.out))) (Kd.R_lt (uR HO398.out))) (below_size (by repeat (first | (with_reducible first | exact HB.out | apply below_alloc | apply pw_below_drewN | apply below_drew1 | refine below_set ?_ GE381.out) | exact HB.out)))); have n5_ := Aside0.mk (blk_below (g := gb381) (o := .cells #[.int .i64 a0_0, .int .i64 a0_1, .string a0_2] 23 (0, 0)) (by (with_reducible repeat (first | refine blk_drewN ?_ _ | refine blk_drew ?_ | refine blk_alloc ?_ _)); exact BK381.out) hb); have n6_ := Aside0.mk (below_step (by repeat (first | (with_reducible first | exact HB.out | apply below_alloc | apply pw_below_drewN | apply below_drew1 | refine below_set ?_ GE381.out) | exact HB.out)) hb); clear HO388; clear HO391; clear HO394; clear HO398; clear BK381; clear HB; have HO388 := n0_; have HO391 := n1_; have HO394 := n2_; have HO398 := n3_; have HO401 := n4_; have BK381 := n5_; have HB := n6_; clear n0_ n1_ n2_ n3_ n4_ n5_ n6_; (try clear hb); (try clear hb2); (try clear hk); (try clear hi); (try clear ho0); have hcz35_0 : w34.cell? ⟨gb381, 0, none⟩ = some (.int .i64 a0_0) := (blk_cell BK381.out 0).trans rfl; have hcz35_1 : w34.cell? ⟨gb381, 1, none⟩ = some (.int .i64 a0_1) := (blk_cell BK381.out 1).trans rfl; have hcz35_2 : w34.cell? ⟨gb381, 2, none⟩ = some (.string a0_2) := (blk_cell BK381.out 2).trans rfl; have hfz35_0 := blk_frozen BK381.out 0; have hfz35_1 := blk_frozen BK381.out 1; have hfz35_2 := blk_frozen BK381.out 2) | ((with_reducible refine gate_callee (f := 7) rfl ?_); refine goesL_ (some 49) rfl rfl Try.func7 (by kernel_rfl) rfl #[.agg #[.int .i64 a0_0, .int .i64 a0_1, .string a0_2]] rfl (by (try simp only [List.map_toArray, List.map_cons, List.map_nil]); first | done | rfl | (simp only [List.length_drop, List.length_take]; rfl)) ?_; (with_reducible refine (laws_toGrid.calls a0_0 a0_1 a0_2 t402 t403 t404 _ A20.out).mono ?_); rintro e w36 ⟨rfl, hb⟩; refine ⟨_, rfl, ?_⟩; have n0_ := Aside0.mk (Kd.R_below (uR HO388.out) hb); have n1_ := Aside0.mk (Kd.R_below (uR HO391.out) hb); have n2_ := Aside0.mk (Kd.R_below (uR HO394.out) hb); have n3_ := Aside0.mk (Kd.R_below (uR HO398.out) hb); have n4_ := Aside0.mk (Kd.R_below (uR HO401.out) hb); have n5_ := Aside0.mk (blk_below (g := gb381) (o := .cells #[.int .i64 a0_0, .int .i64 a0_1, .string a0_2] 23 (0, 0)) (by (with_reducible repeat (first | refine blk_drewN ?_ _ | refine blk_drew ?_ | refine blk_alloc ?_ _)); exact BK381.out) hb); have n6_ := Aside0.mk (below_step (by repeat (first | (with_reducible first | exact HB.out | apply below_alloc | apply pw_below_drewN | apply below_drew1 | refine below_set ?_ GE381.out) | exact HB.out)) hb); clear HO388; clear HO391; clear HO394; clear HO398; clear HO401; clear BK381; clear HB; have HO388 := n0_; have HO391 := n1_; have HO394 := n2_; have HO398 := n3_; have HO401 := n4_; have BK381 := n5_; have HB := n6_; clear n0_ n1_ n2_ n3_ n4_ n5_ n6_; (try clear hb); (try clear hb2); (try clear hk); (try clear hi); obtain ⟨Ao37, co37, eo37⟩ := Kd.R_slice HO398.out; subst eo37; obtain ⟨Ao38, co38, eo38⟩ := Kd.R_slice HO401.out; subst eo38) | ((with_reducible refine gate_callee (f := 9) rfl ?_); refine goesL_ (some 53) rfl rfl Try.func9 (by kernel_rfl) rfl #[.agg #[.int .i64 t402, .int .i64 t403, .string t404], .slice Ao37 t396.length co37, .slice Ao38 t399.length co38, .int .i64 a3] rfl (by (try simp only [List.map_toArray, List.map_cons, List.map_nil]); first | done | rfl | (simp only [List.length_drop, List.length_take]; rfl)) ?_; (with_reducible refine (impl_WantedOf.calls k t402 t403 t404 _ _ t396 _ _ t399 a3 t405 t408 _ ?side1 ?side2 ?side3 ?side4 A21.out).mono ?_); (case side1 => exact uC (Kd.R_reads' HO398.out).2.2); (case side2 => exact (Kd.R_reads' HO398.out).2.1); (case side3 => exact uC (Kd.R_reads' HO401.out).2.2); (case side4 => exact (Kd.R_reads' HO401.out).2.1); rintro e w39 ⟨v406, rfl, ho0, hb⟩; refine ⟨_, rfl, ?_⟩; have n0_ := Aside0.mk (Kd.R_elder' (uR HO388.out) (Kd.R_base ho0) hb); have n1_ := Aside0.mk (Kd.R_elder' (uR HO391.out) (Kd.R_base ho0) hb); have n2_ := Aside0.mk (Kd.R_elder' (uR HO394.out) (Kd.R_base ho0) hb); have n3_ := Aside0.mk (Kd.R_elder' (uR HO398.out) (Kd.R_base ho0) hb); have n4_ := Aside0.mk (Kd.R_elder' (uR HO401.out) (Kd.R_base ho0) hb); have n5_ := Aside0.mk (Kd.R_lower (Kd.R_new' (Kd.R_new' (Kd.R_new' (Kd.R_new' (Kd.R_new' ho0 (Kd.R_lt (uR HO388.out))) (Kd.R_lt (uR HO391.out))) (Kd.R_lt (uR HO394.out))) (Kd.R_lt (uR HO398.out))) (Kd.R_lt (uR HO401.out))) (below_size (by repeat (first | (with_reducible first | exact HB.out | apply below_alloc | apply pw_below_drewN | apply below_drew1 | refine below_set ?_ GE381.out) | exact HB.out)))); have n6_ := Aside0.mk (blk_below (g := gb381) (o := .cells #[.int .i64 a0_0, .int .i64 a0_1, .string a0_2] 23 (0, 0)) (by (with_reducible repeat (first | refine blk_drewN ?_ _ | refine blk_drew ?_ | refine blk_alloc ?_ _)); exact BK381.out) hb); have n7_ := Aside0.mk (below_step (by repeat (first | (with_reducible first | exact HB.out | apply below_alloc | apply pw_below_drewN | apply below_drew1 | refine below_set ?_ GE381.out) | exact HB.out)) hb); clear HO388; clear HO391; clear HO394; clear HO398; clear HO401; clear BK381; clear HB; have HO388 := n0_; have HO391 := n1_; have HO394 := n2_; have HO398 := n3_; have HO401 := n4_; have HO407 := n5_; have BK381 := n6_; have HB := n7_; clear n0_ n1_ n2_ n3_ n4_ n5_ n6_ n7_; (try clear hb); (try clear hb2); (try clear hk); (try clear hi); (try clear ho0)))
    (try simp only [Act.put, List.setIfInBounds_toArray, List.set_cons_zero, List.set_cons_succ])
    go_cut [64] (fun v64 wc => ∃ (kq : Nat) (x64_21 : Bool), v64 = .bool x64_21 ∧ Aside0 (laws_FnExactWantedOf.j0 kq l1 l2 a3 t392 t395 t396 t399 t405 t408 x64_21 a0_0 a0_1 a0_2 = some r) ∧ Aside0 (kq ≤ k) ∧ Aside0 (Kd.R (Kd.int .i64) 3 wc w.heap.size (fun k_ => some k_ ≠ ((.slice Ao37 t396.length co37) : Value).ownBlock ∧ some k_ ≠ ((.slice Ao38 t399.length co38) : Value).ownBlock ∧ some k_ ≠ (v406 : Value).ownBlock) v393 t392) ∧ Aside0 (Kd.R (Kd.int .i64) 3 wc w.heap.size (fun k_ => some k_ ≠ (v393 : Value).ownBlock ∧ some k_ ≠ ((.slice Ao38 t399.length co38) : Value).ownBlock ∧ some k_ ≠ (v406 : Value).ownBlock) (.slice Ao37 t396.length co37) t396) ∧ Aside0 (Kd.R (Kd.int .i64) 3 wc w.heap.size (fun k_ => some k_ ≠ (v393 : Value).ownBlock ∧ some k_ ≠ ((.slice Ao37 t396.length co37) : Value).ownBlock ∧ some k_ ≠ (v406 : Value).ownBlock) (.slice Ao38 t399.length co38) t399) ∧ Aside0 (Kd.R (Kd.int .i64) 3 wc w.heap.size (fun k_ => some k_ ≠ (v393 : Value).ownBlock ∧ some k_ ≠ ((.slice Ao37 t396.length co37) : Value).ownBlock ∧ some k_ ≠ ((.slice Ao38 t399.length co38) : Value).ownBlock) v406 t405) ∧ Aside0 (wc.heap[gb381]? = some (.cells #[.int .i64 a0_0, .int .i64 a0_1, .string a0_2] 23 (0, 0))) ∧ Aside0 (Below w.heap.size w wc))
    case first =>
     have H := HC22.out
     clear HC22
     replace H := Option.bind_eq_some_iff.mp H
     obtain ⟨t409, A400, H⟩ := H
     replace H : (if t409 = true then (laws_FnExactWantedOf.j0 k l1 l2 a3 t392 t395 t396 t399 t405 t408 (t408 != t395) a0_0 a0_1 a0_2) else (laws_FnExactWantedOf.j0 k l1 l2 a3 t392 t395 t396 t399 t405 t408 true a0_0 a0_1 a0_2)) = some r := H
     have A40 := Aside0.mk A400
     clear A400
     by_cases c41 : t409 = true
     ·subst c41
      have H1 : (laws_FnExactWantedOf.j0 k l1 l2 a3 t392 t395 t396 t399 t405 t408 (t408 != t395) a0_0 a0_1 a0_2) = some r := by rw [if_pos rfl] at H; exact H
      clear H
      have H := H1
      clear H1
      have H' := Aside0.mk H
      clear H
      obtain ⟨Ao42, co42, eo42⟩ := Kd.R_slice HO407.out
      subst eo42
      obtain ⟨Ao43, co43, eo43⟩ := Kd.R_slice HO394.out
      subst eo43
      go_wp2_with (first | ((with_reducible refine gate_callee (f := 10) rfl ?_); refine goesL_ (some 58) rfl rfl Try.func10 (by kernel_rfl) rfl #[.slice Ao42 t405.length co42, .slice Ao43 t392.length co43] rfl (by (try simp only [List.map_toArray, List.map_cons, List.map_nil]); first | done | rfl | (simp only [List.length_drop, List.length_take]; rfl)) ?_; (with_reducible refine (laws_eqIntS.calls k _ _ t405 _ _ t392 true _ ?side1 ?side2 ?side3 ?side4 A40.out).mono ?_); (case side1 => exact uC (Kd.R_reads' HO407.out).2.2); (case side2 => exact (Kd.R_reads' HO407.out).2.1); (case side3 => exact uC (Kd.R_reads' HO394.out).2.2); (case side4 => exact (Kd.R_reads' HO394.out).2.1); rintro e w' ⟨rfl, ⟨nd, rfl⟩⟩; refine ⟨_, rfl, ?_⟩))
      go_meet
      case rel => exact ⟨_, ((t408 != t395)), (by first | rfl | (simp; done) | (simp [*]; done)), H', ⟨by first | omega | exact Nat.le_refl _⟩, ⟨by (with_reducible repeat (first | apply Kd.R_alloc | apply Kd.R_drewN | apply Kd.R_drew)); exact Kd.R_mono HO394.out (fun _ hk => ⟨hk.1.1.2, ⟨hk.1.2, hk.2⟩⟩)⟩, ⟨by (with_reducible repeat (first | apply Kd.R_alloc | apply Kd.R_drewN | apply Kd.R_drew)); exact Kd.R_mono HO398.out (fun _ hk => ⟨hk.1.1.2, ⟨hk.1.2, hk.2⟩⟩)⟩, ⟨by (with_reducible repeat (first | apply Kd.R_alloc | apply Kd.R_drewN | apply Kd.R_drew)); exact Kd.R_mono HO401.out (fun _ hk => ⟨hk.1.1.2, ⟨hk.1.2, hk.2⟩⟩)⟩, ⟨by (with_reducible repeat (first | apply Kd.R_alloc | apply Kd.R_drewN | apply Kd.R_drew)); exact Kd.R_mono HO407.out (fun _ hk => ⟨hk.1.1.2, ⟨hk.1.2, hk.2⟩⟩)⟩, ⟨by (with_reducible repeat (first | refine blk_drewN ?_ _ | refine blk_drew ?_ | refine blk_alloc ?_ _)); exact BK381.out⟩, ⟨by repeat (first | (with_reducible first | exact HB.out | apply below_alloc | apply pw_below_drewN | apply below_drew1 | refine below_set ?_ GE381.out) | exact HB.out)⟩⟩
     ·replace c41 := Bool.eq_false_iff.mpr c41
      subst c41
      have H1 : (laws_FnExactWantedOf.j0 k l1 l2 a3 t392 t395 t396 t399 t405 t408 true a0_0 a0_1 a0_2) = some r := by rw [if_neg (show ¬ (false = true) by decide)] at H; exact H
      clear H
      have H := H1
      clear H1
      have H' := Aside0.mk H
      clear H
      obtain ⟨Ao44, co44, eo44⟩ := Kd.R_slice HO407.out
      subst eo44
      obtain ⟨Ao45, co45, eo45⟩ := Kd.R_slice HO394.out
      subst eo45
      go_wp2_with (first | ((with_reducible refine gate_callee (f := 10) rfl ?_); refine goesL_ (some 58) rfl rfl Try.func10 (by kernel_rfl) rfl #[.slice Ao44 t405.length co44, .slice Ao45 t392.length co45] rfl (by (try simp only [List.map_toArray, List.map_cons, List.map_nil]); first | done | rfl | (simp only [List.length_drop, List.length_take]; rfl)) ?_; (with_reducible refine (laws_eqIntS.calls k _ _ t405 _ _ t392 false _ ?side1 ?side2 ?side3 ?side4 A40.out).mono ?_); (case side1 => exact uC (Kd.R_reads' HO407.out).2.2); (case side2 => exact (Kd.R_reads' HO407.out).2.1); (case side3 => exact uC (Kd.R_reads' HO394.out).2.2); (case side4 => exact (Kd.R_reads' HO394.out).2.1); rintro e w' ⟨rfl, ⟨nd, rfl⟩⟩; refine ⟨_, rfl, ?_⟩))
      go_meet
      case rel => exact ⟨_, (true), (by first | rfl | (simp; done) | (simp [*]; done)), H', ⟨by first | omega | exact Nat.le_refl _⟩, ⟨by (with_reducible repeat (first | apply Kd.R_alloc | apply Kd.R_drewN | apply Kd.R_drew)); exact Kd.R_mono HO394.out (fun _ hk => ⟨hk.1.1.2, ⟨hk.1.2, hk.2⟩⟩)⟩, ⟨by (with_reducible repeat (first | apply Kd.R_alloc | apply Kd.R_drewN | apply Kd.R_drew)); exact Kd.R_mono HO398.out (fun _ hk => ⟨hk.1.1.2, ⟨hk.1.2, hk.2⟩⟩)⟩, ⟨by (with_reducible repeat (first | apply Kd.R_alloc | apply Kd.R_drewN | apply Kd.R_drew)); exact Kd.R_mono HO401.out (fun _ hk => ⟨hk.1.1.2, ⟨hk.1.2, hk.2⟩⟩)⟩, ⟨by (with_reducible repeat (first | apply Kd.R_alloc | apply Kd.R_drewN | apply Kd.R_drew)); exact Kd.R_mono HO407.out (fun _ hk => ⟨hk.1.1.2, ⟨hk.1.2, hk.2⟩⟩)⟩, ⟨by (with_reducible repeat (first | refine blk_drewN ?_ _ | refine blk_drew ?_ | refine blk_alloc ?_ _)); exact BK381.out⟩, ⟨by repeat (first | (with_reducible first | exact HB.out | apply below_alloc | apply pw_below_drewN | apply below_drew1 | refine below_set ?_ GE381.out) | exact HB.out)⟩⟩
    case rest =>
     clear HC22
     try clear c1
     try clear c2
     try clear p2
     try clear c3
     try clear c4
     try clear c5
     try clear c5b0
     try clear c5b1
     try clear c6
     try clear c7
     try clear c7b0
     try clear c7b1
     try clear c8
     try clear c9
     try clear c10
     try clear c10b0
     try clear c41
     try clear hcz12_0
     try clear hcz12_1
     try clear hcz12_2
     try clear hcz24_0
     try clear hcz24_1
     try clear hcz24_2
     try clear hcz26_0
     try clear hcz26_1
     try clear hcz26_2
     try clear hcz35_0
     try clear hcz35_1
     try clear hcz35_2
     try clear hfz12_0
     try clear hfz12_1
     try clear hfz12_2
     try clear hfz24_0
     try clear hfz24_1
     try clear hfz24_2
     try clear hfz26_0
     try clear hfz26_1
     try clear hfz26_2
     try clear hfz35_0
     try clear hfz35_1
     try clear hfz35_2
     obtain ⟨kq, x64_21, rfl, HA, HJ21, HO_10, HO_12, HO_13, HO_14, BK381, HB⟩ := hcut
     cases kq with
     | zero => exact absurd HA.out (by simp [laws_FnExactWantedOf.j0])
     | succ kj21 =>
      have H := HA.out
      clear HA
      simp only [laws_FnExactWantedOf.j0] at H
      by_cases c46 : x64_21 = true
      ·subst c46
       have H1 : (some false) = some r := by rw [if_pos rfl] at H; exact H
       clear H
       have H := H1
       clear H1
       exact absurd hr_ (by rw [← Option.some.inj H]; decide)
      ·replace c46 := Bool.eq_false_iff.mpr c46
       subst c46
       have H1 : ((laws_toIntS.f kj21 l1).bind fun t410 => ((laws_eqIntS.f kj21 t396 t410).bind fun t413 => (if t413 = true then ((laws_toIntS.f kj21 l2).bind fun t414 => ((laws_eqIntS.f kj21 t399 t414).bind fun t417 => (if t417 = true then ((laws_markIntS.f kj21 t396 1).bind fun bt418 => ((laws_markIntS.f kj21 t399 bt418.1).bind fun bt420 => (if bt420.1 < 0 then (laws_FnExactWantedOf.j1 kj21 l1 l2 a3 t392 t395 t405 true a0_0 a0_1 a0_2) else ((laws_eqIntS.f kj21 t405 t392).bind fun t422 => (if t422 = true then (laws_FnExactWantedOf.j1 kj21 l1 l2 a3 t392 t395 t405 (t408 != t395) a0_0 a0_1 a0_2) else (laws_FnExactWantedOf.j1 kj21 l1 l2 a3 t392 t395 t405 true a0_0 a0_1 a0_2)))))) else (some false)))) else (some false)))) = some r := by rw [if_neg (show ¬ (false = true) by decide)] at H; exact H
       clear H
       have H := H1
       clear H1
       replace H := Option.bind_eq_some_iff.mp H
       obtain ⟨t410, A470, H⟩ := H
       replace H : ((laws_eqIntS.f kj21 t396 t410).bind fun t413 => (if t413 = true then ((laws_toIntS.f kj21 l2).bind fun t414 => ((laws_eqIntS.f kj21 t399 t414).bind fun t417 => (if t417 = true then ((laws_markIntS.f kj21 t396 1).bind fun bt418 => ((laws_markIntS.f kj21 t399 bt418.1).bind fun bt420 => (if bt420.1 < 0 then (laws_FnExactWantedOf.j1 kj21 l1 l2 a3 t392 t395 t405 true a0_0 a0_1 a0_2) else ((laws_eqIntS.f kj21 t405 t392).bind fun t422 => (if t422 = true then (laws_FnExactWantedOf.j1 kj21 l1 l2 a3 t392 t395 t405 (t408 != t395) a0_0 a0_1 a0_2) else (laws_FnExactWantedOf.j1 kj21 l1 l2 a3 t392 t395 t405 true a0_0 a0_1 a0_2)))))) else (some false)))) else (some false))) = some r := H
       have A47 := Aside0.mk A470
       clear A470
       replace H := Option.bind_eq_some_iff.mp H
       obtain ⟨t413, A480, H⟩ := H
       replace H : (if t413 = true then ((laws_toIntS.f kj21 l2).bind fun t414 => ((laws_eqIntS.f kj21 t399 t414).bind fun t417 => (if t417 = true then ((laws_markIntS.f kj21 t396 1).bind fun bt418 => ((laws_markIntS.f kj21 t399 bt418.1).bind fun bt420 => (if bt420.1 < 0 then (laws_FnExactWantedOf.j1 kj21 l1 l2 a3 t392 t395 t405 true a0_0 a0_1 a0_2) else ((laws_eqIntS.f kj21 t405 t392).bind fun t422 => (if t422 = true then (laws_FnExactWantedOf.j1 kj21 l1 l2 a3 t392 t395 t405 (t408 != t395) a0_0 a0_1 a0_2) else (laws_FnExactWantedOf.j1 kj21 l1 l2 a3 t392 t395 t405 true a0_0 a0_1 a0_2)))))) else (some false)))) else (some false)) = some r := H
       have A48 := Aside0.mk A480
       clear A480
       by_cases c49 : t413 = true
       ·subst c49
        have H1 : ((laws_toIntS.f kj21 l2).bind fun t414 => ((laws_eqIntS.f kj21 t399 t414).bind fun t417 => (if t417 = true then ((laws_markIntS.f kj21 t396 1).bind fun bt418 => ((laws_markIntS.f kj21 t399 bt418.1).bind fun bt420 => (if bt420.1 < 0 then (laws_FnExactWantedOf.j1 kj21 l1 l2 a3 t392 t395 t405 true a0_0 a0_1 a0_2) else ((laws_eqIntS.f kj21 t405 t392).bind fun t422 => (if t422 = true then (laws_FnExactWantedOf.j1 kj21 l1 l2 a3 t392 t395 t405 (t408 != t395) a0_0 a0_1 a0_2) else (laws_FnExactWantedOf.j1 kj21 l1 l2 a3 t392 t395 t405 true a0_0 a0_1 a0_2)))))) else (some false)))) = some r := by rw [if_pos rfl] at H; exact H
        clear H
        have H := H1
        clear H1
        replace H := Option.bind_eq_some_iff.mp H
        obtain ⟨t414, A500, H⟩ := H
        replace H : ((laws_eqIntS.f kj21 t399 t414).bind fun t417 => (if t417 = true then ((laws_markIntS.f kj21 t396 1).bind fun bt418 => ((laws_markIntS.f kj21 t399 bt418.1).bind fun bt420 => (if bt420.1 < 0 then (laws_FnExactWantedOf.j1 kj21 l1 l2 a3 t392 t395 t405 true a0_0 a0_1 a0_2) else ((laws_eqIntS.f kj21 t405 t392).bind fun t422 => (if t422 = true then (laws_FnExactWantedOf.j1 kj21 l1 l2 a3 t392 t395 t405 (t408 != t395) a0_0 a0_1 a0_2) else (laws_FnExactWantedOf.j1 kj21 l1 l2 a3 t392 t395 t405 true a0_0 a0_1 a0_2)))))) else (some false))) = some r := H
        have A50 := Aside0.mk A500
        clear A500
        replace H := Option.bind_eq_some_iff.mp H
        obtain ⟨t417, A510, H⟩ := H
        replace H : (if t417 = true then ((laws_markIntS.f kj21 t396 1).bind fun bt418 => ((laws_markIntS.f kj21 t399 bt418.1).bind fun bt420 => (if bt420.1 < 0 then (laws_FnExactWantedOf.j1 kj21 l1 l2 a3 t392 t395 t405 true a0_0 a0_1 a0_2) else ((laws_eqIntS.f kj21 t405 t392).bind fun t422 => (if t422 = true then (laws_FnExactWantedOf.j1 kj21 l1 l2 a3 t392 t395 t405 (t408 != t395) a0_0 a0_1 a0_2) else (laws_FnExactWantedOf.j1 kj21 l1 l2 a3 t392 t395 t405 true a0_0 a0_1 a0_2)))))) else (some false)) = some r := H
        have A51 := Aside0.mk A510
        clear A510
        by_cases c52 : t417 = true
        ·subst c52
         have H1 : ((laws_markIntS.f kj21 t396 1).bind fun bt418 => ((laws_markIntS.f kj21 t399 bt418.1).bind fun bt420 => (if bt420.1 < 0 then (laws_FnExactWantedOf.j1 kj21 l1 l2 a3 t392 t395 t405 true a0_0 a0_1 a0_2) else ((laws_eqIntS.f kj21 t405 t392).bind fun t422 => (if t422 = true then (laws_FnExactWantedOf.j1 kj21 l1 l2 a3 t392 t395 t405 (t408 != t395) a0_0 a0_1 a0_2) else (laws_FnExactWantedOf.j1 kj21 l1 l2 a3 t392 t395 t405 true a0_0 a0_1 a0_2)))))) = some r := by rw [if_pos rfl] at H; exact H
         clear H
         have H := H1
         clear H1
         replace H := Option.bind_eq_some_iff.mp H
         obtain ⟨⟨t418, t419⟩, A530, H⟩ := H
         replace H : ((laws_markIntS.f kj21 t399 t418).bind fun bt420 => (if bt420.1 < 0 then (laws_FnExactWantedOf.j1 kj21 l1 l2 a3 t392 t395 t405 true a0_0 a0_1 a0_2) else ((laws_eqIntS.f kj21 t405 t392).bind fun t422 => (if t422 = true then (laws_FnExactWantedOf.j1 kj21 l1 l2 a3 t392 t395 t405 (t408 != t395) a0_0 a0_1 a0_2) else (laws_FnExactWantedOf.j1 kj21 l1 l2 a3 t392 t395 t405 true a0_0 a0_1 a0_2))))) = some r := H
         have A53 := Aside0.mk A530
         clear A530
         replace H := Option.bind_eq_some_iff.mp H
         obtain ⟨⟨t420, t421⟩, A540, H⟩ := H
         replace H : (if t420 < 0 then (laws_FnExactWantedOf.j1 kj21 l1 l2 a3 t392 t395 t405 true a0_0 a0_1 a0_2) else ((laws_eqIntS.f kj21 t405 t392).bind fun t422 => (if t422 = true then (laws_FnExactWantedOf.j1 kj21 l1 l2 a3 t392 t395 t405 (t408 != t395) a0_0 a0_1 a0_2) else (laws_FnExactWantedOf.j1 kj21 l1 l2 a3 t392 t395 t405 true a0_0 a0_1 a0_2)))) = some r := H
         have A54 := Aside0.mk A540
         clear A540
         have HC55 := Aside0.mk H
         clear H
         go_upto_region 22 with (first | ((with_reducible refine gate_callee (f := 8) rfl ?_); refine goesL_ (some 67) rfl rfl Try.func8 (by kernel_rfl) rfl #[.slice A1 l1.length c1] rfl (by (try simp only [List.map_toArray, List.map_cons, List.map_nil]); first | done | rfl | (simp only [List.length_drop, List.length_take]; rfl)) ?_; (with_reducible refine (laws_toIntS.calls kj21 _ _ l1 t410 _ ?side1 ?side2 A47.out).mono ?_); (case side1 => repeat (first | exact (Kd.C_below HR1.out HB.out) | (with_reducible refine Kd.C_alloc ?_ _) | (with_reducible refine Kd.C_drewN ?_ _) | (with_reducible refine Kd.C_drew ?_))); (case side2 => exact HC1.out); rintro e w56 ⟨v411, rfl, ho0, hb⟩; refine ⟨_, rfl, ?_⟩; have n0_ := Aside0.mk (Kd.R_elder' (uR HO_10.out) (Kd.R_base ho0) hb); have n1_ := Aside0.mk (Kd.R_elder' (uR HO_12.out) (Kd.R_base ho0) hb); have n2_ := Aside0.mk (Kd.R_elder' (uR HO_13.out) (Kd.R_base ho0) hb); have n3_ := Aside0.mk (Kd.R_elder' (uR HO_14.out) (Kd.R_base ho0) hb); have n4_ := Aside0.mk (Kd.R_lower (Kd.R_new' (Kd.R_new' (Kd.R_new' (Kd.R_new' ho0 (Kd.R_lt (uR HO_10.out))) (Kd.R_lt (uR HO_12.out))) (Kd.R_lt (uR HO_13.out))) (Kd.R_lt (uR HO_14.out))) (below_size (by repeat (first | (with_reducible first | exact HB.out | apply below_alloc | apply pw_below_drewN | apply below_drew1 | refine below_set ?_ GE381.out) | exact HB.out)))); have n5_ := Aside0.mk (blk_below (g := gb381) (o := .cells #[.int .i64 a0_0, .int .i64 a0_1, .string a0_2] 23 (0, 0)) (by (with_reducible repeat (first | refine blk_drewN ?_ _ | refine blk_drew ?_ | refine blk_alloc ?_ _)); exact BK381.out) hb); have n6_ := Aside0.mk (below_step (by repeat (first | (with_reducible first | exact HB.out | apply below_alloc | apply pw_below_drewN | apply below_drew1 | refine below_set ?_ GE381.out) | exact HB.out)) hb); clear HO_10; clear HO_12; clear HO_13; clear HO_14; clear BK381; clear HB; have HO_10 := n0_; have HO_12 := n1_; have HO_13 := n2_; have HO_14 := n3_; have HO412 := n4_; have BK381 := n5_; have HB := n6_; clear n0_ n1_ n2_ n3_ n4_ n5_ n6_; (try clear hb); (try clear hb2); (try clear hk); (try clear hi); (try clear ho0); obtain ⟨Ao57, co57, eo57⟩ := Kd.R_slice HO412.out; subst eo57) | ((with_reducible refine gate_callee (f := 10) rfl ?_); refine goesL_ (some 68) rfl rfl Try.func10 (by kernel_rfl) rfl #[.slice Ao37 t396.length co37, .slice Ao57 t410.length co57] rfl (by (try simp only [List.map_toArray, List.map_cons, List.map_nil]); first | done | rfl | (simp only [List.length_drop, List.length_take]; rfl)) ?_; (with_reducible refine (laws_eqIntS.calls kj21 _ _ t396 _ _ t410 true _ ?side1 ?side2 ?side3 ?side4 A48.out).mono ?_); (case side1 => exact uC (Kd.R_reads' HO_12.out).2.2); (case side2 => exact (Kd.R_reads' HO_12.out).2.1); (case side3 => exact uC (Kd.R_reads' HO412.out).2.2); (case side4 => exact (Kd.R_reads' HO412.out).2.1); rintro e w' ⟨rfl, ⟨nd, rfl⟩⟩; refine ⟨_, rfl, ?_⟩) | ((with_reducible refine gate_callee (f := 8) rfl ?_); refine goesL_ (some 72) rfl rfl Try.func8 (by kernel_rfl) rfl #[.slice A2 l2.length c2] rfl (by (try simp only [List.map_toArray, List.map_cons, List.map_nil]); first | done | rfl | (simp only [List.length_drop, List.length_take]; rfl)) ?_; (with_reducible refine (laws_toIntS.calls kj21 _ _ l2 t414 _ ?side1 ?side2 A50.out).mono ?_); (case side1 => repeat (first | exact (Kd.C_below HR2.out (by repeat (first | (with_reducible first | exact HB.out | apply below_alloc | apply pw_below_drewN | apply below_drew1 | refine below_set ?_ GE381.out) | exact HB.out))) | (with_reducible refine Kd.C_alloc ?_ _) | (with_reducible refine Kd.C_drewN ?_ _) | (with_reducible refine Kd.C_drew ?_))); (case side2 => exact HC2.out); rintro e w58 ⟨v415, rfl, ho0, hb⟩; refine ⟨_, rfl, ?_⟩; have n0_ := Aside0.mk (Kd.R_elder' (uR HO_10.out) (Kd.R_base ho0) hb); have n1_ := Aside0.mk (Kd.R_elder' (uR HO_12.out) (Kd.R_base ho0) hb); have n2_ := Aside0.mk (Kd.R_elder' (uR HO_13.out) (Kd.R_base ho0) hb); have n3_ := Aside0.mk (Kd.R_elder' (uR HO_14.out) (Kd.R_base ho0) hb); have n4_ := Aside0.mk (Kd.R_elder' (uR HO412.out) (Kd.R_base ho0) hb); have n5_ := Aside0.mk (Kd.R_lower (Kd.R_new' (Kd.R_new' (Kd.R_new' (Kd.R_new' (Kd.R_new' ho0 (Kd.R_lt (uR HO_10.out))) (Kd.R_lt (uR HO_12.out))) (Kd.R_lt (uR HO_13.out))) (Kd.R_lt (uR HO_14.out))) (Kd.R_lt (uR HO412.out))) (below_size (by repeat (first | (with_reducible first | exact HB.out | apply below_alloc | apply pw_below_drewN | apply below_drew1 | refine below_set ?_ GE381.out) | exact HB.out)))); have n6_ := Aside0.mk (blk_below (g := gb381) (o := .cells #[.int .i64 a0_0, .int .i64 a0_1, .string a0_2] 23 (0, 0)) (by (with_reducible repeat (first | refine blk_drewN ?_ _ | refine blk_drew ?_ | refine blk_alloc ?_ _)); exact BK381.out) hb); have n7_ := Aside0.mk (below_step (by repeat (first | (with_reducible first | exact HB.out | apply below_alloc | apply pw_below_drewN | apply below_drew1 | refine below_set ?_ GE381.out) | exact HB.out)) hb); clear HO_10; clear HO_12; clear HO_13; clear HO_14; clear HO412; clear BK381; clear HB; have HO_10 := n0_; have HO_12 := n1_; have HO_13 := n2_; have HO_14 := n3_; have HO412 := n4_; have HO416 := n5_; have BK381 := n6_; have HB := n7_; clear n0_ n1_ n2_ n3_ n4_ n5_ n6_ n7_; (try clear hb); (try clear hb2); (try clear hk); (try clear hi); (try clear ho0); obtain ⟨Ao59, co59, eo59⟩ := Kd.R_slice HO416.out; subst eo59) | ((with_reducible refine gate_callee (f := 10) rfl ?_); refine goesL_ (some 73) rfl rfl Try.func10 (by kernel_rfl) rfl #[.slice Ao38 t399.length co38, .slice Ao59 t414.length co59] rfl (by (try simp only [List.map_toArray, List.map_cons, List.map_nil]); first | done | rfl | (simp only [List.length_drop, List.length_take]; rfl)) ?_; (with_reducible refine (laws_eqIntS.calls kj21 _ _ t399 _ _ t414 true _ ?side1 ?side2 ?side3 ?side4 A51.out).mono ?_); (case side1 => exact uC (Kd.R_reads' HO_13.out).2.2); (case side2 => exact (Kd.R_reads' HO_13.out).2.1); (case side3 => exact uC (Kd.R_reads' HO416.out).2.2); (case side4 => exact (Kd.R_reads' HO416.out).2.1); rintro e w' ⟨rfl, ⟨nd, rfl⟩⟩; refine ⟨_, rfl, ?_⟩) | ((with_reducible refine gate_callee (f := 11) rfl ?_); refine goesL_ (some 77) rfl rfl Try.func11 (by kernel_rfl) rfl #[.slice Ao37 t396.length co37, .int .i64 1] rfl (by (try simp only [List.map_toArray, List.map_cons, List.map_nil]); first | done | rfl | (simp only [List.length_drop, List.length_take]; rfl)) ?_; (with_reducible refine (laws_markIntS.calls kj21 (fun k_ => some k_ = (.slice Ao37 t396.length co37 : Value).ownBlock) (.slice Ao37 t396.length co37) t396 1 t418 t419 w _ ?side1 ?side2 A53.out).mono ?_); (case side1 => repeat (first | (with_reducible first | exact HB.out | apply below_alloc | apply pw_below_drewN | apply below_drew1 | refine below_set ?_ GE381.out) | exact HB.out)); (case side2 => exact Kd.R_tight rfl HO_12.out); rintro e w60 ⟨rfl, hy0, hb, hkp⟩; refine ⟨_, rfl, ?_⟩; have n0_ := Aside0.mk (Kd.R_mono (ok' := fun k_ => some k_ ≠ (.slice Ao37 t396.length co37 : Value).ownBlock ∧ some k_ ≠ (.slice Ao38 t399.length co38 : Value).ownBlock ∧ some k_ ≠ (v406 : Value).ownBlock ∧ some k_ ≠ (.slice Ao57 t410.length co57 : Value).ownBlock ∧ some k_ ≠ (.slice Ao59 t414.length co59 : Value).ownBlock) (Kd.R_keptB (HO_10.out) hkp (fun k_ hk_ hs_ => (hk_.1.1.1) hs_)) (fun k_ hk_ => ⟨hk_.1.1.1.1, hk_.1.1.1.2.1, hk_.1.1.1.2.2, hk_.1.1.2, hk_.1.2⟩)); have n1_ := Aside0.mk (Kd.R_reok rfl hy0 (fun k_ e_ => HO_12.out.1 k_ e_)); have n2_ := Aside0.mk (Kd.R_mono (ok' := fun k_ => some k_ ≠ (v393 : Value).ownBlock ∧ some k_ ≠ (.slice Ao37 t396.length co37 : Value).ownBlock ∧ some k_ ≠ (v406 : Value).ownBlock ∧ some k_ ≠ (.slice Ao57 t410.length co57 : Value).ownBlock ∧ some k_ ≠ (.slice Ao59 t414.length co59 : Value).ownBlock) (Kd.R_keptB (HO_13.out) hkp (fun k_ hk_ hs_ => (hk_.1.1.2.1) hs_)) (fun k_ hk_ => ⟨hk_.1.1.1.1, hk_.1.1.1.2.1, hk_.1.1.1.2.2, hk_.1.1.2, hk_.1.2⟩)); have n3_ := Aside0.mk (Kd.R_mono (ok' := fun k_ => some k_ ≠ (v393 : Value).ownBlock ∧ some k_ ≠ (.slice Ao37 t396.length co37 : Value).ownBlock ∧ some k_ ≠ (.slice Ao38 t399.length co38 : Value).ownBlock ∧ some k_ ≠ (.slice Ao57 t410.length co57 : Value).ownBlock ∧ some k_ ≠ (.slice Ao59 t414.length co59 : Value).ownBlock) (Kd.R_keptB (HO_14.out) hkp (fun k_ hk_ hs_ => (hk_.1.1.2.1) hs_)) (fun k_ hk_ => ⟨hk_.1.1.1.1, hk_.1.1.1.2.1, hk_.1.1.1.2.2, hk_.1.1.2, hk_.1.2⟩)); have n4_ := Aside0.mk (blk_kept (by (with_reducible repeat (first | refine blk_drewN ?_ _ | refine blk_drew ?_ | refine blk_alloc ?_ _)); exact BK381.out) hkp (fun hs_ => (fun e_ => (Kd.R_ne HO_12.out BK381.out (by decide)) e_) hs_)); have n5_ := Aside0.mk (Kd.R_mono (ok' := fun k_ => some k_ ≠ (v393 : Value).ownBlock ∧ some k_ ≠ (.slice Ao37 t396.length co37 : Value).ownBlock ∧ some k_ ≠ (.slice Ao38 t399.length co38 : Value).ownBlock ∧ some k_ ≠ (v406 : Value).ownBlock ∧ some k_ ≠ (.slice Ao59 t414.length co59 : Value).ownBlock) (Kd.R_keptB (HO412.out) hkp (fun k_ hk_ hs_ => (hk_.1.1.1.2) hs_)) (fun k_ hk_ => ⟨hk_.1.1.1.1.1.2, hk_.1.1.1.1.2, hk_.1.1.1.2, hk_.1.1.2, hk_.1.2⟩)); have n6_ := Aside0.mk (Kd.R_mono (ok' := fun k_ => some k_ ≠ (v393 : Value).ownBlock ∧ some k_ ≠ (.slice Ao37 t396.length co37 : Value).ownBlock ∧ some k_ ≠ (.slice Ao38 t399.length co38 : Value).ownBlock ∧ some k_ ≠ (v406 : Value).ownBlock ∧ some k_ ≠ (.slice Ao57 t410.length co57 : Value).ownBlock) (Kd.R_keptB (HO416.out) hkp (fun k_ hk_ hs_ => (hk_.1.1.1.2) hs_)) (fun k_ hk_ => ⟨hk_.1.1.1.1.1.2, hk_.1.1.1.1.2, hk_.1.1.1.2, hk_.1.1.2, hk_.1.2⟩)); have n7_ := Aside0.mk (hb); clear HO_10; clear HO_12; clear HO_13; clear HO_14; clear BK381; clear HO412; clear HO416; clear HB; have HO_10 := n0_; have HO_12 := n1_; have HO_13 := n2_; have HO_14 := n3_; have BK381 := n4_; have HO412 := n5_; have HO416 := n6_; have HB := n7_; clear n0_ n1_ n2_ n3_ n4_ n5_ n6_ n7_; (try clear hb); (try clear hkp); (try clear hy0)) | ((with_reducible refine gate_callee (f := 11) rfl ?_); refine goesL_ (some 80) rfl rfl Try.func11 (by kernel_rfl) rfl #[.slice Ao38 t399.length co38, .int .i64 t418] rfl (by (try simp only [List.map_toArray, List.map_cons, List.map_nil]); first | done | rfl | (simp only [List.length_drop, List.length_take]; rfl)) ?_; (with_reducible refine (laws_markIntS.calls kj21 (fun k_ => some k_ = (.slice Ao38 t399.length co38 : Value).ownBlock) (.slice Ao38 t399.length co38) t399 t418 t420 t421 w _ ?side1 ?side2 A54.out).mono ?_); (case side1 => repeat (first | (with_reducible first | exact HB.out | apply below_alloc | apply pw_below_drewN | apply below_drew1 | refine below_set ?_ GE381.out) | exact HB.out)); (case side2 => exact Kd.R_tight rfl HO_13.out); rintro e w61 ⟨rfl, hy0, hb, hkp⟩; refine ⟨_, rfl, ?_⟩; have n0_ := Aside0.mk (Kd.R_mono (ok' := fun k_ => some k_ ≠ (.slice Ao37 t396.length co37 : Value).ownBlock ∧ some k_ ≠ (.slice Ao38 t399.length co38 : Value).ownBlock ∧ some k_ ≠ (v406 : Value).ownBlock ∧ some k_ ≠ (.slice Ao57 t410.length co57 : Value).ownBlock ∧ some k_ ≠ (.slice Ao59 t414.length co59 : Value).ownBlock) (Kd.R_keptB (HO_10.out) hkp (fun k_ hk_ hs_ => (hk_.2.1) hs_)) (fun k_ hk_ => ⟨hk_.1.1, hk_.1.2.1, hk_.1.2.2.1, hk_.1.2.2.2.1, hk_.1.2.2.2.2⟩)); have n1_ := Aside0.mk (Kd.R_mono (ok' := fun k_ => some k_ ≠ (v393 : Value).ownBlock ∧ some k_ ≠ (.slice Ao38 t399.length co38 : Value).ownBlock ∧ some k_ ≠ (v406 : Value).ownBlock ∧ some k_ ≠ (.slice Ao57 t410.length co57 : Value).ownBlock ∧ some k_ ≠ (.slice Ao59 t414.length co59 : Value).ownBlock) (Kd.R_keptB (HO_12.out) hkp (fun k_ hk_ hs_ => (hk_.1.1.2.1) hs_)) (fun k_ hk_ => ⟨hk_.1.1.1.1, hk_.1.1.1.2.1, hk_.1.1.1.2.2, hk_.1.1.2, hk_.1.2⟩)); have n2_ := Aside0.mk (Kd.R_reok rfl hy0 (fun k_ e_ => HO_13.out.1 k_ e_)); have n3_ := Aside0.mk (Kd.R_mono (ok' := fun k_ => some k_ ≠ (v393 : Value).ownBlock ∧ some k_ ≠ (.slice Ao37 t396.length co37 : Value).ownBlock ∧ some k_ ≠ (.slice Ao38 t399.length co38 : Value).ownBlock ∧ some k_ ≠ (.slice Ao57 t410.length co57 : Value).ownBlock ∧ some k_ ≠ (.slice Ao59 t414.length co59 : Value).ownBlock) (Kd.R_keptB (HO_14.out) hkp (fun k_ hk_ hs_ => (hk_.2.2.1) hs_)) (fun k_ hk_ => ⟨hk_.1.1, hk_.1.2.1, hk_.1.2.2.1, hk_.1.2.2.2.1, hk_.1.2.2.2.2⟩)); have n4_ := Aside0.mk (blk_kept (by (with_reducible repeat (first | refine blk_drewN ?_ _ | refine blk_drew ?_ | refine blk_alloc ?_ _)); exact BK381.out) hkp (fun hs_ => (fun e_ => (Kd.R_ne HO_13.out BK381.out (by decide)) e_) hs_)); have n5_ := Aside0.mk (Kd.R_mono (ok' := fun k_ => some k_ ≠ (v393 : Value).ownBlock ∧ some k_ ≠ (.slice Ao37 t396.length co37 : Value).ownBlock ∧ some k_ ≠ (.slice Ao38 t399.length co38 : Value).ownBlock ∧ some k_ ≠ (v406 : Value).ownBlock ∧ some k_ ≠ (.slice Ao59 t414.length co59 : Value).ownBlock) (Kd.R_keptB (HO412.out) hkp (fun k_ hk_ hs_ => (hk_.2.2.1) hs_)) (fun k_ hk_ => ⟨hk_.1.1, hk_.1.2.1, hk_.1.2.2.1, hk_.1.2.2.2.1, hk_.1.2.2.2.2⟩)); have n6_ := Aside0.mk (Kd.R_mono (ok' := fun k_ => some k_ ≠ (v393 : Value).ownBlock ∧ some k_ ≠ (.slice Ao37 t396.length co37 : Value).ownBlock ∧ some k_ ≠ (.slice Ao38 t399.length co38 : Value).ownBlock ∧ some k_ ≠ (v406 : Value).ownBlock ∧ some k_ ≠ (.slice Ao57 t410.length co57 : Value).ownBlock) (Kd.R_keptB (HO416.out) hkp (fun k_ hk_ hs_ => (hk_.2.2.1) hs_)) (fun k_ hk_ => ⟨hk_.1.1, hk_.1.2.1, hk_.1.2.2.1, hk_.1.2.2.2.1, hk_.1.2.2.2.2⟩)); have n7_ := Aside0.mk (hb); clear HO_10; clear HO_12; clear HO_13; clear HO_14; clear BK381; clear HO412; clear HO416; clear HB; have HO_10 := n0_; have HO_12 := n1_; have HO_13 := n2_; have HO_14 := n3_; have BK381 := n4_; have HO412 := n5_; have HO416 := n6_; have HB := n7_; clear n0_ n1_ n2_ n3_ n4_ n5_ n6_ n7_; (try clear hb); (try clear hkp); (try clear hy0)))
         (try simp only [Act.put, List.setIfInBounds_toArray, List.set_cons_zero, List.set_cons_succ])
         go_cut [93] (fun v93 wc => ∃ (kq : Nat) (x93_54 : Bool), v93 = .bool x93_54 ∧ Aside0 (laws_FnExactWantedOf.j1 kq l1 l2 a3 t392 t395 t405 x93_54 a0_0 a0_1 a0_2 = some r) ∧ Aside0 (kq ≤ kj21) ∧ Aside0 (Kd.R (Kd.int .i64) 3 wc w.heap.size (fun k_ => some k_ ≠ (v406 : Value).ownBlock) v393 t392) ∧ Aside0 (Kd.R (Kd.int .i64) 3 wc w.heap.size (fun k_ => some k_ ≠ (v393 : Value).ownBlock) v406 t405) ∧ Aside0 (wc.heap[gb381]? = some (.cells #[.int .i64 a0_0, .int .i64 a0_1, .string a0_2] 23 (0, 0))) ∧ Aside0 (Below w.heap.size w wc))
         case first =>
          have H := HC55.out
          clear HC55
          by_cases c62 : t420 < 0
          ·rw [if_pos c62] at H
           have c62b0 : decide (t420 < 0) = true := decide_eq_true c62
           clear c62
           (first | rw [c62b0] | (simp only [i64_w, i32_w]; rw [c62b0]) | skip)
           have H' := Aside0.mk H
           clear H
           go_wp2
           go_meet
           case rel => exact ⟨_, (true), (by first | rfl | (simp; done) | (simp [*]; done)), H', ⟨by have := HJ21.out; first | omega | exact Nat.le_refl _⟩, ⟨by (with_reducible repeat (first | apply Kd.R_alloc | apply Kd.R_drewN | apply Kd.R_drew)); exact Kd.R_mono HO_10.out (fun _ hk => hk.2.2.1)⟩, ⟨by (with_reducible repeat (first | apply Kd.R_alloc | apply Kd.R_drewN | apply Kd.R_drew)); exact Kd.R_mono HO_14.out (fun _ hk => hk.1)⟩, ⟨by (with_reducible repeat (first | refine blk_drewN ?_ _ | refine blk_drew ?_ | refine blk_alloc ?_ _)); exact BK381.out⟩, ⟨by repeat (first | (with_reducible first | exact HB.out | apply below_alloc | apply pw_below_drewN | apply below_drew1 | refine below_set ?_ GE381.out) | exact HB.out)⟩⟩
          ·rw [if_neg c62] at H
           have c62b0 : decide (t420 < 0) = false := decide_eq_false c62
           clear c62
           (first | rw [c62b0] | (simp only [i64_w, i32_w]; rw [c62b0]) | skip)
           replace H := Option.bind_eq_some_iff.mp H
           obtain ⟨t422, A630, H⟩ := H
           replace H : (if t422 = true then (laws_FnExactWantedOf.j1 kj21 l1 l2 a3 t392 t395 t405 (t408 != t395) a0_0 a0_1 a0_2) else (laws_FnExactWantedOf.j1 kj21 l1 l2 a3 t392 t395 t405 true a0_0 a0_1 a0_2)) = some r := H
           have A63 := Aside0.mk A630
           clear A630
           by_cases c64 : t422 = true
           ·subst c64
            have H1 : (laws_FnExactWantedOf.j1 kj21 l1 l2 a3 t392 t395 t405 (t408 != t395) a0_0 a0_1 a0_2) = some r := by rw [if_pos rfl] at H; exact H
            clear H
            have H := H1
            clear H1
            have H' := Aside0.mk H
            clear H
            obtain ⟨Ao65, co65, eo65⟩ := Kd.R_slice HO_14.out
            subst eo65
            obtain ⟨Ao66, co66, eo66⟩ := Kd.R_slice HO_10.out
            subst eo66
            go_wp2_with (first | (go_at_call 10; (with_reducible refine (laws_eqIntS.calls kj21 _ _ t405 _ _ t392 true _ ?side1 ?side2 ?side3 ?side4 A63.out).mono ?_); (case side1 => exact uC (Kd.R_reads' HO_14.out).2.2); (case side2 => exact (Kd.R_reads' HO_14.out).2.1); (case side3 => exact uC (Kd.R_reads' HO_10.out).2.2); (case side4 => exact (Kd.R_reads' HO_10.out).2.1); rintro e w' ⟨rfl, ⟨nd, rfl⟩⟩))
            go_meet
            case rel => exact ⟨_, ((t408 != t395)), (by first | rfl | (simp; done) | (simp [*]; done)), H', ⟨by have := HJ21.out; first | omega | exact Nat.le_refl _⟩, ⟨by (with_reducible repeat (first | apply Kd.R_alloc | apply Kd.R_drewN | apply Kd.R_drew)); exact Kd.R_mono HO_10.out (fun _ hk => hk.2.2.1)⟩, ⟨by (with_reducible repeat (first | apply Kd.R_alloc | apply Kd.R_drewN | apply Kd.R_drew)); exact Kd.R_mono HO_14.out (fun _ hk => hk.1)⟩, ⟨by (with_reducible repeat (first | refine blk_drewN ?_ _ | refine blk_drew ?_ | refine blk_alloc ?_ _)); exact BK381.out⟩, ⟨by repeat (first | (with_reducible first | exact HB.out | apply below_alloc | apply pw_below_drewN | apply below_drew1 | refine below_set ?_ GE381.out) | exact HB.out)⟩⟩
           ·replace c64 := Bool.eq_false_iff.mpr c64
            subst c64
            have H1 : (laws_FnExactWantedOf.j1 kj21 l1 l2 a3 t392 t395 t405 true a0_0 a0_1 a0_2) = some r := by rw [if_neg (show ¬ (false = true) by decide)] at H; exact H
            clear H
            have H := H1
            clear H1
            have H' := Aside0.mk H
            clear H
            obtain ⟨Ao67, co67, eo67⟩ := Kd.R_slice HO_14.out
            subst eo67
            obtain ⟨Ao68, co68, eo68⟩ := Kd.R_slice HO_10.out
            subst eo68
            go_wp2_with (first | (go_at_call 10; (with_reducible refine (laws_eqIntS.calls kj21 _ _ t405 _ _ t392 false _ ?side1 ?side2 ?side3 ?side4 A63.out).mono ?_); (case side1 => exact uC (Kd.R_reads' HO_14.out).2.2); (case side2 => exact (Kd.R_reads' HO_14.out).2.1); (case side3 => exact uC (Kd.R_reads' HO_10.out).2.2); (case side4 => exact (Kd.R_reads' HO_10.out).2.1); rintro e w' ⟨rfl, ⟨nd, rfl⟩⟩))
            go_meet
            case rel => exact ⟨_, (true), (by first | rfl | (simp; done) | (simp [*]; done)), H', ⟨by have := HJ21.out; first | omega | exact Nat.le_refl _⟩, ⟨by (with_reducible repeat (first | apply Kd.R_alloc | apply Kd.R_drewN | apply Kd.R_drew)); exact Kd.R_mono HO_10.out (fun _ hk => hk.2.2.1)⟩, ⟨by (with_reducible repeat (first | apply Kd.R_alloc | apply Kd.R_drewN | apply Kd.R_drew)); exact Kd.R_mono HO_14.out (fun _ hk => hk.1)⟩, ⟨by (with_reducible repeat (first | refine blk_drewN ?_ _ | refine blk_drew ?_ | refine blk_alloc ?_ _)); exact BK381.out⟩, ⟨by repeat (first | (with_reducible first | exact HB.out | apply below_alloc | apply pw_below_drewN | apply below_drew1 | refine below_set ?_ GE381.out) | exact HB.out)⟩⟩
         case rest =>
          clear HC55
          try clear c1
          try clear c2
          try clear p2
          try clear c3
          try clear c4
          try clear c5
          try clear c5b0
          try clear c5b1
          try clear c6
          try clear c7
          try clear c7b0
          try clear c7b1
          try clear c8
          try clear c9
          try clear c10
          try clear c10b0
          try clear c11
          try clear c41
          try clear c46
          try clear c49
          try clear c52
          try clear c62
          try clear c62b0
          try clear c64
          try clear hcz12_0
          try clear hcz12_1
          try clear hcz12_2
          try clear hcz24_0
          try clear hcz24_1
          try clear hcz24_2
          try clear hcz26_0
          try clear hcz26_1
          try clear hcz26_2
          try clear hcz35_0
          try clear hcz35_1
          try clear hcz35_2
          try clear hfz12_0
          try clear hfz12_1
          try clear hfz12_2
          try clear hfz24_0
          try clear hfz24_1
          try clear hfz24_2
          try clear hfz26_0
          try clear hfz26_1
          try clear hfz26_2
          try clear hfz35_0
          try clear hfz35_1
          try clear hfz35_2
          try clear p2
          obtain ⟨kq, x93_54, rfl, HA, HJ54, HO_10, HO_14, BK381, HB⟩ := hcut
          cases kq with
          | zero => exact absurd HA.out (by simp [laws_FnExactWantedOf.j1])
          | succ kj54 =>
           have H := HA.out
           clear HA
           simp only [laws_FnExactWantedOf.j1] at H
           by_cases c69 : x93_54 = true
           ·subst c69
            have H1 : (some false) = some r := by rw [if_pos rfl] at H; exact H
            clear H
            have H := H1
            clear H1
            exact absurd hr_ (by rw [← Option.some.inj H]; decide)
           ·replace c69 := Bool.eq_false_iff.mpr c69
            subst c69
            have H1 : ((laws_markIntS.f kj54 t405 1).bind fun bt423 => ((laws_heldIntS.f kj54 bt423.2 1).bind fun t425 => (if t425 < 0 then (some false) else (if t425 = bt423.1 then ((laws_toGrid.f a0_0 a0_1 a0_2).bind fun bt426 => ((laws_toIntS.f kj54 l1).bind fun t429 => ((laws_toIntS.f kj54 l2).bind fun t432 => ((impl_WantedOf.f kj54 bt426.1 bt426.2.1 bt426.2.2 t429 t432 a3).bind fun bt435 => ((laws_eqIntS.f kj54 bt435.1 t392).bind fun t439 => (if t439 = true then (laws_FnExactWantedOf.j2 kj54 bt423.2 bt423.1 (bt435.2 != t395)) else (laws_FnExactWantedOf.j2 kj54 bt423.2 bt423.1 true))))))) else (some false))))) = some r := by rw [if_neg (show ¬ (false = true) by decide)] at H; exact H
            clear H
            have H := H1
            clear H1
            replace H := Option.bind_eq_some_iff.mp H
            obtain ⟨⟨t423, t424⟩, A700, H⟩ := H
            replace H : ((laws_heldIntS.f kj54 t424 1).bind fun t425 => (if t425 < 0 then (some false) else (if t425 = t423 then ((laws_toGrid.f a0_0 a0_1 a0_2).bind fun bt426 => ((laws_toIntS.f kj54 l1).bind fun t429 => ((laws_toIntS.f kj54 l2).bind fun t432 => ((impl_WantedOf.f kj54 bt426.1 bt426.2.1 bt426.2.2 t429 t432 a3).bind fun bt435 => ((laws_eqIntS.f kj54 bt435.1 t392).bind fun t439 => (if t439 = true then (laws_FnExactWantedOf.j2 kj54 t424 t423 (bt435.2 != t395)) else (laws_FnExactWantedOf.j2 kj54 t424 t423 true))))))) else (some false)))) = some r := H
            have A70 := Aside0.mk A700
            clear A700
            replace H := Option.bind_eq_some_iff.mp H
            obtain ⟨t425, A710, H⟩ := H
            replace H : (if t425 < 0 then (some false) else (if t425 = t423 then ((laws_toGrid.f a0_0 a0_1 a0_2).bind fun bt426 => ((laws_toIntS.f kj54 l1).bind fun t429 => ((laws_toIntS.f kj54 l2).bind fun t432 => ((impl_WantedOf.f kj54 bt426.1 bt426.2.1 bt426.2.2 t429 t432 a3).bind fun bt435 => ((laws_eqIntS.f kj54 bt435.1 t392).bind fun t439 => (if t439 = true then (laws_FnExactWantedOf.j2 kj54 t424 t423 (bt435.2 != t395)) else (laws_FnExactWantedOf.j2 kj54 t424 t423 true))))))) else (some false))) = some r := H
            have A71 := Aside0.mk A710
            clear A710
            by_cases c72 : t425 < 0
            ·rw [if_pos c72] at H
             have c72b0 : decide (t425 < 0) = true := decide_eq_true c72
             clear c72
             exact absurd hr_ (by rw [← Option.some.inj H]; decide)
            ·rw [if_neg c72] at H
             have c72b0 : decide (t425 < 0) = false := decide_eq_false c72
             clear c72
             by_cases c73 : t425 = t423
             ·rw [if_pos c73] at H
              have c73b0 : (t425 == t423) = true := beq_iff_eq.mpr c73
              have c73b1 : (t425 != t423) = false := bne_eq_false_iff_eq.mpr c73
              clear c73
              replace H := Option.bind_eq_some_iff.mp H
              obtain ⟨⟨t426, t427, t428⟩, A740, H⟩ := H
              replace H : ((laws_toIntS.f kj54 l1).bind fun t429 => ((laws_toIntS.f kj54 l2).bind fun t432 => ((impl_WantedOf.f kj54 t426 t427 t428 t429 t432 a3).bind fun bt435 => ((laws_eqIntS.f kj54 bt435.1 t392).bind fun t439 => (if t439 = true then (laws_FnExactWantedOf.j2 kj54 t424 t423 (bt435.2 != t395)) else (laws_FnExactWantedOf.j2 kj54 t424 t423 true)))))) = some r := H
              have A74 := Aside0.mk A740
              clear A740
              replace H := Option.bind_eq_some_iff.mp H
              obtain ⟨t429, A750, H⟩ := H
              replace H : ((laws_toIntS.f kj54 l2).bind fun t432 => ((impl_WantedOf.f kj54 t426 t427 t428 t429 t432 a3).bind fun bt435 => ((laws_eqIntS.f kj54 bt435.1 t392).bind fun t439 => (if t439 = true then (laws_FnExactWantedOf.j2 kj54 t424 t423 (bt435.2 != t395)) else (laws_FnExactWantedOf.j2 kj54 t424 t423 true))))) = some r := H
              have A75 := Aside0.mk A750
              clear A750
              replace H := Option.bind_eq_some_iff.mp H
              obtain ⟨t432, A760, H⟩ := H
              replace H : ((impl_WantedOf.f kj54 t426 t427 t428 t429 t432 a3).bind fun bt435 => ((laws_eqIntS.f kj54 bt435.1 t392).bind fun t439 => (if t439 = true then (laws_FnExactWantedOf.j2 kj54 t424 t423 (bt435.2 != t395)) else (laws_FnExactWantedOf.j2 kj54 t424 t423 true)))) = some r := H
              have A76 := Aside0.mk A760
              clear A760
              replace H := Option.bind_eq_some_iff.mp H
              obtain ⟨⟨t435, t438⟩, A770, H⟩ := H
              replace H : ((laws_eqIntS.f kj54 t435 t392).bind fun t439 => (if t439 = true then (laws_FnExactWantedOf.j2 kj54 t424 t423 (t438 != t395)) else (laws_FnExactWantedOf.j2 kj54 t424 t423 true))) = some r := H
              have A77 := Aside0.mk A770
              clear A770
              have HC78 := Aside0.mk H
              clear H
              obtain ⟨Ao79, co79, eo79⟩ := Kd.R_slice HO_14.out
              subst eo79
              go_upto_region 33 with (first | ((with_reducible refine gate_callee (f := 11) rfl ?_); refine goesL_ (some 96) rfl rfl Try.func11 (by kernel_rfl) rfl #[.slice Ao79 t405.length co79, .int .i64 1] rfl (by (try simp only [List.map_toArray, List.map_cons, List.map_nil]); first | done | rfl | (simp only [List.length_drop, List.length_take]; rfl)) ?_; (with_reducible refine (laws_markIntS.calls kj54 (fun k_ => some k_ = (.slice Ao79 t405.length co79 : Value).ownBlock) (.slice Ao79 t405.length co79) t405 1 t423 t424 w _ ?side1 ?side2 A70.out).mono ?_); (case side1 => repeat (first | (with_reducible first | exact HB.out | apply below_alloc | apply pw_below_drewN | apply below_drew1 | refine below_set ?_ GE381.out) | exact HB.out)); (case side2 => exact Kd.R_tight rfl HO_14.out); rintro e w80 ⟨rfl, hy0, hb, hkp⟩; refine ⟨_, rfl, ?_⟩; have n0_ := Aside0.mk (Kd.R_mono (ok' := fun k_ => some k_ ≠ (.slice Ao79 t405.length co79 : Value).ownBlock) (Kd.R_keptB (HO_10.out) hkp (fun k_ hk_ hs_ => (hk_) hs_)) (fun k_ hk_ => hk_.1)); have n1_ := Aside0.mk (Kd.R_reok rfl hy0 (fun k_ e_ => HO_14.out.1 k_ e_)); have n2_ := Aside0.mk (blk_kept (by (with_reducible repeat (first | refine blk_drewN ?_ _ | refine blk_drew ?_ | refine blk_alloc ?_ _)); exact BK381.out) hkp (fun hs_ => (fun e_ => (Kd.R_ne HO_14.out BK381.out (by decide)) e_) hs_)); have n3_ := Aside0.mk (hb); clear HO_10; clear HO_14; clear BK381; clear HB; have HO_10 := n0_; have HO_14 := n1_; have BK381 := n2_; have HB := n3_; clear n0_ n1_ n2_ n3_; (try clear hb); (try clear hkp); (try clear hy0)) | ((with_reducible refine gate_callee (f := 12) rfl ?_); refine goesL_ (some 99) rfl rfl Try.func12 (by kernel_rfl) rfl #[.slice Ao79 t424.length co79, .int .i64 1] rfl (by (try simp only [List.map_toArray, List.map_cons, List.map_nil]); first | done | (rw [show t424.length = t405.length from (Kd.R_reads' HO_14.out).1.symm] <;> rfl) | rfl | (simp only [List.length_drop, List.length_take]; rfl)) ?_; (with_reducible refine (laws_heldIntS.calls kj54 _ _ t424 1 t425 _ ?side1 ?side2 A71.out).mono ?_); (case side1 => exact uC (Kd.R_reads' HO_14.out).2.2); (case side2 => rw [show t424.length = t405.length from (Kd.R_reads' HO_14.out).1.symm]; exact (Kd.R_reads' HO_14.out).2.1); rintro e w' ⟨rfl, ⟨nd, rfl⟩⟩; refine ⟨_, rfl, ?_⟩; have hcz81_0 : w80.cell? ⟨gb381, 0, none⟩ = some (.int .i64 a0_0) := (blk_cell BK381.out 0).trans rfl; have hcz81_1 : w80.cell? ⟨gb381, 1, none⟩ = some (.int .i64 a0_1) := (blk_cell BK381.out 1).trans rfl; have hcz81_2 : w80.cell? ⟨gb381, 2, none⟩ = some (.string a0_2) := (blk_cell BK381.out 2).trans rfl; have hfz81_0 := blk_frozen BK381.out 0; have hfz81_1 := blk_frozen BK381.out 1; have hfz81_2 := blk_frozen BK381.out 2) | ((with_reducible refine gate_callee (f := 7) rfl ?_); refine goesL_ (some 107) rfl rfl Try.func7 (by kernel_rfl) rfl #[.agg #[.int .i64 a0_0, .int .i64 a0_1, .string a0_2]] rfl (by (try simp only [List.map_toArray, List.map_cons, List.map_nil]); first | done | rfl | (simp only [List.length_drop, List.length_take]; rfl)) ?_; (with_reducible refine (laws_toGrid.calls a0_0 a0_1 a0_2 t426 t427 t428 _ A74.out).mono ?_); rintro e w82 ⟨rfl, hb⟩; refine ⟨_, rfl, ?_⟩; have n0_ := Aside0.mk (Kd.R_below (uR HO_10.out) hb); have n1_ := Aside0.mk (Kd.R_below (uR HO_14.out) hb); have n2_ := Aside0.mk (blk_below (g := gb381) (o := .cells #[.int .i64 a0_0, .int .i64 a0_1, .string a0_2] 23 (0, 0)) (by (with_reducible repeat (first | refine blk_drewN ?_ _ | refine blk_drew ?_ | refine blk_alloc ?_ _)); exact BK381.out) hb); have n3_ := Aside0.mk (below_step (by repeat (first | (with_reducible first | exact HB.out | apply below_alloc | apply pw_below_drewN | apply below_drew1 | refine below_set ?_ GE381.out) | exact HB.out)) hb); clear HO_10; clear HO_14; clear BK381; clear HB; have HO_10 := n0_; have HO_14 := n1_; have BK381 := n2_; have HB := n3_; clear n0_ n1_ n2_ n3_; (try clear hb); (try clear hb2); (try clear hk); (try clear hi)) | ((with_reducible refine gate_callee (f := 8) rfl ?_); refine goesL_ (some 109) rfl rfl Try.func8 (by kernel_rfl) rfl #[.slice A1 l1.length c1] rfl (by (try simp only [List.map_toArray, List.map_cons, List.map_nil]); first | done | rfl | (simp only [List.length_drop, List.length_take]; rfl)) ?_; (with_reducible refine (laws_toIntS.calls kj54 _ _ l1 t429 _ ?side1 ?side2 A75.out).mono ?_); (case side1 => repeat (first | exact (Kd.C_below HR1.out HB.out) | (with_reducible refine Kd.C_alloc ?_ _) | (with_reducible refine Kd.C_drewN ?_ _) | (with_reducible refine Kd.C_drew ?_))); (case side2 => exact HC1.out); rintro e w83 ⟨v430, rfl, ho0, hb⟩; refine ⟨_, rfl, ?_⟩; have n0_ := Aside0.mk (Kd.R_elder' (uR HO_10.out) (Kd.R_base ho0) hb); have n1_ := Aside0.mk (Kd.R_elder' (uR HO_14.out) (Kd.R_base ho0) hb); have n2_ := Aside0.mk (Kd.R_lower (Kd.R_new' (Kd.R_new' ho0 (Kd.R_lt (uR HO_10.out))) (Kd.R_lt (uR HO_14.out))) (below_size (by repeat (first | (with_reducible first | exact HB.out | apply below_alloc | apply pw_below_drewN | apply below_drew1 | refine below_set ?_ GE381.out) | exact HB.out)))); have n3_ := Aside0.mk (blk_below (g := gb381) (o := .cells #[.int .i64 a0_0, .int .i64 a0_1, .string a0_2] 23 (0, 0)) (by (with_reducible repeat (first | refine blk_drewN ?_ _ | refine blk_drew ?_ | refine blk_alloc ?_ _)); exact BK381.out) hb); have n4_ := Aside0.mk (below_step (by repeat (first | (with_reducible first | exact HB.out | apply below_alloc | apply pw_below_drewN | apply below_drew1 | refine below_set ?_ GE381.out) | exact HB.out)) hb); clear HO_10; clear HO_14; clear BK381; clear HB; have HO_10 := n0_; have HO_14 := n1_; have HO431 := n2_; have BK381 := n3_; have HB := n4_; clear n0_ n1_ n2_ n3_ n4_; (try clear hb); (try clear hb2); (try clear hk); (try clear hi); (try clear ho0)) | ((with_reducible refine gate_callee (f := 8) rfl ?_); refine goesL_ (some 111) rfl rfl Try.func8 (by kernel_rfl) rfl #[.slice A2 l2.length c2] rfl (by (try simp only [List.map_toArray, List.map_cons, List.map_nil]); first | done | rfl | (simp only [List.length_drop, List.length_take]; rfl)) ?_; (with_reducible refine (laws_toIntS.calls kj54 _ _ l2 t432 _ ?side1 ?side2 A76.out).mono ?_); (case side1 => repeat (first | exact (Kd.C_below HR2.out HB.out) | (with_reducible refine Kd.C_alloc ?_ _) | (with_reducible refine Kd.C_drewN ?_ _) | (with_reducible refine Kd.C_drew ?_))); (case side2 => exact HC2.out); rintro e w84 ⟨v433, rfl, ho0, hb⟩; refine ⟨_, rfl, ?_⟩; have n0_ := Aside0.mk (Kd.R_elder' (uR HO_10.out) (Kd.R_base ho0) hb); have n1_ := Aside0.mk (Kd.R_elder' (uR HO_14.out) (Kd.R_base ho0) hb); have n2_ := Aside0.mk (Kd.R_elder' (uR HO431.out) (Kd.R_base ho0) hb); have n3_ := Aside0.mk (Kd.R_lower (Kd.R_new' (Kd.R_new' (Kd.R_new' ho0 (Kd.R_lt (uR HO_10.out))) (Kd.R_lt (uR HO_14.out))) (Kd.R_lt (uR HO431.out))) (below_size (by repeat (first | (with_reducible first | exact HB.out | apply below_alloc | apply pw_below_drewN | apply below_drew1 | refine below_set ?_ GE381.out) | exact HB.out)))); have n4_ := Aside0.mk (blk_below (g := gb381) (o := .cells #[.int .i64 a0_0, .int .i64 a0_1, .string a0_2] 23 (0, 0)) (by (with_reducible repeat (first | refine blk_drewN ?_ _ | refine blk_drew ?_ | refine blk_alloc ?_ _)); exact BK381.out) hb); have n5_ := Aside0.mk (below_step (by repeat (first | (with_reducible first | exact HB.out | apply below_alloc | apply pw_below_drewN | apply below_drew1 | refine below_set ?_ GE381.out) | exact HB.out)) hb); clear HO_10; clear HO_14; clear HO431; clear BK381; clear HB; have HO_10 := n0_; have HO_14 := n1_; have HO431 := n2_; have HO434 := n3_; have BK381 := n4_; have HB := n5_; clear n0_ n1_ n2_ n3_ n4_ n5_; (try clear hb); (try clear hb2); (try clear hk); (try clear hi); (try clear ho0); obtain ⟨Ao85, co85, eo85⟩ := Kd.R_slice HO431.out; subst eo85; obtain ⟨Ao86, co86, eo86⟩ := Kd.R_slice HO434.out; subst eo86) | ((with_reducible refine gate_callee (f := 9) rfl ?_); refine goesL_ (some 113) rfl rfl Try.func9 (by kernel_rfl) rfl #[.agg #[.int .i64 t426, .int .i64 t427, .string t428], .slice Ao85 t429.length co85, .slice Ao86 t432.length co86, .int .i64 a3] rfl (by (try simp only [List.map_toArray, List.map_cons, List.map_nil]); first | done | rfl | (simp only [List.length_drop, List.length_take]; rfl)) ?_; (with_reducible refine (impl_WantedOf.calls kj54 t426 t427 t428 _ _ t429 _ _ t432 a3 t435 t438 _ ?side1 ?side2 ?side3 ?side4 A77.out).mono ?_); (case side1 => exact uC (Kd.R_reads' HO431.out).2.2); (case side2 => exact (Kd.R_reads' HO431.out).2.1); (case side3 => exact uC (Kd.R_reads' HO434.out).2.2); (case side4 => exact (Kd.R_reads' HO434.out).2.1); rintro e w87 ⟨v436, rfl, ho0, hb⟩; refine ⟨_, rfl, ?_⟩; have n0_ := Aside0.mk (Kd.R_elder' (uR HO_10.out) (Kd.R_base ho0) hb); have n1_ := Aside0.mk (Kd.R_elder' (uR HO_14.out) (Kd.R_base ho0) hb); have n2_ := Aside0.mk (Kd.R_elder' (uR HO431.out) (Kd.R_base ho0) hb); have n3_ := Aside0.mk (Kd.R_elder' (uR HO434.out) (Kd.R_base ho0) hb); have n4_ := Aside0.mk (Kd.R_lower (Kd.R_new' (Kd.R_new' (Kd.R_new' (Kd.R_new' ho0 (Kd.R_lt (uR HO_10.out))) (Kd.R_lt (uR HO_14.out))) (Kd.R_lt (uR HO431.out))) (Kd.R_lt (uR HO434.out))) (below_size (by repeat (first | (with_reducible first | exact HB.out | apply below_alloc | apply pw_below_drewN | apply below_drew1 | refine below_set ?_ GE381.out) | exact HB.out)))); have n5_ := Aside0.mk (blk_below (g := gb381) (o := .cells #[.int .i64 a0_0, .int .i64 a0_1, .string a0_2] 23 (0, 0)) (by (with_reducible repeat (first | refine blk_drewN ?_ _ | refine blk_drew ?_ | refine blk_alloc ?_ _)); exact BK381.out) hb); have n6_ := Aside0.mk (below_step (by repeat (first | (with_reducible first | exact HB.out | apply below_alloc | apply pw_below_drewN | apply below_drew1 | refine below_set ?_ GE381.out) | exact HB.out)) hb); clear HO_10; clear HO_14; clear HO431; clear HO434; clear BK381; clear HB; have HO_10 := n0_; have HO_14 := n1_; have HO431 := n2_; have HO434 := n3_; have HO437 := n4_; have BK381 := n5_; have HB := n6_; clear n0_ n1_ n2_ n3_ n4_ n5_ n6_; (try clear hb); (try clear hb2); (try clear hk); (try clear hi); (try clear ho0)))
              (try simp only [Act.put, List.setIfInBounds_toArray, List.set_cons_zero, List.set_cons_succ])
              go_cut [124] (fun v124 wc => ∃ (kq : Nat) (x124_77 : Bool), v124 = .bool x124_77 ∧ Aside0 (laws_FnExactWantedOf.j2 kq t424 t423 x124_77 = some r) ∧ Aside0 (kq ≤ kj54) ∧ Aside0 (Kd.R (Kd.int .i64) 3 wc w.heap.size (fun _ => True) (.slice Ao79 t405.length co79) t424) ∧ Aside0 (wc.heap[gb381]? = some (.cells #[.int .i64 a0_0, .int .i64 a0_1, .string a0_2] 23 (0, 0))) ∧ Aside0 (Below w.heap.size w wc))
              case first =>
               have H := HC78.out
               clear HC78
               replace H := Option.bind_eq_some_iff.mp H
               obtain ⟨t439, A880, H⟩ := H
               replace H : (if t439 = true then (laws_FnExactWantedOf.j2 kj54 t424 t423 (t438 != t395)) else (laws_FnExactWantedOf.j2 kj54 t424 t423 true)) = some r := H
               have A88 := Aside0.mk A880
               clear A880
               by_cases c89 : t439 = true
               ·subst c89
                have H1 : (laws_FnExactWantedOf.j2 kj54 t424 t423 (t438 != t395)) = some r := by rw [if_pos rfl] at H; exact H
                clear H
                have H := H1
                clear H1
                have H' := Aside0.mk H
                clear H
                obtain ⟨Ao90, co90, eo90⟩ := Kd.R_slice HO437.out
                subst eo90
                obtain ⟨Ao91, co91, eo91⟩ := Kd.R_slice HO_10.out
                subst eo91
                go_wp2_with (first | ((with_reducible refine gate_callee (f := 10) rfl ?_); refine goesL_ (some 118) rfl rfl Try.func10 (by kernel_rfl) rfl #[.slice Ao90 t435.length co90, .slice Ao91 t392.length co91] rfl (by (try simp only [List.map_toArray, List.map_cons, List.map_nil]); first | done | rfl | (simp only [List.length_drop, List.length_take]; rfl)) ?_; (with_reducible refine (laws_eqIntS.calls kj54 _ _ t435 _ _ t392 true _ ?side1 ?side2 ?side3 ?side4 A88.out).mono ?_); (case side1 => exact uC (Kd.R_reads' HO437.out).2.2); (case side2 => exact (Kd.R_reads' HO437.out).2.1); (case side3 => exact uC (Kd.R_reads' HO_10.out).2.2); (case side4 => exact (Kd.R_reads' HO_10.out).2.1); rintro e w' ⟨rfl, ⟨nd, rfl⟩⟩; refine ⟨_, rfl, ?_⟩))
                go_meet
                case rel => exact ⟨_, ((t438 != t395)), (by first | rfl | (simp; done) | (simp [*]; done)), H', ⟨by have := HJ21.out; have := HJ54.out; first | omega | exact Nat.le_refl _⟩, ⟨by (with_reducible repeat (first | apply Kd.R_alloc | apply Kd.R_drewN | apply Kd.R_drew)); exact Kd.R_mono HO_14.out (fun _ hk => trivial)⟩, ⟨by (with_reducible repeat (first | refine blk_drewN ?_ _ | refine blk_drew ?_ | refine blk_alloc ?_ _)); exact BK381.out⟩, ⟨by repeat (first | (with_reducible first | exact HB.out | apply below_alloc | apply pw_below_drewN | apply below_drew1 | refine below_set ?_ GE381.out) | exact HB.out)⟩⟩
               ·replace c89 := Bool.eq_false_iff.mpr c89
                subst c89
                have H1 : (laws_FnExactWantedOf.j2 kj54 t424 t423 true) = some r := by rw [if_neg (show ¬ (false = true) by decide)] at H; exact H
                clear H
                have H := H1
                clear H1
                have H' := Aside0.mk H
                clear H
                obtain ⟨Ao92, co92, eo92⟩ := Kd.R_slice HO437.out
                subst eo92
                obtain ⟨Ao93, co93, eo93⟩ := Kd.R_slice HO_10.out
                subst eo93
                go_wp2_with (first | ((with_reducible refine gate_callee (f := 10) rfl ?_); refine goesL_ (some 118) rfl rfl Try.func10 (by kernel_rfl) rfl #[.slice Ao92 t435.length co92, .slice Ao93 t392.length co93] rfl (by (try simp only [List.map_toArray, List.map_cons, List.map_nil]); first | done | rfl | (simp only [List.length_drop, List.length_take]; rfl)) ?_; (with_reducible refine (laws_eqIntS.calls kj54 _ _ t435 _ _ t392 false _ ?side1 ?side2 ?side3 ?side4 A88.out).mono ?_); (case side1 => exact uC (Kd.R_reads' HO437.out).2.2); (case side2 => exact (Kd.R_reads' HO437.out).2.1); (case side3 => exact uC (Kd.R_reads' HO_10.out).2.2); (case side4 => exact (Kd.R_reads' HO_10.out).2.1); rintro e w' ⟨rfl, ⟨nd, rfl⟩⟩; refine ⟨_, rfl, ?_⟩))
                go_meet
                case rel => exact ⟨_, (true), (by first | rfl | (simp; done) | (simp [*]; done)), H', ⟨by have := HJ21.out; have := HJ54.out; first | omega | exact Nat.le_refl _⟩, ⟨by (with_reducible repeat (first | apply Kd.R_alloc | apply Kd.R_drewN | apply Kd.R_drew)); exact Kd.R_mono HO_14.out (fun _ hk => trivial)⟩, ⟨by (with_reducible repeat (first | refine blk_drewN ?_ _ | refine blk_drew ?_ | refine blk_alloc ?_ _)); exact BK381.out⟩, ⟨by repeat (first | (with_reducible first | exact HB.out | apply below_alloc | apply pw_below_drewN | apply below_drew1 | refine below_set ?_ GE381.out) | exact HB.out)⟩⟩
              case rest =>
               clear HC78
               try clear c1
               try clear c2
               try clear p2
               try clear c3
               try clear c4
               try clear c5
               try clear c5b0
               try clear c5b1
               try clear c6
               try clear c7
               try clear c7b0
               try clear c7b1
               try clear c8
               try clear c9
               try clear c10
               try clear c10b0
               try clear c11
               try clear c12
               try clear c41
               try clear c46
               try clear c49
               try clear c52
               try clear c62
               try clear c62b0
               try clear c64
               try clear c69
               try clear c72
               try clear c72b0
               try clear c73
               try clear c73b0
               try clear c73b1
               try clear c89
               try clear hcz12_0
               try clear hcz12_1
               try clear hcz12_2
               try clear hcz24_0
               try clear hcz24_1
               try clear hcz24_2
               try clear hcz26_0
               try clear hcz26_1
               try clear hcz26_2
               try clear hcz35_0
               try clear hcz35_1
               try clear hcz35_2
               try clear hcz81_0
               try clear hcz81_1
               try clear hcz81_2
               try clear hfz12_0
               try clear hfz12_1
               try clear hfz12_2
               try clear hfz24_0
               try clear hfz24_1
               try clear hfz24_2
               try clear hfz26_0
               try clear hfz26_1
               try clear hfz26_2
               try clear hfz35_0
               try clear hfz35_1
               try clear hfz35_2
               try clear hfz81_0
               try clear hfz81_1
               try clear hfz81_2
               try clear p2
               obtain ⟨kq, x124_77, rfl, HA, HJ77, HO_14, BK381, HB⟩ := hcut
               have hl14_77 := (Kd.R_reads' HO_14.out).1
               rw [hl14_77] at HO_14
               (try simp only [hl14_77])
               (try simp only [hl14_77] at BK381)
               cases kq with
               | zero => exact absurd HA.out (by simp [laws_FnExactWantedOf.j2])
               | succ kj77 =>
                have H := HA.out
                clear HA
                simp only [laws_FnExactWantedOf.j2] at H
                by_cases c94 : x124_77 = true
                ·subst c94
                 have H1 : (some false) = some r := by rw [if_pos rfl] at H; exact H
                 clear H
                 have H := H1
                 clear H1
                 exact absurd hr_ (by rw [← Option.some.inj H]; decide)
                ·replace c94 := Bool.eq_false_iff.mpr c94
                 subst c94
                 have H1 : ((laws_heldIntS.f kj77 t424 1).bind fun t440 => (if t440 < 0 then (some false) else (if t440 = t423 then (some true) else (some false)))) = some r := by rw [if_neg (show ¬ (false = true) by decide)] at H; exact H
                 clear H
                 have H := H1
                 clear H1
                 replace H := Option.bind_eq_some_iff.mp H
                 obtain ⟨t440, A950, H⟩ := H
                 replace H : (if t440 < 0 then (some false) else (if t440 = t423 then (some true) else (some false))) = some r := H
                 have A95 := Aside0.mk A950
                 clear A950
                 by_cases c96 : t440 < 0
                 ·rw [if_pos c96] at H
                  have c96b0 : decide (t440 < 0) = true := decide_eq_true c96
                  clear c96
                  exact absurd hr_ (by rw [← Option.some.inj H]; decide)
                 ·rw [if_neg c96] at H
                  have c96b0 : decide (t440 < 0) = false := decide_eq_false c96
                  clear c96
                  by_cases c97 : t440 = t423
                  ·rw [if_pos c97] at H
                   have c97b0 : (t440 == t423) = true := beq_iff_eq.mpr c97
                   have c97b1 : (t440 != t423) = false := bne_eq_false_iff_eq.mpr c97
                   clear c97
                   obtain rfl := Option.some.inj H
                   go_wp2_with (first | ((with_reducible refine gate_callee (f := 12) rfl ?_); refine goesL_ (some 127) rfl rfl Try.func12 (by kernel_rfl) rfl #[.slice Ao79 t424.length co79, .int .i64 1] rfl (by (try simp only [List.map_toArray, List.map_cons, List.map_nil]); first | done | rfl | (simp only [List.length_drop, List.length_take]; rfl)) ?_; (with_reducible refine (laws_heldIntS.calls kj77 _ _ t424 1 t440 _ ?side1 ?side2 A95.out).mono ?_); (case side1 => exact uC (Kd.R_reads' HO_14.out).2.2); (case side2 => exact (Kd.R_reads' HO_14.out).2.1); rintro e w' ⟨rfl, ⟨nd, rfl⟩⟩; refine ⟨_, rfl, ?_⟩))
                   go_ret
                   exact ⟨by first | rfl | (simp [errW_none, errW_some] <;> rfl) | (simp [*, errW_none, errW_some] <;> rfl), by repeat (first | (with_reducible first | exact HB.out | apply below_alloc | apply pw_below_drewN | apply below_drew1 | refine below_set ?_ GE381.out) | exact HB.out)⟩
                  ·rw [if_neg c97] at H
                   have c97b0 : (t440 == t423) = false := beq_eq_false_iff_ne.mpr c97
                   have c97b1 : (t440 != t423) = true := bne_iff_ne.mpr c97
                   exact absurd hr_ (by rw [← Option.some.inj H]; decide)
             ·rw [if_neg c73] at H
              have c73b0 : (t425 == t423) = false := beq_eq_false_iff_ne.mpr c73
              have c73b1 : (t425 != t423) = true := bne_iff_ne.mpr c73
              exact absurd hr_ (by rw [← Option.some.inj H]; decide)
        ·replace c52 := Bool.eq_false_iff.mpr c52
         subst c52
         have H1 : (some false) = some r := by rw [if_neg (show ¬ (false = true) by decide)] at H; exact H
         clear H
         have H := H1
         clear H1
         exact absurd hr_ (by rw [← Option.some.inj H]; decide)
       ·replace c49 := Bool.eq_false_iff.mpr c49
        subst c49
        have H1 : (some false) = some r := by rw [if_neg (show ¬ (false = true) by decide)] at H; exact H
        clear H
        have H := H1
        clear H1
        exact absurd hr_ (by rw [← Option.some.inj H]; decide)

/-- THE ONE PURE STATEMENT of laws_FnExactWantedOf. -/
def laws_FnExactWantedOf.Pure : Prop := ∀ (a0_0 : Int) (a0_1 : Int) (a0_2 : ByteArray) (l1 : List Int) (l2 : List Int) (a3 : Int), ((Lit.int .i64 a0_0).wf = true) → ((Lit.int .i64 a0_1).wf = true) → (a0_2.size ≤ maxLen) → l1.length ≤ 9223372036854775807 → (∀ x2_ ∈ l1, (Lit.int .i64 x2_).wf = true) → l2.length ≤ 9223372036854775807 → (∀ x2_ ∈ l2, (Lit.int .i64 x2_).wf = true) → ((Lit.int .i64 a3).wf = true) → ∃ k, laws_FnExactWantedOf.f k a0_0 a0_1 a0_2 l1 l2 a3 = some true

end Go.Proofs.Ytannkhefallkhaa.Q
