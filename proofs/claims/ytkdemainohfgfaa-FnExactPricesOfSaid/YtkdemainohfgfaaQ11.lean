-- Written by a session's own program (wip/tools/myprint.py) over the kit's printer, out of the translation. Not trusted: Lean checks it.
import Derived.Test.YtkdemainohfgfaaQ0
import Derived.Test.YtkdemainohfgfaaQ1
import Derived.Test.YtkdemainohfgfaaQ2
import Derived.Test.YtkdemainohfgfaaQ5
import Derived.Test.YtkdemainohfgfaaQ9
import Derived.Test.YtkdemainohfgfaaQ10
namespace Go.Proofs.Ytkdemainohfgfaa.Q
open Go.RowKit Go.Proofs.YtkdemainohfgfaaW.PrintWords Go.Proofs.YtkdemainohfgfaaW.PrintLast Go.Proofs.YtkdemainohfgfaaW.PrintMore
attribute [local go_sem] max2_int min2_int max_two min_two max_three min_three max_four min_four   -- for this text's walks alone
set_option linter.unusedVariables false
set_option linter.unusedSimpArgs false

/-! ### laws_FnExactPricesOf: function 4 -/
mutual
def laws_FnExactPricesOf.j0 : Nat → List Int → List Int → Bool → List Int → List Int → Bool → Bool → Int → List (S77) → Int → List (S53) → Option (Bool)
 | 0, _, _, _, _, _, _, _, _, _, _, _ => none
 | k + 1, x1, x6, x7, x9, x10, x11, x51, x262000, x262001, x279000, x279001 => if x51 = true then (some false) else ((laws_toNet.f k x262000 x262001).bind fun bt287 => ((laws_eqNet.f k x279000 x279001 bt287.1 bt287.2).bind fun t291 => (if t291 = true then ((laws_toIntS.f k x1).bind fun t292 => ((laws_eqIntS.f k x9 t292).bind fun t295 => (if t295 = true then ((laws_markNet.f k x279000 x279001 1).bind fun bt296 => ((laws_markIntS.f k x9 bt296.1).bind fun bt298 => (if bt298.1 < 0 then (laws_FnExactPricesOf.j1 k x1 x6 x7 x10 true x262000 x262001) else ((laws_eqIntS.f k x10 x6).bind fun t300 => (if t300 = true then (laws_FnExactPricesOf.j1 k x1 x6 x7 x10 (x11 != x7) x262000 x262001) else (laws_FnExactPricesOf.j1 k x1 x6 x7 x10 true x262000 x262001)))))) else (some false)))) else (some false))))
def laws_FnExactPricesOf.j1 : Nat → List Int → List Int → Bool → List Int → Bool → Int → List (S77) → Option (Bool)
 | 0, _, _, _, _, _, _, _ => none
 | k + 1, x1, x6, x7, x10, x80, x262000, x262001 => if x80 = true then (some false) else ((laws_markIntS.f k x10 1).bind fun bt301 => ((laws_heldIntS.f k bt301.2 1).bind fun t303 => (if t303 < 0 then (some false) else (if t303 = bt301.1 then ((laws_toNet.f k x262000 x262001).bind fun bt304 => ((laws_toIntS.f k x1).bind fun t308 => ((impl_PricesOf.f k bt304.1 bt304.2 t308).bind fun bt311 => ((laws_eqIntS.f k bt311.1 x6).bind fun t315 => (if t315 = true then (laws_FnExactPricesOf.j2 k bt301.2 bt301.1 (bt311.2 != x7)) else (laws_FnExactPricesOf.j2 k bt301.2 bt301.1 true)))))) else (some false)))))
def laws_FnExactPricesOf.j2 : Nat → List Int → Int → Bool → Option (Bool)
 | 0, _, _, _ => none
 | k + 1, x10, x13, x108 => if x108 = true then (some false) else ((laws_heldIntS.f k x10 1).bind fun t316 => (if t316 < 0 then (some false) else (if t316 = x13 then (some true) else (some false))))
end
def laws_FnExactPricesOf.f (k : Nat) (a0_0 : Int) (l0_1 : List (S77)) (l1 : List Int) : Option (Bool) := if (l1.length : Int) > 1048576 then (some true) else ((laws_szNet.f a0_0 l0_1 1048576).bind fun t262 => (if t262 < 0 then (some true) else ((laws_toNet.f k a0_0 l0_1).bind fun bt263 => ((laws_toIntS.f k l1).bind fun t267 => ((spec_PricesOf.f k bt263.1 bt263.2 t267).bind fun bt270 => ((laws_toNet.f k a0_0 l0_1).bind fun bt274 => ((laws_toIntS.f k l1).bind fun t279 => ((impl_PricesOf.f k bt274.1 bt274.2 t279).bind fun bt282 => ((laws_eqIntS.f k bt282.1 bt270.1).bind fun t286 => (if t286 = true then (laws_FnExactPricesOf.j0 k l1 bt270.1 bt270.2 t279 bt282.1 bt282.2 (bt282.2 != bt270.2) a0_0 l0_1 bt274.1 bt274.2) else (laws_FnExactPricesOf.j0 k l1 bt270.1 bt270.2 t279 bt282.1 bt282.2 true a0_0 l0_1 bt274.1 bt274.2)))))))))))
set_option maxHeartbeats 8000000 in
set_option maxRecDepth 100000 in
theorem laws_FnExactPricesOf.calls (k : Nat) (a0_0 : Int) (A0_1 : Option Addr) (c0_1 : Nat) (l0_1 : List (S77)) (A1 : Option Addr) (c1 : Nat) (l1 : List Int) (r : Bool) (w : World) (hr0_1 : Kd.C k77 w A0_1 l0_1.length l0_1) (hc0_1 : l0_1.length ≤ c0_1) (hr1 : Kd.C (Kd.int .i64) w A1 l1.length l1) (hc1 : l1.length ≤ c1) (hr_ : r = true) (h : laws_FnExactPricesOf.f k a0_0 l0_1 l1 = some r) :
  Calls Try.prog 4 #[.agg #[.int .i64 a0_0, .slice A0_1 l0_1.length c0_1], .slice A1 l1.length c1] w fun e w' => e = .returned (.bool r) ∧ Below w.heap.size w w' := by
 have hu24 := Try.underlying24
 have hu30 := Try.underlying30
 have HR0_1 := Aside0.mk hr0_1
 have HC0_1 := Aside0.mk hc0_1
 clear hr0_1 hc0_1
 have HR1 := Aside0.mk hr1
 have HC1 := Aside0.mk hc1
 clear hr1 hc1
 have HB := Aside0.mk (Below.refl w.heap.size w)
 have H : (if (l1.length : Int) > 1048576 then (some true) else ((laws_szNet.f a0_0 l0_1 1048576).bind fun t262 => (if t262 < 0 then (some true) else ((laws_toNet.f k a0_0 l0_1).bind fun bt263 => ((laws_toIntS.f k l1).bind fun t267 => ((spec_PricesOf.f k bt263.1 bt263.2 t267).bind fun bt270 => ((laws_toNet.f k a0_0 l0_1).bind fun bt274 => ((laws_toIntS.f k l1).bind fun t279 => ((impl_PricesOf.f k bt274.1 bt274.2 t279).bind fun bt282 => ((laws_eqIntS.f k bt282.1 bt270.1).bind fun t286 => (if t286 = true then (laws_FnExactPricesOf.j0 k l1 bt270.1 bt270.2 t279 bt282.1 bt282.2 (bt282.2 != bt270.2) a0_0 l0_1 bt274.1 bt274.2) else (laws_FnExactPricesOf.j0 k l1 bt270.1 bt270.2 t279 bt282.1 bt282.2 true a0_0 l0_1 bt274.1 bt274.2)))))))))))) = some r := h
 clear h
 by_cases c3 : (l1.length : Int) > 1048576
 ·rw [if_pos c3] at H
  have c3b0 : decide (1048576 < (l1.length : Int)) = true := decide_eq_true c3
  have c3b1 : decide (1048576 < l1.length) = true := decide_eq_true (by omega)
  clear c3
  obtain rfl := Option.some.inj H
  go_enter Try.func4, Try.ntmps4
  go_wp2_with (first | ((with_reducible refine gate_dst (N := 2) rfl ?_); refine box_event ?hg (N := 2) ?hd (cs := #[.int .i64 a0_0, .slice A0_1 l0_1.length c0_1]) (t := 24) ?hr ?_; (case hd => rfl); (case hg => rfl); (case hr => first | (go_simp; done) | (go_simp; rfl)); intro gb261 hg w4 hbox hb; have n0_ := Aside0.mk (below_step (uB HB.out) hb); have n1_ := Aside0.mk (hbox); have n2_ := Aside0.mk ((by rw [hg]; exact (below_size (uB HB.out)) : w.heap.size ≤ gb261)); have n3_ := Aside0.mk ((by rw [hg]; exact (below_size (uB HB.out)) : w.heap.size ≤ gb261)); clear HB; have HB := n0_; have BK261 := n1_; have GW261 := n2_; have GE261 := n3_; clear n0_ n1_ n2_ n3_; clear hb hbox hg))
  go_ret
  exact ⟨by first | rfl | (simp [errW_none, errW_some] <;> rfl) | (simp [*, errW_none, errW_some] <;> rfl), by repeat (first | (with_reducible first | exact HB.out | apply below_alloc | apply pw_below_drewN | apply below_drew1 | refine below_set ?_ GE261.out) | exact HB.out)⟩
 ·rw [if_neg c3] at H
  have c3b0 : decide (1048576 < (l1.length : Int)) = false := decide_eq_false c3
  have c3b1 : decide (1048576 < l1.length) = false := decide_eq_false (by omega)
  clear c3
  replace H := Option.bind_eq_some_iff.mp H
  obtain ⟨t262, A50, H⟩ := H
  replace H : (if t262 < 0 then (some true) else ((laws_toNet.f k a0_0 l0_1).bind fun bt263 => ((laws_toIntS.f k l1).bind fun t267 => ((spec_PricesOf.f k bt263.1 bt263.2 t267).bind fun bt270 => ((laws_toNet.f k a0_0 l0_1).bind fun bt274 => ((laws_toIntS.f k l1).bind fun t279 => ((impl_PricesOf.f k bt274.1 bt274.2 t279).bind fun bt282 => ((laws_eqIntS.f k bt282.1 bt270.1).bind fun t286 => (if t286 = true then (laws_FnExactPricesOf.j0 k l1 bt270.1 bt270.2 t279 bt282.1 bt282.2 (bt282.2 != bt270.2) a0_0 l0_1 bt274.1 bt274.2) else (laws_FnExactPricesOf.j0 k l1 bt270.1 bt270.2 t279 bt282.1 bt282.2 true a0_0 l0_1 bt274.1 bt274.2)))))))))) = some r := H
  have A5 := Aside0.mk A50
  clear A50
  by_cases c6 : t262 < 0
  ·rw [if_pos c6] at H
   have c6b0 : decide (t262 < 0) = true := decide_eq_true c6
   clear c6
   obtain rfl := Option.some.inj H
   go_enter Try.func4, Try.ntmps4
   go_wp2_with (first | ((with_reducible refine gate_dst (N := 2) rfl ?_); refine box_event ?hg (N := 2) ?hd (cs := #[.int .i64 a0_0, .slice A0_1 l0_1.length c0_1]) (t := 24) ?hr ?_; (case hd => rfl); (case hg => rfl); (case hr => first | (go_simp; done) | (go_simp; rfl)); intro gb261 hg w7 hbox hb; have n0_ := Aside0.mk (below_step (uB HB.out) hb); have n1_ := Aside0.mk (hbox); have n2_ := Aside0.mk ((by rw [hg]; exact (below_size (uB HB.out)) : w.heap.size ≤ gb261)); have n3_ := Aside0.mk ((by rw [hg]; exact (below_size (uB HB.out)) : w.heap.size ≤ gb261)); clear HB; have HB := n0_; have BK261 := n1_; have GW261 := n2_; have GE261 := n3_; clear n0_ n1_ n2_ n3_; clear hb hbox hg; have hcz8_0 : w7.cell? ⟨gb261, 0, none⟩ = some (.int .i64 a0_0) := (blk_cell BK261.out 0).trans rfl; have hcz8_1 : w7.cell? ⟨gb261, 1, none⟩ = some (.slice A0_1 l0_1.length c0_1) := (blk_cell BK261.out 1).trans rfl; have hfz8_0 := blk_frozen BK261.out 0; have hfz8_1 := blk_frozen BK261.out 1) | ((with_reducible refine gate_callee (f := 8) rfl ?_); refine goesL_ (some 22) rfl rfl Try.func8 (by kernel_rfl) rfl #[.agg #[.int .i64 a0_0, .slice A0_1 l0_1.length c0_1], .int .i64 1048576] rfl (by (try simp only [List.map_toArray, List.map_cons, List.map_nil]); first | done | rfl | (simp only [List.length_drop, List.length_take]; rfl)) ?_; (with_reducible refine (laws_szNet.calls a0_0 _ _ l0_1 1048576 t262 _ ?side1 ?side2 A5.out).mono ?_); (case side1 => repeat (first | exact (Kd.C_below HR0_1.out HB.out) | (with_reducible refine Kd.C_alloc ?_ _) | (with_reducible refine Kd.C_drewN ?_ _) | (with_reducible refine Kd.C_drew ?_))); (case side2 => exact HC0_1.out); rintro e w9 ⟨rfl, hb⟩; refine ⟨_, rfl, ?_⟩; have n0_ := Aside0.mk (blk_below (g := gb261) (o := .cells #[.int .i64 a0_0, .slice A0_1 l0_1.length c0_1] 24 (0, 0)) (by (with_reducible repeat (first | refine blk_drewN ?_ _ | refine blk_drew ?_ | refine blk_alloc ?_ _)); exact BK261.out) hb); have n1_ := Aside0.mk (below_step (by repeat (first | (with_reducible first | exact HB.out | apply below_alloc | apply pw_below_drewN | apply below_drew1 | refine below_set ?_ GE261.out) | exact HB.out)) hb); clear BK261; clear HB; have BK261 := n0_; have HB := n1_; clear n0_ n1_; (try clear hb); (try clear hb2); (try clear hk); (try clear hi)))
   go_ret
   exact ⟨by first | rfl | (simp [errW_none, errW_some] <;> rfl) | (simp [*, errW_none, errW_some] <;> rfl), by repeat (first | (with_reducible first | exact HB.out | apply below_alloc | apply pw_below_drewN | apply below_drew1 | refine below_set ?_ GE261.out) | exact HB.out)⟩
  ·rw [if_neg c6] at H
   have c6b0 : decide (t262 < 0) = false := decide_eq_false c6
   clear c6
   replace H := Option.bind_eq_some_iff.mp H
   obtain ⟨⟨t263, t264⟩, A100, H⟩ := H
   replace H : ((laws_toIntS.f k l1).bind fun t267 => ((spec_PricesOf.f k t263 t264 t267).bind fun bt270 => ((laws_toNet.f k a0_0 l0_1).bind fun bt274 => ((laws_toIntS.f k l1).bind fun t279 => ((impl_PricesOf.f k bt274.1 bt274.2 t279).bind fun bt282 => ((laws_eqIntS.f k bt282.1 bt270.1).bind fun t286 => (if t286 = true then (laws_FnExactPricesOf.j0 k l1 bt270.1 bt270.2 t279 bt282.1 bt282.2 (bt282.2 != bt270.2) a0_0 l0_1 bt274.1 bt274.2) else (laws_FnExactPricesOf.j0 k l1 bt270.1 bt270.2 t279 bt282.1 bt282.2 true a0_0 l0_1 bt274.1 bt274.2)))))))) = some r := H
   have A10 := Aside0.mk A100
   clear A100
   replace H := Option.bind_eq_some_iff.mp H
   obtain ⟨t267, A110, H⟩ := H
   replace H : ((spec_PricesOf.f k t263 t264 t267).bind fun bt270 => ((laws_toNet.f k a0_0 l0_1).bind fun bt274 => ((laws_toIntS.f k l1).bind fun t279 => ((impl_PricesOf.f k bt274.1 bt274.2 t279).bind fun bt282 => ((laws_eqIntS.f k bt282.1 bt270.1).bind fun t286 => (if t286 = true then (laws_FnExactPricesOf.j0 k l1 bt270.1 bt270.2 t279 bt282.1 bt282.2 (bt282.2 != bt270.2) a0_0 l0_1 bt274.1 bt274.2) else (laws_FnExactPricesOf.j0 k l1 bt270.1 bt270.2 t279 bt282.1 bt282.2 true a0_0 l0_1 bt274.1 bt274.2))))))) = some r := H
   have A11 := Aside0.mk A110
   clear A110
   replace H := Option.bind_eq_some_iff.mp H
   obtain ⟨⟨t270, t273⟩, A120, H⟩ := H
   replace H : ((laws_toNet.f k a0_0 l0_1).bind fun bt274 => ((laws_toIntS.f k l1).bind fun t279 => ((impl_PricesOf.f k bt274.1 bt274.2 t279).bind fun bt282 => ((laws_eqIntS.f k bt282.1 t270).bind fun t286 => (if t286 = true then (laws_FnExactPricesOf.j0 k l1 t270 t273 t279 bt282.1 bt282.2 (bt282.2 != t273) a0_0 l0_1 bt274.1 bt274.2) else (laws_FnExactPricesOf.j0 k l1 t270 t273 t279 bt282.1 bt282.2 true a0_0 l0_1 bt274.1 bt274.2)))))) = some r := H
   have A12 := Aside0.mk A120
   clear A120
   replace H := Option.bind_eq_some_iff.mp H
   obtain ⟨⟨t274, t275⟩, A130, H⟩ := H
   replace H : ((laws_toIntS.f k l1).bind fun t279 => ((impl_PricesOf.f k t274 t275 t279).bind fun bt282 => ((laws_eqIntS.f k bt282.1 t270).bind fun t286 => (if t286 = true then (laws_FnExactPricesOf.j0 k l1 t270 t273 t279 bt282.1 bt282.2 (bt282.2 != t273) a0_0 l0_1 t274 t275) else (laws_FnExactPricesOf.j0 k l1 t270 t273 t279 bt282.1 bt282.2 true a0_0 l0_1 t274 t275))))) = some r := H
   have A13 := Aside0.mk A130
   clear A130
   replace H := Option.bind_eq_some_iff.mp H
   obtain ⟨t279, A140, H⟩ := H
   replace H : ((impl_PricesOf.f k t274 t275 t279).bind fun bt282 => ((laws_eqIntS.f k bt282.1 t270).bind fun t286 => (if t286 = true then (laws_FnExactPricesOf.j0 k l1 t270 t273 t279 bt282.1 bt282.2 (bt282.2 != t273) a0_0 l0_1 t274 t275) else (laws_FnExactPricesOf.j0 k l1 t270 t273 t279 bt282.1 bt282.2 true a0_0 l0_1 t274 t275)))) = some r := H
   have A14 := Aside0.mk A140
   clear A140
   replace H := Option.bind_eq_some_iff.mp H
   obtain ⟨⟨t282, t285⟩, A150, H⟩ := H
   replace H : ((laws_eqIntS.f k t282 t270).bind fun t286 => (if t286 = true then (laws_FnExactPricesOf.j0 k l1 t270 t273 t279 t282 t285 (t285 != t273) a0_0 l0_1 t274 t275) else (laws_FnExactPricesOf.j0 k l1 t270 t273 t279 t282 t285 true a0_0 l0_1 t274 t275))) = some r := H
   have A15 := Aside0.mk A150
   clear A150
   have HC16 := Aside0.mk H
   clear H
   go_enter Try.func4, Try.ntmps4
   go_upto_region 11 with (first | ((with_reducible refine gate_dst (N := 2) rfl ?_); refine box_event ?hg (N := 2) ?hd (cs := #[.int .i64 a0_0, .slice A0_1 l0_1.length c0_1]) (t := 24) ?hr ?_; (case hd => rfl); (case hg => rfl); (case hr => first | (go_simp; done) | (go_simp; rfl)); intro gb261 hg w17 hbox hb; have n0_ := Aside0.mk (below_step (uB HB.out) hb); have n1_ := Aside0.mk (hbox); have n2_ := Aside0.mk ((by rw [hg]; exact (below_size (uB HB.out)) : w.heap.size ≤ gb261)); have n3_ := Aside0.mk ((by rw [hg]; exact (below_size (uB HB.out)) : w.heap.size ≤ gb261)); clear HB; have HB := n0_; have BK261 := n1_; have GW261 := n2_; have GE261 := n3_; clear n0_ n1_ n2_ n3_; clear hb hbox hg; have hcz18_0 : w17.cell? ⟨gb261, 0, none⟩ = some (.int .i64 a0_0) := (blk_cell BK261.out 0).trans rfl; have hcz18_1 : w17.cell? ⟨gb261, 1, none⟩ = some (.slice A0_1 l0_1.length c0_1) := (blk_cell BK261.out 1).trans rfl; have hfz18_0 := blk_frozen BK261.out 0; have hfz18_1 := blk_frozen BK261.out 1) | ((with_reducible refine gate_callee (f := 8) rfl ?_); refine goesL_ (some 22) rfl rfl Try.func8 (by kernel_rfl) rfl #[.agg #[.int .i64 a0_0, .slice A0_1 l0_1.length c0_1], .int .i64 1048576] rfl (by (try simp only [List.map_toArray, List.map_cons, List.map_nil]); first | done | rfl | (simp only [List.length_drop, List.length_take]; rfl)) ?_; (with_reducible refine (laws_szNet.calls a0_0 _ _ l0_1 1048576 t262 _ ?side1 ?side2 A5.out).mono ?_); (case side1 => repeat (first | exact (Kd.C_below HR0_1.out HB.out) | (with_reducible refine Kd.C_alloc ?_ _) | (with_reducible refine Kd.C_drewN ?_ _) | (with_reducible refine Kd.C_drew ?_))); (case side2 => exact HC0_1.out); rintro e w19 ⟨rfl, hb⟩; refine ⟨_, rfl, ?_⟩; have n0_ := Aside0.mk (blk_below (g := gb261) (o := .cells #[.int .i64 a0_0, .slice A0_1 l0_1.length c0_1] 24 (0, 0)) (by (with_reducible repeat (first | refine blk_drewN ?_ _ | refine blk_drew ?_ | refine blk_alloc ?_ _)); exact BK261.out) hb); have n1_ := Aside0.mk (below_step (by repeat (first | (with_reducible first | exact HB.out | apply below_alloc | apply pw_below_drewN | apply below_drew1 | refine below_set ?_ GE261.out) | exact HB.out)) hb); clear BK261; clear HB; have BK261 := n0_; have HB := n1_; clear n0_ n1_; (try clear hb); (try clear hb2); (try clear hk); (try clear hi); have hcz20_0 : w19.cell? ⟨gb261, 0, none⟩ = some (.int .i64 a0_0) := (blk_cell BK261.out 0).trans rfl; have hcz20_1 : w19.cell? ⟨gb261, 1, none⟩ = some (.slice A0_1 l0_1.length c0_1) := (blk_cell BK261.out 1).trans rfl; have hfz20_0 := blk_frozen BK261.out 0; have hfz20_1 := blk_frozen BK261.out 1) | ((with_reducible refine gate_callee (f := 10) rfl ?_); refine goesL_ (some 27) rfl rfl Try.func10 (by kernel_rfl) rfl #[.agg #[.int .i64 a0_0, .slice A0_1 l0_1.length c0_1]] rfl (by (try simp only [List.map_toArray, List.map_cons, List.map_nil]); first | done | rfl | (simp only [List.length_drop, List.length_take]; rfl)) ?_; (with_reducible refine (laws_toNet.calls k a0_0 _ _ l0_1 t263 t264 _ ?side1 ?side2 A10.out).mono ?_); (case side1 => repeat (first | exact (Kd.C_below HR0_1.out HB.out) | (with_reducible refine Kd.C_alloc ?_ _) | (with_reducible refine Kd.C_drewN ?_ _) | (with_reducible refine Kd.C_drew ?_))); (case side2 => exact HC0_1.out); rintro e w21 ⟨v265, rfl, ho0, hb⟩; refine ⟨_, rfl, ?_⟩; have n0_ := Aside0.mk (Kd.R_lower ho0 (below_size (by repeat (first | (with_reducible first | exact HB.out | apply below_alloc | apply pw_below_drewN | apply below_drew1 | refine below_set ?_ GE261.out) | exact HB.out)))); have n1_ := Aside0.mk (blk_below (g := gb261) (o := .cells #[.int .i64 a0_0, .slice A0_1 l0_1.length c0_1] 24 (0, 0)) (by (with_reducible repeat (first | refine blk_drewN ?_ _ | refine blk_drew ?_ | refine blk_alloc ?_ _)); exact BK261.out) hb); have n2_ := Aside0.mk (below_step (by repeat (first | (with_reducible first | exact HB.out | apply below_alloc | apply pw_below_drewN | apply below_drew1 | refine below_set ?_ GE261.out) | exact HB.out)) hb); clear BK261; clear HB; have HO266 := n0_; have BK261 := n1_; have HB := n2_; clear n0_ n1_ n2_; (try clear hb); (try clear hb2); (try clear hk); (try clear hi); (try clear ho0)) | ((with_reducible refine gate_callee (f := 11) rfl ?_); refine goesL_ (some 29) rfl rfl Try.func11 (by kernel_rfl) rfl #[.slice A1 l1.length c1] rfl (by (try simp only [List.map_toArray, List.map_cons, List.map_nil]); first | done | rfl | (simp only [List.length_drop, List.length_take]; rfl)) ?_; (with_reducible refine (laws_toIntS.calls k _ _ l1 t267 _ ?side1 ?side2 A11.out).mono ?_); (case side1 => repeat (first | exact (Kd.C_below HR1.out HB.out) | (with_reducible refine Kd.C_alloc ?_ _) | (with_reducible refine Kd.C_drewN ?_ _) | (with_reducible refine Kd.C_drew ?_))); (case side2 => exact HC1.out); rintro e w22 ⟨v268, rfl, ho0, hb⟩; refine ⟨_, rfl, ?_⟩; have n0_ := Aside0.mk (Kd.R_below (uR HO266.out) hb); have n1_ := Aside0.mk (Kd.R_lower ho0 (below_size (by repeat (first | (with_reducible first | exact HB.out | apply below_alloc | apply pw_below_drewN | apply below_drew1 | refine below_set ?_ GE261.out) | exact HB.out)))); have n2_ := Aside0.mk (blk_below (g := gb261) (o := .cells #[.int .i64 a0_0, .slice A0_1 l0_1.length c0_1] 24 (0, 0)) (by (with_reducible repeat (first | refine blk_drewN ?_ _ | refine blk_drew ?_ | refine blk_alloc ?_ _)); exact BK261.out) hb); have n3_ := Aside0.mk (below_step (by repeat (first | (with_reducible first | exact HB.out | apply below_alloc | apply pw_below_drewN | apply below_drew1 | refine below_set ?_ GE261.out) | exact HB.out)) hb); clear HO266; clear BK261; clear HB; have HO266 := n0_; have HO269 := n1_; have BK261 := n2_; have HB := n3_; clear n0_ n1_ n2_ n3_; (try clear hb); (try clear hb2); (try clear hk); (try clear hi); (try clear ho0); obtain ⟨Ao23, co23, eo23⟩ := Kd.R_slice HO266.out; subst eo23; obtain ⟨Ao24, co24, eo24⟩ := Kd.R_slice HO269.out; subst eo24) | ((with_reducible refine gate_callee (f := 15) rfl ?_); refine goesL_ (some 30) rfl rfl Try.func15 (by kernel_rfl) rfl #[.agg #[.int .i64 t263, .slice Ao23 t264.length co23], .slice Ao24 t267.length co24] rfl (by (try simp only [List.map_toArray, List.map_cons, List.map_nil]); first | done | rfl | (simp only [List.length_drop, List.length_take]; rfl)) ?_; (with_reducible refine (spec_PricesOf.calls k t263 _ _ t264 _ _ t267 t270 t273 _ ?side1 ?side2 ?side3 ?side4 A12.out).mono ?_); (case side1 => exact uC (Kd.R_reads' HO266.out).2.2); (case side2 => exact (Kd.R_reads' HO266.out).2.1); (case side3 => exact uC (Kd.R_reads' HO269.out).2.2); (case side4 => exact (Kd.R_reads' HO269.out).2.1); rintro e w25 ⟨v271, rfl, ho0, hb⟩; refine ⟨_, rfl, ?_⟩; have n0_ := Aside0.mk (Kd.R_below (uR HO266.out) hb); have n1_ := Aside0.mk (Kd.R_elder' (uR HO269.out) (Kd.R_base ho0) hb); have n2_ := Aside0.mk (Kd.R_lower (Kd.R_new' ho0 (Kd.R_lt (uR HO269.out))) (below_size (by repeat (first | (with_reducible first | exact HB.out | apply below_alloc | apply pw_below_drewN | apply below_drew1 | refine below_set ?_ GE261.out) | exact HB.out)))); have n3_ := Aside0.mk (blk_below (g := gb261) (o := .cells #[.int .i64 a0_0, .slice A0_1 l0_1.length c0_1] 24 (0, 0)) (by (with_reducible repeat (first | refine blk_drewN ?_ _ | refine blk_drew ?_ | refine blk_alloc ?_ _)); exact BK261.out) hb); have n4_ := Aside0.mk (below_step (by repeat (first | (with_reducible first | exact HB.out | apply below_alloc | apply pw_below_drewN | apply below_drew1 | refine below_set ?_ GE261.out) | exact HB.out)) hb); clear HO266; clear HO269; clear BK261; clear HB; have HO266 := n0_; have HO269 := n1_; have HO272 := n2_; have BK261 := n3_; have HB := n4_; clear n0_ n1_ n2_ n3_ n4_; (try clear hb); (try clear hb2); (try clear hk); (try clear hi); (try clear ho0); have hcz26_0 : w25.cell? ⟨gb261, 0, none⟩ = some (.int .i64 a0_0) := (blk_cell BK261.out 0).trans rfl; have hcz26_1 : w25.cell? ⟨gb261, 1, none⟩ = some (.slice A0_1 l0_1.length c0_1) := (blk_cell BK261.out 1).trans rfl; have hfz26_0 := blk_frozen BK261.out 0; have hfz26_1 := blk_frozen BK261.out 1) | ((with_reducible refine gate_callee (f := 10) rfl ?_); refine goesL_ (some 34) rfl rfl Try.func10 (by kernel_rfl) rfl #[.agg #[.int .i64 a0_0, .slice A0_1 l0_1.length c0_1]] rfl (by (try simp only [List.map_toArray, List.map_cons, List.map_nil]); first | done | rfl | (simp only [List.length_drop, List.length_take]; rfl)) ?_; (with_reducible refine (laws_toNet.calls k a0_0 _ _ l0_1 t274 t275 _ ?side1 ?side2 A13.out).mono ?_); (case side1 => repeat (first | exact (Kd.C_below HR0_1.out HB.out) | (with_reducible refine Kd.C_alloc ?_ _) | (with_reducible refine Kd.C_drewN ?_ _) | (with_reducible refine Kd.C_drew ?_))); (case side2 => exact HC0_1.out); rintro e w27 ⟨v276, rfl, ho0, hb⟩; refine ⟨_, rfl, ?_⟩; have n0_ := Aside0.mk (Kd.R_elder' (uR HO266.out) (Kd.R_base ho0) hb); have n1_ := Aside0.mk (Kd.R_below (uR HO269.out) hb); have n2_ := Aside0.mk (Kd.R_below (uR HO272.out) hb); have n3_ := Aside0.mk (Kd.R_lower (Kd.R_new' ho0 (Kd.R_lt (uR HO266.out))) (below_size (by repeat (first | (with_reducible first | exact HB.out | apply below_alloc | apply pw_below_drewN | apply below_drew1 | refine below_set ?_ GE261.out) | exact HB.out)))); have n4_ := Aside0.mk (blk_below (g := gb261) (o := .cells #[.int .i64 a0_0, .slice A0_1 l0_1.length c0_1] 24 (0, 0)) (by (with_reducible repeat (first | refine blk_drewN ?_ _ | refine blk_drew ?_ | refine blk_alloc ?_ _)); exact BK261.out) hb); have n5_ := Aside0.mk (below_step (by repeat (first | (with_reducible first | exact HB.out | apply below_alloc | apply pw_below_drewN | apply below_drew1 | refine below_set ?_ GE261.out) | exact HB.out)) hb); clear HO266; clear HO269; clear HO272; clear BK261; clear HB; have HO266 := n0_; have HO269 := n1_; have HO272 := n2_; have HO277 := n3_; have BK261 := n4_; have HB := n5_; clear n0_ n1_ n2_ n3_ n4_ n5_; (try clear hb); (try clear hb2); (try clear hk); (try clear hi); (try clear ho0)) | ((with_reducible refine gate_dst (N := 8) rfl ?_); refine box_event ?hg (N := 8) ?hd (cs := #[.int .i64 0, .slice none 0 0]) (t := 30) ?hr ?_; (case hd => rfl); (case hg => rfl); (case hr => first | (go_simp; done) | (go_simp; rfl)); intro gb278 hg w28 hbox hb; have n0_ := Aside0.mk (Kd.R_below (uR HO266.out) hb); have n1_ := Aside0.mk (Kd.R_below (uR HO269.out) hb); have n2_ := Aside0.mk (Kd.R_below (uR HO272.out) hb); have n3_ := Aside0.mk (Kd.R_below (uR HO277.out) hb); have n4_ := Aside0.mk (blk_below (g := gb261) (o := .cells #[.int .i64 a0_0, .slice A0_1 l0_1.length c0_1] 24 (0, 0)) (by (with_reducible repeat (first | refine blk_drewN ?_ _ | refine blk_drew ?_ | refine blk_alloc ?_ _)); exact BK261.out) hb); have n5_ := Aside0.mk (below_step (by repeat (first | (with_reducible first | exact HB.out | apply below_alloc | apply pw_below_drewN | apply below_drew1 | refine below_set ?_ GE261.out) | exact HB.out)) hb); have n6_ := Aside0.mk (hbox); have n7_ := Aside0.mk ((by rw [hg]; exact (below_size (by repeat (first | (with_reducible first | exact HB.out | apply below_alloc | apply pw_below_drewN | apply below_drew1 | refine below_set ?_ GE261.out) | exact HB.out))) : w.heap.size ≤ gb278)); have n8_ := Aside0.mk ((by rw [hg]; exact (below_size (by repeat (first | (with_reducible first | exact HB.out | apply below_alloc | apply pw_below_drewN | apply below_drew1 | refine below_set ?_ GE261.out) | exact HB.out))) : w.heap.size ≤ gb278)); have n9_ := Aside0.mk ((by rw [hg]; exact Nat.ne_of_lt (blk_lt (g := gb261) (o := .cells #[.int .i64 a0_0, .slice A0_1 l0_1.length c0_1] 24 (0, 0)) (by (with_reducible repeat (first | refine blk_drewN ?_ _ | refine blk_drew ?_ | refine blk_alloc ?_ _)); exact BK261.out)) : gb261 ≠ gb278)); have n10_ := Aside0.mk ((by rw [hg]; exact Nat.ne_of_gt (blk_lt (g := gb261) (o := .cells #[.int .i64 a0_0, .slice A0_1 l0_1.length c0_1] 24 (0, 0)) (by (with_reducible repeat (first | refine blk_drewN ?_ _ | refine blk_drew ?_ | refine blk_alloc ?_ _)); exact BK261.out)) : gb278 ≠ gb261)); clear HO266; clear HO269; clear HO272; clear HO277; clear BK261; clear HB; have HO266 := n0_; have HO269 := n1_; have HO272 := n2_; have HO277 := n3_; have BK261 := n4_; have HB := n5_; have BK278 := n6_; have GW278 := n7_; have GE278 := n8_; have NB261_278 := n9_; have NB278_261 := n10_; clear n0_ n1_ n2_ n3_ n4_ n5_ n6_ n7_ n8_ n9_ n10_; clear hb hbox hg; have hnb29 := NB278_261.out; have hnc29 := NB261_278.out; have hcz30_0 : w28.cell? ⟨gb278, 0, none⟩ = some (.int .i64 0) := (blk_cell BK278.out 0).trans rfl; have hcz30_1 : w28.cell? ⟨gb278, 1, none⟩ = some (.slice none 0 0) := (blk_cell BK278.out 1).trans rfl; have hfz30_0 := blk_frozen BK278.out 0; have hfz30_1 := blk_frozen BK278.out 1; obtain ⟨Ao31, co31, eo31⟩ := Kd.R_slice HO277.out; subst eo31) | ((with_reducible refine gate_callee (f := 11) rfl ?_); refine goesL_ (some 36) rfl rfl Try.func11 (by kernel_rfl) rfl #[.slice A1 l1.length c1] rfl (by (try simp only [List.map_toArray, List.map_cons, List.map_nil]); first | done | rfl | (simp only [List.length_drop, List.length_take]; rfl)) ?_; (with_reducible refine (laws_toIntS.calls k _ _ l1 t279 _ ?side1 ?side2 A14.out).mono ?_); (case side1 => exact Kd.C_below HR1.out (by repeat (first | (with_reducible first | exact HB.out | apply below_alloc | apply pw_below_drewN | apply below_drew1 | refine below_set ?_ GE261.out | refine below_set ?_ GE278.out) | exact HB.out))); (case side2 => exact HC1.out); rintro e w32 ⟨v280, rfl, ho0, hb⟩; refine ⟨_, rfl, ?_⟩; have n0_ := Aside0.mk (Kd.R_below (uR ((Kd.R_mono (Kd.R_far (p := ⟨gb278, 1, none⟩) (Kd.R_far (p := ⟨gb278, 0, none⟩) (Kd.R_types HO266.out BK278.out (by decide)) (fun _ hk => hk.2) (.int .i64 t274)) (fun _ hk => hk.2) (.slice Ao31 t275.length co31)) (fun _ h_ => h_.1)))) hb); have n1_ := Aside0.mk (Kd.R_elder' (uR ((Kd.R_mono (Kd.R_far (p := ⟨gb278, 1, none⟩) (Kd.R_far (p := ⟨gb278, 0, none⟩) (Kd.R_types HO269.out BK278.out (by decide)) (fun _ hk => hk.2) (.int .i64 t274)) (fun _ hk => hk.2) (.slice Ao31 t275.length co31)) (fun _ h_ => h_.1)))) (Kd.R_base ho0) hb); have n2_ := Aside0.mk (Kd.R_elder' (uR ((Kd.R_mono (Kd.R_far (p := ⟨gb278, 1, none⟩) (Kd.R_far (p := ⟨gb278, 0, none⟩) (Kd.R_types HO272.out BK278.out (by decide)) (fun _ hk => hk.2) (.int .i64 t274)) (fun _ hk => hk.2) (.slice Ao31 t275.length co31)) (fun _ h_ => h_.1)))) (Kd.R_base ho0) hb); have n3_ := Aside0.mk (Kd.R_below (uR ((Kd.R_mono (Kd.R_far (p := ⟨gb278, 1, none⟩) (Kd.R_far (p := ⟨gb278, 0, none⟩) (Kd.R_types HO277.out BK278.out (by decide)) (fun _ hk => hk.2) (.int .i64 t274)) (fun _ hk => hk.2) (.slice Ao31 t275.length co31)) (fun _ h_ => h_.1)))) hb); have n4_ := Aside0.mk (Kd.R_lower (Kd.R_new' (Kd.R_new' ho0 (Kd.R_lt (uR ((Kd.R_mono (Kd.R_far (p := ⟨gb278, 1, none⟩) (Kd.R_far (p := ⟨gb278, 0, none⟩) (Kd.R_types HO269.out BK278.out (by decide)) (fun _ hk => hk.2) (.int .i64 t274)) (fun _ hk => hk.2) (.slice Ao31 t275.length co31)) (fun _ h_ => h_.1)))))) (Kd.R_lt (uR ((Kd.R_mono (Kd.R_far (p := ⟨gb278, 1, none⟩) (Kd.R_far (p := ⟨gb278, 0, none⟩) (Kd.R_types HO272.out BK278.out (by decide)) (fun _ hk => hk.2) (.int .i64 t274)) (fun _ hk => hk.2) (.slice Ao31 t275.length co31)) (fun _ h_ => h_.1)))))) (below_size (by repeat (first | (with_reducible first | exact HB.out | apply below_alloc | apply pw_below_drewN | apply below_drew1 | refine below_set ?_ GE261.out | refine below_set ?_ GE278.out) | exact HB.out)))); have n5_ := Aside0.mk (blk_below (g := gb261) (o := .cells #[.int .i64 a0_0, .slice A0_1 l0_1.length c0_1] 24 (0, 0)) (by (with_reducible repeat (first | refine blk_drewN ?_ _ | refine blk_drew ?_ | refine blk_alloc ?_ _)); refine blk_far ?_ NB261_278.out _; (with_reducible repeat (first | refine blk_drewN ?_ _ | refine blk_drew ?_ | refine blk_alloc ?_ _)); refine blk_far ?_ NB261_278.out _; (with_reducible repeat (first | refine blk_drewN ?_ _ | refine blk_drew ?_ | refine blk_alloc ?_ _)); exact BK261.out) hb); have n6_ := Aside0.mk (blk_below (g := gb278) (o := .cells #[.int .i64 t274, .slice Ao31 t275.length co31] 30 (0, 0)) (by (with_reducible repeat (first | refine blk_drewN ?_ _ | refine blk_drew ?_ | refine blk_alloc ?_ _)); refine blk_put (cs := #[.int .i64 t274, .slice none 0 0]) ?_ 1 _ rfl; (with_reducible repeat (first | refine blk_drewN ?_ _ | refine blk_drew ?_ | refine blk_alloc ?_ _)); refine blk_put (cs := #[.int .i64 0, .slice none 0 0]) ?_ 0 _ rfl; (with_reducible repeat (first | refine blk_drewN ?_ _ | refine blk_drew ?_ | refine blk_alloc ?_ _)); exact BK278.out) hb); have n7_ := Aside0.mk (below_step (by repeat (first | (with_reducible first | exact HB.out | apply below_alloc | apply pw_below_drewN | apply below_drew1 | refine below_set ?_ GE261.out | refine below_set ?_ GE278.out) | exact HB.out)) hb); clear HO266; clear HO269; clear HO272; clear HO277; clear BK261; clear BK278; clear HB; have HO266 := n0_; have HO269 := n1_; have HO272 := n2_; have HO277 := n3_; have HO281 := n4_; have BK261 := n5_; have BK278 := n6_; have HB := n7_; clear n0_ n1_ n2_ n3_ n4_ n5_ n6_ n7_; (try clear hb); (try clear hb2); (try clear hk); (try clear hi); (try clear ho0); have hcz33_0 : w32.cell? ⟨gb278, 0, none⟩ = some (.int .i64 t274) := (blk_cell BK278.out 0).trans rfl; have hcz33_1 : w32.cell? ⟨gb278, 1, none⟩ = some (.slice Ao31 t275.length co31) := (blk_cell BK278.out 1).trans rfl; have hfz33_0 := blk_frozen BK278.out 0; have hfz33_1 := blk_frozen BK278.out 1; obtain ⟨Ao34, co34, eo34⟩ := Kd.R_slice HO281.out; subst eo34) | ((with_reducible refine gate_callee (f := 16) rfl ?_); refine goesL_ (some 40) rfl rfl Try.func16 (by kernel_rfl) rfl #[.agg #[.int .i64 t274, .slice Ao31 t275.length co31], .slice Ao34 t279.length co34] rfl (by (try simp only [List.map_toArray, List.map_cons, List.map_nil]); first | done | rfl | (simp only [List.length_drop, List.length_take]; rfl)) ?_; (with_reducible refine (impl_PricesOf.calls k t274 _ _ t275 _ _ t279 t282 t285 _ ?side1 ?side2 ?side3 ?side4 A15.out).mono ?_); (case side1 => exact uC (Kd.R_reads' HO277.out).2.2); (case side2 => exact (Kd.R_reads' HO277.out).2.1); (case side3 => exact uC (Kd.R_reads' HO281.out).2.2); (case side4 => exact (Kd.R_reads' HO281.out).2.1); rintro e w35 ⟨v283, rfl, ho0, hb⟩; refine ⟨_, rfl, ?_⟩; have n0_ := Aside0.mk (Kd.R_below (uR HO266.out) hb); have n1_ := Aside0.mk (Kd.R_elder' (uR HO269.out) (Kd.R_base ho0) hb); have n2_ := Aside0.mk (Kd.R_elder' (uR HO272.out) (Kd.R_base ho0) hb); have n3_ := Aside0.mk (Kd.R_below (uR HO277.out) hb); have n4_ := Aside0.mk (Kd.R_elder' (uR HO281.out) (Kd.R_base ho0) hb); have n5_ := Aside0.mk (Kd.R_lower (Kd.R_new' (Kd.R_new' (Kd.R_new' ho0 (Kd.R_lt (uR HO269.out))) (Kd.R_lt (uR HO272.out))) (Kd.R_lt (uR HO281.out))) (below_size (by repeat (first | (with_reducible first | exact HB.out | apply below_alloc | apply pw_below_drewN | apply below_drew1 | refine below_set ?_ GE261.out | refine below_set ?_ GE278.out) | exact HB.out)))); have n6_ := Aside0.mk (blk_below (g := gb261) (o := .cells #[.int .i64 a0_0, .slice A0_1 l0_1.length c0_1] 24 (0, 0)) (by (with_reducible repeat (first | refine blk_drewN ?_ _ | refine blk_drew ?_ | refine blk_alloc ?_ _)); exact BK261.out) hb); have n7_ := Aside0.mk (blk_below (g := gb278) (o := .cells #[.int .i64 t274, .slice Ao31 t275.length co31] 30 (0, 0)) (by (with_reducible repeat (first | refine blk_drewN ?_ _ | refine blk_drew ?_ | refine blk_alloc ?_ _)); exact BK278.out) hb); have n8_ := Aside0.mk (below_step (by repeat (first | (with_reducible first | exact HB.out | apply below_alloc | apply pw_below_drewN | apply below_drew1 | refine below_set ?_ GE261.out | refine below_set ?_ GE278.out) | exact HB.out)) hb); clear HO266; clear HO269; clear HO272; clear HO277; clear HO281; clear BK261; clear BK278; clear HB; have HO266 := n0_; have HO269 := n1_; have HO272 := n2_; have HO277 := n3_; have HO281 := n4_; have HO284 := n5_; have BK261 := n6_; have BK278 := n7_; have HB := n8_; clear n0_ n1_ n2_ n3_ n4_ n5_ n6_ n7_ n8_; (try clear hb); (try clear hb2); (try clear hk); (try clear hi); (try clear ho0)))
   (try simp only [Act.put, List.setIfInBounds_toArray, List.set_cons_zero, List.set_cons_succ])
   go_cut [51] (fun v51 wc => ∃ (kq : Nat) (x51_15 : Bool), v51 = .bool x51_15 ∧ Aside0 (laws_FnExactPricesOf.j0 kq l1 t270 t273 t279 t282 t285 x51_15 a0_0 l0_1 t274 t275 = some r) ∧ Aside0 (kq ≤ k) ∧ Aside0 (Kd.R (Kd.int .i64) 3 wc w.heap.size (fun k_ => some k_ ≠ ((.slice Ao34 t279.length co34) : Value).ownBlock ∧ some k_ ≠ (v283 : Value).ownBlock) v271 t270) ∧ Aside0 (Kd.R (Kd.int .i64) 3 wc w.heap.size (fun k_ => some k_ ≠ (v271 : Value).ownBlock ∧ some k_ ≠ (v283 : Value).ownBlock) (.slice Ao34 t279.length co34) t279) ∧ Aside0 (Kd.R (Kd.int .i64) 3 wc w.heap.size (fun k_ => some k_ ≠ (v271 : Value).ownBlock ∧ some k_ ≠ ((.slice Ao34 t279.length co34) : Value).ownBlock) v283 t282) ∧ Aside0 (Kd.R k53 53 wc w.heap.size (fun _ => True) (.slice Ao31 t275.length co31) t275) ∧ Aside0 (wc.heap[gb261]? = some (.cells #[.int .i64 a0_0, (.slice A0_1 l0_1.length c0_1)] 24 (0, 0))) ∧ Aside0 (wc.heap[gb278]? = some (.cells #[.int .i64 t274, (.slice Ao31 t275.length co31)] 30 (0, 0))) ∧ Aside0 (Below w.heap.size w wc))
   case first =>
    have H := HC16.out
    clear HC16
    replace H := Option.bind_eq_some_iff.mp H
    obtain ⟨t286, A360, H⟩ := H
    replace H : (if t286 = true then (laws_FnExactPricesOf.j0 k l1 t270 t273 t279 t282 t285 (t285 != t273) a0_0 l0_1 t274 t275) else (laws_FnExactPricesOf.j0 k l1 t270 t273 t279 t282 t285 true a0_0 l0_1 t274 t275)) = some r := H
    have A36 := Aside0.mk A360
    clear A360
    by_cases c37 : t286 = true
    ·subst c37
     have H1 : (laws_FnExactPricesOf.j0 k l1 t270 t273 t279 t282 t285 (t285 != t273) a0_0 l0_1 t274 t275) = some r := by rw [if_pos rfl] at H; exact H
     clear H
     have H := H1
     clear H1
     have H' := Aside0.mk H
     clear H
     obtain ⟨Ao38, co38, eo38⟩ := Kd.R_slice HO284.out
     subst eo38
     obtain ⟨Ao39, co39, eo39⟩ := Kd.R_slice HO272.out
     subst eo39
     go_wp2_with (first | ((with_reducible refine gate_callee (f := 14) rfl ?_); refine goesL_ (some 45) rfl rfl Try.func14 (by kernel_rfl) rfl #[.slice Ao38 t282.length co38, .slice Ao39 t270.length co39] rfl (by (try simp only [List.map_toArray, List.map_cons, List.map_nil]); first | done | rfl | (simp only [List.length_drop, List.length_take]; rfl)) ?_; (with_reducible refine (laws_eqIntS.calls k _ _ t282 _ _ t270 true _ ?side1 ?side2 ?side3 ?side4 A36.out).mono ?_); (case side1 => exact uC (Kd.R_reads' HO284.out).2.2); (case side2 => exact (Kd.R_reads' HO284.out).2.1); (case side3 => exact uC (Kd.R_reads' HO272.out).2.2); (case side4 => exact (Kd.R_reads' HO272.out).2.1); rintro e w' ⟨rfl, ⟨nd, rfl⟩⟩; refine ⟨_, rfl, ?_⟩))
     go_meet
     case rel => exact ⟨_, ((t285 != t273)), (by first | rfl | (simp; done) | (simp [*]; done)), H', ⟨by first | omega | exact Nat.le_refl _⟩, ⟨by (with_reducible repeat (first | apply Kd.R_alloc | apply Kd.R_drewN | apply Kd.R_drew)); exact Kd.R_mono HO272.out (fun _ hk => ⟨hk.1.2, hk.2⟩)⟩, ⟨by (with_reducible repeat (first | apply Kd.R_alloc | apply Kd.R_drewN | apply Kd.R_drew)); exact Kd.R_mono HO281.out (fun _ hk => ⟨hk.1.2, hk.2⟩)⟩, ⟨by (with_reducible repeat (first | apply Kd.R_alloc | apply Kd.R_drewN | apply Kd.R_drew)); exact Kd.R_mono HO284.out (fun _ hk => ⟨hk.1.2, hk.2⟩)⟩, ⟨by (with_reducible repeat (first | apply Kd.R_alloc | apply Kd.R_drewN | apply Kd.R_drew)); exact Kd.R_mono HO277.out (fun _ hk => trivial)⟩, ⟨by (with_reducible repeat (first | refine blk_drewN ?_ _ | refine blk_drew ?_ | refine blk_alloc ?_ _)); exact BK261.out⟩, ⟨by (with_reducible repeat (first | refine blk_drewN ?_ _ | refine blk_drew ?_ | refine blk_alloc ?_ _)); exact BK278.out⟩, ⟨by repeat (first | (with_reducible first | exact HB.out | apply below_alloc | apply pw_below_drewN | apply below_drew1 | refine below_set ?_ GE261.out | refine below_set ?_ GE278.out) | exact HB.out)⟩⟩
    ·replace c37 := Bool.eq_false_iff.mpr c37
     subst c37
     have H1 : (laws_FnExactPricesOf.j0 k l1 t270 t273 t279 t282 t285 true a0_0 l0_1 t274 t275) = some r := by rw [if_neg (show ¬ (false = true) by decide)] at H; exact H
     clear H
     have H := H1
     clear H1
     have H' := Aside0.mk H
     clear H
     obtain ⟨Ao40, co40, eo40⟩ := Kd.R_slice HO284.out
     subst eo40
     obtain ⟨Ao41, co41, eo41⟩ := Kd.R_slice HO272.out
     subst eo41
     go_wp2_with (first | ((with_reducible refine gate_callee (f := 14) rfl ?_); refine goesL_ (some 45) rfl rfl Try.func14 (by kernel_rfl) rfl #[.slice Ao40 t282.length co40, .slice Ao41 t270.length co41] rfl (by (try simp only [List.map_toArray, List.map_cons, List.map_nil]); first | done | rfl | (simp only [List.length_drop, List.length_take]; rfl)) ?_; (with_reducible refine (laws_eqIntS.calls k _ _ t282 _ _ t270 false _ ?side1 ?side2 ?side3 ?side4 A36.out).mono ?_); (case side1 => exact uC (Kd.R_reads' HO284.out).2.2); (case side2 => exact (Kd.R_reads' HO284.out).2.1); (case side3 => exact uC (Kd.R_reads' HO272.out).2.2); (case side4 => exact (Kd.R_reads' HO272.out).2.1); rintro e w' ⟨rfl, ⟨nd, rfl⟩⟩; refine ⟨_, rfl, ?_⟩))
     go_meet
     case rel => exact ⟨_, (true), (by first | rfl | (simp; done) | (simp [*]; done)), H', ⟨by first | omega | exact Nat.le_refl _⟩, ⟨by (with_reducible repeat (first | apply Kd.R_alloc | apply Kd.R_drewN | apply Kd.R_drew)); exact Kd.R_mono HO272.out (fun _ hk => ⟨hk.1.2, hk.2⟩)⟩, ⟨by (with_reducible repeat (first | apply Kd.R_alloc | apply Kd.R_drewN | apply Kd.R_drew)); exact Kd.R_mono HO281.out (fun _ hk => ⟨hk.1.2, hk.2⟩)⟩, ⟨by (with_reducible repeat (first | apply Kd.R_alloc | apply Kd.R_drewN | apply Kd.R_drew)); exact Kd.R_mono HO284.out (fun _ hk => ⟨hk.1.2, hk.2⟩)⟩, ⟨by (with_reducible repeat (first | apply Kd.R_alloc | apply Kd.R_drewN | apply Kd.R_drew)); exact Kd.R_mono HO277.out (fun _ hk => trivial)⟩, ⟨by (with_reducible repeat (first | refine blk_drewN ?_ _ | refine blk_drew ?_ | refine blk_alloc ?_ _)); exact BK261.out⟩, ⟨by (with_reducible repeat (first | refine blk_drewN ?_ _ | refine blk_drew ?_ | refine blk_alloc ?_ _)); exact BK278.out⟩, ⟨by repeat (first | (with_reducible first | exact HB.out | apply below_alloc | apply pw_below_drewN | apply below_drew1 | refine below_set ?_ GE261.out | refine below_set ?_ GE278.out) | exact HB.out)⟩⟩
   case rest =>
    clear HC16
    try clear c1
    try clear c2
    try clear p2
    try clear c3
    try clear c3b0
    try clear c3b1
    try clear c4
    try clear c6
    try clear c6b0
    try clear c8
    try clear c10
    try clear c11
    try clear c14
    try clear c15
    try clear c16
    try clear c29
    try clear c37
    try clear hcz18_0
    try clear hcz18_1
    try clear hcz20_0
    try clear hcz20_1
    try clear hcz26_0
    try clear hcz26_1
    try clear hcz30_0
    try clear hcz30_1
    try clear hcz33_0
    try clear hcz33_1
    try clear hcz8_0
    try clear hcz8_1
    try clear hfz18_0
    try clear hfz18_1
    try clear hfz20_0
    try clear hfz20_1
    try clear hfz26_0
    try clear hfz26_1
    try clear hfz30_0
    try clear hfz30_1
    try clear hfz33_0
    try clear hfz33_1
    try clear hfz8_0
    try clear hfz8_1
    obtain ⟨kq, x51_15, rfl, HA, HJ15, HO_6, HO_9, HO_10, HO_279001, BK261, BK278, HB⟩ := hcut
    cases kq with
    | zero => exact absurd HA.out (by simp [laws_FnExactPricesOf.j0])
    | succ kj15 =>
     have H := HA.out
     clear HA
     simp only [laws_FnExactPricesOf.j0] at H
     by_cases c42 : x51_15 = true
     ·subst c42
      have H1 : (some false) = some r := by rw [if_pos rfl] at H; exact H
      clear H
      have H := H1
      clear H1
      exact absurd hr_ (by rw [← Option.some.inj H]; decide)
     ·replace c42 := Bool.eq_false_iff.mpr c42
      subst c42
      have H1 : ((laws_toNet.f kj15 a0_0 l0_1).bind fun bt287 => ((laws_eqNet.f kj15 t274 t275 bt287.1 bt287.2).bind fun t291 => (if t291 = true then ((laws_toIntS.f kj15 l1).bind fun t292 => ((laws_eqIntS.f kj15 t279 t292).bind fun t295 => (if t295 = true then ((laws_markNet.f kj15 t274 t275 1).bind fun bt296 => ((laws_markIntS.f kj15 t279 bt296.1).bind fun bt298 => (if bt298.1 < 0 then (laws_FnExactPricesOf.j1 kj15 l1 t270 t273 t282 true a0_0 l0_1) else ((laws_eqIntS.f kj15 t282 t270).bind fun t300 => (if t300 = true then (laws_FnExactPricesOf.j1 kj15 l1 t270 t273 t282 (t285 != t273) a0_0 l0_1) else (laws_FnExactPricesOf.j1 kj15 l1 t270 t273 t282 true a0_0 l0_1)))))) else (some false)))) else (some false)))) = some r := by rw [if_neg (show ¬ (false = true) by decide)] at H; exact H
      clear H
      have H := H1
      clear H1
      replace H := Option.bind_eq_some_iff.mp H
      obtain ⟨⟨t287, t288⟩, A430, H⟩ := H
      replace H : ((laws_eqNet.f kj15 t274 t275 t287 t288).bind fun t291 => (if t291 = true then ((laws_toIntS.f kj15 l1).bind fun t292 => ((laws_eqIntS.f kj15 t279 t292).bind fun t295 => (if t295 = true then ((laws_markNet.f kj15 t274 t275 1).bind fun bt296 => ((laws_markIntS.f kj15 t279 bt296.1).bind fun bt298 => (if bt298.1 < 0 then (laws_FnExactPricesOf.j1 kj15 l1 t270 t273 t282 true a0_0 l0_1) else ((laws_eqIntS.f kj15 t282 t270).bind fun t300 => (if t300 = true then (laws_FnExactPricesOf.j1 kj15 l1 t270 t273 t282 (t285 != t273) a0_0 l0_1) else (laws_FnExactPricesOf.j1 kj15 l1 t270 t273 t282 true a0_0 l0_1)))))) else (some false)))) else (some false))) = some r := H
      have A43 := Aside0.mk A430
      clear A430
      replace H := Option.bind_eq_some_iff.mp H
      obtain ⟨t291, A440, H⟩ := H
      replace H : (if t291 = true then ((laws_toIntS.f kj15 l1).bind fun t292 => ((laws_eqIntS.f kj15 t279 t292).bind fun t295 => (if t295 = true then ((laws_markNet.f kj15 t274 t275 1).bind fun bt296 => ((laws_markIntS.f kj15 t279 bt296.1).bind fun bt298 => (if bt298.1 < 0 then (laws_FnExactPricesOf.j1 kj15 l1 t270 t273 t282 true a0_0 l0_1) else ((laws_eqIntS.f kj15 t282 t270).bind fun t300 => (if t300 = true then (laws_FnExactPricesOf.j1 kj15 l1 t270 t273 t282 (t285 != t273) a0_0 l0_1) else (laws_FnExactPricesOf.j1 kj15 l1 t270 t273 t282 true a0_0 l0_1)))))) else (some false)))) else (some false)) = some r := H
      have A44 := Aside0.mk A440
      clear A440
      by_cases c45 : t291 = true
      ·subst c45
       have H1 : ((laws_toIntS.f kj15 l1).bind fun t292 => ((laws_eqIntS.f kj15 t279 t292).bind fun t295 => (if t295 = true then ((laws_markNet.f kj15 t274 t275 1).bind fun bt296 => ((laws_markIntS.f kj15 t279 bt296.1).bind fun bt298 => (if bt298.1 < 0 then (laws_FnExactPricesOf.j1 kj15 l1 t270 t273 t282 true a0_0 l0_1) else ((laws_eqIntS.f kj15 t282 t270).bind fun t300 => (if t300 = true then (laws_FnExactPricesOf.j1 kj15 l1 t270 t273 t282 (t285 != t273) a0_0 l0_1) else (laws_FnExactPricesOf.j1 kj15 l1 t270 t273 t282 true a0_0 l0_1)))))) else (some false)))) = some r := by rw [if_pos rfl] at H; exact H
       clear H
       have H := H1
       clear H1
       replace H := Option.bind_eq_some_iff.mp H
       obtain ⟨t292, A460, H⟩ := H
       replace H : ((laws_eqIntS.f kj15 t279 t292).bind fun t295 => (if t295 = true then ((laws_markNet.f kj15 t274 t275 1).bind fun bt296 => ((laws_markIntS.f kj15 t279 bt296.1).bind fun bt298 => (if bt298.1 < 0 then (laws_FnExactPricesOf.j1 kj15 l1 t270 t273 t282 true a0_0 l0_1) else ((laws_eqIntS.f kj15 t282 t270).bind fun t300 => (if t300 = true then (laws_FnExactPricesOf.j1 kj15 l1 t270 t273 t282 (t285 != t273) a0_0 l0_1) else (laws_FnExactPricesOf.j1 kj15 l1 t270 t273 t282 true a0_0 l0_1)))))) else (some false))) = some r := H
       have A46 := Aside0.mk A460
       clear A460
       replace H := Option.bind_eq_some_iff.mp H
       obtain ⟨t295, A470, H⟩ := H
       replace H : (if t295 = true then ((laws_markNet.f kj15 t274 t275 1).bind fun bt296 => ((laws_markIntS.f kj15 t279 bt296.1).bind fun bt298 => (if bt298.1 < 0 then (laws_FnExactPricesOf.j1 kj15 l1 t270 t273 t282 true a0_0 l0_1) else ((laws_eqIntS.f kj15 t282 t270).bind fun t300 => (if t300 = true then (laws_FnExactPricesOf.j1 kj15 l1 t270 t273 t282 (t285 != t273) a0_0 l0_1) else (laws_FnExactPricesOf.j1 kj15 l1 t270 t273 t282 true a0_0 l0_1)))))) else (some false)) = some r := H
       have A47 := Aside0.mk A470
       clear A470
       by_cases c48 : t295 = true
       ·subst c48
        have H1 : ((laws_markNet.f kj15 t274 t275 1).bind fun bt296 => ((laws_markIntS.f kj15 t279 bt296.1).bind fun bt298 => (if bt298.1 < 0 then (laws_FnExactPricesOf.j1 kj15 l1 t270 t273 t282 true a0_0 l0_1) else ((laws_eqIntS.f kj15 t282 t270).bind fun t300 => (if t300 = true then (laws_FnExactPricesOf.j1 kj15 l1 t270 t273 t282 (t285 != t273) a0_0 l0_1) else (laws_FnExactPricesOf.j1 kj15 l1 t270 t273 t282 true a0_0 l0_1)))))) = some r := by rw [if_pos rfl] at H; exact H
        clear H
        have H := H1
        clear H1
        replace H := Option.bind_eq_some_iff.mp H
        obtain ⟨⟨t296, t297⟩, A490, H⟩ := H
        replace H : ((laws_markIntS.f kj15 t279 t296).bind fun bt298 => (if bt298.1 < 0 then (laws_FnExactPricesOf.j1 kj15 l1 t270 t273 t282 true a0_0 l0_1) else ((laws_eqIntS.f kj15 t282 t270).bind fun t300 => (if t300 = true then (laws_FnExactPricesOf.j1 kj15 l1 t270 t273 t282 (t285 != t273) a0_0 l0_1) else (laws_FnExactPricesOf.j1 kj15 l1 t270 t273 t282 true a0_0 l0_1))))) = some r := H
        have A49 := Aside0.mk A490
        clear A490
        replace H := Option.bind_eq_some_iff.mp H
        obtain ⟨⟨t298, t299⟩, A500, H⟩ := H
        replace H : (if t298 < 0 then (laws_FnExactPricesOf.j1 kj15 l1 t270 t273 t282 true a0_0 l0_1) else ((laws_eqIntS.f kj15 t282 t270).bind fun t300 => (if t300 = true then (laws_FnExactPricesOf.j1 kj15 l1 t270 t273 t282 (t285 != t273) a0_0 l0_1) else (laws_FnExactPricesOf.j1 kj15 l1 t270 t273 t282 true a0_0 l0_1)))) = some r := H
        have A50 := Aside0.mk A500
        clear A500
        have HC51 := Aside0.mk H
        clear H
        try go_wp2
        have n0_ := Aside0.mk (Kd.R_drew HO_6.out)
        have n1_ := Aside0.mk (Kd.R_drew HO_9.out)
        have n2_ := Aside0.mk (Kd.R_drew HO_10.out)
        have n3_ := Aside0.mk (Kd.R_drew HO_279001.out)
        have n4_ := Aside0.mk (blk_drew BK261.out)
        have n5_ := Aside0.mk (blk_drew BK278.out)
        have n6_ := Aside0.mk (below_drew1 HB.out)
        clear HO_6
        clear HO_9
        clear HO_10
        clear HO_279001
        clear BK261
        clear BK278
        clear HB
        have HO_6 := n0_
        have HO_9 := n1_
        have HO_10 := n2_
        have HO_279001 := n3_
        have BK261 := n4_
        have BK278 := n5_
        have HB := n6_
        clear n0_ n1_ n2_ n3_ n4_ n5_ n6_
        refine start_ (n := 5) (S := fun w' => w'.cell? ⟨gb278, 0, none⟩ = some (.int .i64 t274) ∧ w'.cell? ⟨gb278, 1, none⟩ = some (.slice Ao31 t275.length co31) ∧ w'.cell? ⟨gb261, 0, none⟩ = some (.int .i64 a0_0) ∧ w'.cell? ⟨gb261, 1, none⟩ = some (.slice A0_1 l0_1.length c0_1)) (ds := []) #[false, false, false, false, false] (by kernel_rfl) rfl rfl ⟨(blk_cell BK278.out 0).trans rfl, (blk_cell BK278.out 1).trans rfl, (blk_cell BK261.out 0).trans rfl, (blk_cell BK261.out 1).trans rfl⟩ (fun hHeld => ?_)
        generalize wc.drew = w52 at HO_6 HO_9 HO_10 HO_279001 BK261 BK278 HB hHeld ⊢
        refine take_ (i := 0) (N := some 52) (v := ?_) (a' := ?_) #[true, false, false, false, false] rfl rfl (by kernel_rfl) (fun _ _ _ h => h) (Or.inl ⟨by rfl, ?_⟩) hHeld ?_ ?_
        rotate_left
        ·rintro w' ⟨s0, s1, s2, s3⟩
         go_simp
         with_reducible rfl
        rotate_left
        ·simp only [Act.put, List.setIfInBounds_toArray, List.set_cons_zero, List.set_cons_succ, i64_w, i32_w]
         rfl
        refine take_ (i := 1) (N := some 53) (v := ?_) (a' := ?_) #[true, true, false, false, false] rfl rfl (by kernel_rfl) (fun _ _ _ h => h) (Or.inl ⟨by rfl, ?_⟩) hHeld ?_ ?_
        rotate_left
        ·rintro w' ⟨s0, s1, s2, s3⟩
         go_simp
         with_reducible rfl
        rotate_left
        ·simp only [Act.put, List.setIfInBounds_toArray, List.set_cons_zero, List.set_cons_succ, i64_w, i32_w]
         rfl
        refine one_ (i := 2) (N := some 54) #[true, true, true, false, false] rfl rfl (by kernel_rfl) (by decide) (fun K hK => ?_)
        refine goes_ Try.func10 (by kernel_rfl) rfl #[.agg #[.int .i64 a0_0, .slice A0_1 l0_1.length c0_1]] (by rfl) rfl rfl (by (try simp only [List.map_toArray, List.map_cons, List.map_nil]); first | done | rfl | (simp only [List.length_drop, List.length_take]; rfl)) ?_
        with_reducible refine (laws_toNet.calls kj15 a0_0 _ _ l0_1 t287 t288 _ ?side1 ?side2 A43.out).mono ?_
        (case side1 => repeat (first | exact (Kd.C_below HR0_1.out HB.out) | (with_reducible refine Kd.C_alloc ?_ _) | (with_reducible refine Kd.C_drewN ?_ _) | (with_reducible refine Kd.C_drew ?_)))
        (case side2 => exact HC0_1.out)
        rintro e w53 ⟨v289, rfl, ho0, hb⟩
        refine ⟨_, rfl, ?_⟩
        have n0_ := Aside0.mk (Kd.R_below (uR HO_6.out) hb)
        have n1_ := Aside0.mk (Kd.R_below (uR HO_9.out) hb)
        have n2_ := Aside0.mk (Kd.R_below (uR HO_10.out) hb)
        have n3_ := Aside0.mk (Kd.R_elder' (uR HO_279001.out) (Kd.R_base ho0) hb)
        have n4_ := Aside0.mk (Kd.R_lower (Kd.R_new' ho0 (Kd.R_lt (uR HO_279001.out))) (below_size (by repeat (first | (with_reducible first | exact HB.out | apply below_alloc | apply pw_below_drewN | apply below_drew1 | refine below_set ?_ GE261.out | refine below_set ?_ GE278.out) | exact HB.out))))
        have n5_ := Aside0.mk (blk_below (g := gb261) (o := .cells #[.int .i64 a0_0, .slice A0_1 l0_1.length c0_1] 24 (0, 0)) (by (with_reducible repeat (first | refine blk_drewN ?_ _ | refine blk_drew ?_ | refine blk_alloc ?_ _)); exact BK261.out) hb)
        have n6_ := Aside0.mk (blk_below (g := gb278) (o := .cells #[.int .i64 t274, .slice Ao31 t275.length co31] 30 (0, 0)) (by (with_reducible repeat (first | refine blk_drewN ?_ _ | refine blk_drew ?_ | refine blk_alloc ?_ _)); exact BK278.out) hb)
        have n7_ := Aside0.mk (below_step (by repeat (first | (with_reducible first | exact HB.out | apply below_alloc | apply pw_below_drewN | apply below_drew1 | refine below_set ?_ GE261.out | refine below_set ?_ GE278.out) | exact HB.out)) hb)
        clear HO_6
        clear HO_9
        clear HO_10
        clear HO_279001
        clear BK261
        clear BK278
        clear HB
        have HO_6 := n0_
        have HO_9 := n1_
        have HO_10 := n2_
        have HO_279001 := n3_
        have HO290 := n4_
        have BK261 := n5_
        have BK278 := n6_
        have HB := n7_
        clear n0_ n1_ n2_ n3_ n4_ n5_ n6_ n7_
        (try clear hb)
        (try clear hb2)
        (try clear hk)
        (try clear hi)
        (try clear ho0)
        obtain ⟨Ao54, co54, eo54⟩ := Kd.R_slice HO290.out
        (first | subst eo54 | (injection eo54 with f1_ f2_ f3_; have f4_ := f1_.symm; have f5_ := f3_.symm; clear f1_ f2_ f3_; subst f4_; subst f5_))
        refine hK.out _ _ ⟨(blk_cell BK278.out 0).trans rfl, (blk_cell BK278.out 1).trans rfl, (blk_cell BK261.out 0).trans rfl, (blk_cell BK261.out 1).trans rfl⟩ (fun hHeld => ?_)
        clear hK K
        refine norm_ (a' := ?_) ?_ ?_
        rotate_left
        ·show Act.put _ (some 54) _ = _
         simp only [Act.put, List.setIfInBounds_toArray, List.set_cons_zero, List.set_cons_succ, i64_w, i32_w]
         rfl
        refine one_ (i := 3) (N := some 55) #[true, true, true, true, false] rfl rfl (by kernel_rfl) (by decide) (fun K hK => ?_)
        refine goes_ Try.func13 (by kernel_rfl) rfl #[.agg #[.int .i64 t274, .slice Ao31 t275.length co31], .agg #[.int .i64 t287, .slice Ao54 t288.length co54]] (by rfl) rfl rfl (by (try simp only [List.map_toArray, List.map_cons, List.map_nil]); first | done | rfl | (simp only [List.length_drop, List.length_take]; rfl)) ?_
        with_reducible refine (laws_eqNet.calls kj15 t274 _ _ t275 t287 _ _ t288 true _ ?side1 ?side2 ?side3 ?side4 A44.out).mono ?_
        (case side1 => exact uC (Kd.R_reads' HO_279001.out).2.2)
        (case side2 => exact (Kd.R_reads' HO_279001.out).2.1)
        (case side3 => exact uC (Kd.R_reads' HO290.out).2.2)
        (case side4 => exact (Kd.R_reads' HO290.out).2.1)
        rintro e w55 ⟨rfl, hb⟩
        refine ⟨_, rfl, ?_⟩
        have n0_ := Aside0.mk (Kd.R_below (uR HO_6.out) hb)
        have n1_ := Aside0.mk (Kd.R_below (uR HO_9.out) hb)
        have n2_ := Aside0.mk (Kd.R_below (uR HO_10.out) hb)
        have n3_ := Aside0.mk (Kd.R_below (uR HO_279001.out) hb)
        have n4_ := Aside0.mk (Kd.R_below (uR HO290.out) hb)
        have n5_ := Aside0.mk (blk_below (g := gb261) (o := .cells #[.int .i64 a0_0, .slice A0_1 l0_1.length c0_1] 24 (0, 0)) (by (with_reducible repeat (first | refine blk_drewN ?_ _ | refine blk_drew ?_ | refine blk_alloc ?_ _)); exact BK261.out) hb)
        have n6_ := Aside0.mk (blk_below (g := gb278) (o := .cells #[.int .i64 t274, .slice Ao31 t275.length co31] 30 (0, 0)) (by (with_reducible repeat (first | refine blk_drewN ?_ _ | refine blk_drew ?_ | refine blk_alloc ?_ _)); exact BK278.out) hb)
        have n7_ := Aside0.mk (below_step (by repeat (first | (with_reducible first | exact HB.out | apply below_alloc | apply pw_below_drewN | apply below_drew1 | refine below_set ?_ GE261.out | refine below_set ?_ GE278.out) | exact HB.out)) hb)
        clear HO_6
        clear HO_9
        clear HO_10
        clear HO_279001
        clear HO290
        clear BK261
        clear BK278
        clear HB
        have HO_6 := n0_
        have HO_9 := n1_
        have HO_10 := n2_
        have HO_279001 := n3_
        have HO290 := n4_
        have BK261 := n5_
        have BK278 := n6_
        have HB := n7_
        clear n0_ n1_ n2_ n3_ n4_ n5_ n6_ n7_
        (try clear hb)
        (try clear hb2)
        (try clear hk)
        (try clear hi)
        refine hK.out _ _ ⟨(blk_cell BK278.out 0).trans rfl, (blk_cell BK278.out 1).trans rfl, (blk_cell BK261.out 0).trans rfl, (blk_cell BK261.out 1).trans rfl⟩ (fun hHeld => ?_)
        clear hK K
        refine norm_ (a' := ?_) ?_ ?_
        rotate_left
        ·show Act.put _ (some 55) _ = _
         simp only [Act.put, List.setIfInBounds_toArray, List.set_cons_zero, List.set_cons_succ, i64_w, i32_w]
         rfl
        refine pure_ (i := 4) (N := some 56) (v := ?_) (a' := ?_) #[true, true, true, true, true] rfl rfl (by kernel_rfl) (fun _ _ _ h => h) (Or.inl ⟨by rfl, ?_⟩) ?_ ?_
        rotate_left
        ·intro w'
         go_simp
         with_reducible rfl
        rotate_left
        ·simp only [Act.put, List.setIfInBounds_toArray, List.set_cons_zero, List.set_cons_succ, i64_w, i32_w]
         rfl
        refine done_ (by kernel_rfl) ?_
        go_upto_region 20 with (first | ((with_reducible refine gate_callee (f := 11) rfl ?_); refine goesL_ (some 59) rfl rfl Try.func11 (by kernel_rfl) rfl #[.slice A1 l1.length c1] rfl (by (try simp only [List.map_toArray, List.map_cons, List.map_nil]); first | done | rfl | (simp only [List.length_drop, List.length_take]; rfl)) ?_; (with_reducible refine (laws_toIntS.calls kj15 _ _ l1 t292 _ ?side1 ?side2 A46.out).mono ?_); (case side1 => repeat (first | exact (Kd.C_below HR1.out HB.out) | (with_reducible refine Kd.C_alloc ?_ _) | (with_reducible refine Kd.C_drewN ?_ _) | (with_reducible refine Kd.C_drew ?_))); (case side2 => exact HC1.out); rintro e w56 ⟨v293, rfl, ho0, hb⟩; refine ⟨_, rfl, ?_⟩; have n0_ := Aside0.mk (Kd.R_elder' (uR HO_6.out) (Kd.R_base ho0) hb); have n1_ := Aside0.mk (Kd.R_elder' (uR HO_9.out) (Kd.R_base ho0) hb); have n2_ := Aside0.mk (Kd.R_elder' (uR HO_10.out) (Kd.R_base ho0) hb); have n3_ := Aside0.mk (Kd.R_below (uR HO_279001.out) hb); have n4_ := Aside0.mk (Kd.R_below (uR HO290.out) hb); have n5_ := Aside0.mk (Kd.R_lower (Kd.R_new' (Kd.R_new' (Kd.R_new' ho0 (Kd.R_lt (uR HO_6.out))) (Kd.R_lt (uR HO_9.out))) (Kd.R_lt (uR HO_10.out))) (below_size (by repeat (first | (with_reducible first | exact HB.out | apply below_alloc | apply pw_below_drewN | apply below_drew1 | refine below_set ?_ GE261.out | refine below_set ?_ GE278.out) | exact HB.out)))); have n6_ := Aside0.mk (blk_below (g := gb261) (o := .cells #[.int .i64 a0_0, .slice A0_1 l0_1.length c0_1] 24 (0, 0)) (by (with_reducible repeat (first | refine blk_drewN ?_ _ | refine blk_drew ?_ | refine blk_alloc ?_ _)); exact BK261.out) hb); have n7_ := Aside0.mk (blk_below (g := gb278) (o := .cells #[.int .i64 t274, .slice Ao31 t275.length co31] 30 (0, 0)) (by (with_reducible repeat (first | refine blk_drewN ?_ _ | refine blk_drew ?_ | refine blk_alloc ?_ _)); exact BK278.out) hb); have n8_ := Aside0.mk (below_step (by repeat (first | (with_reducible first | exact HB.out | apply below_alloc | apply pw_below_drewN | apply below_drew1 | refine below_set ?_ GE261.out | refine below_set ?_ GE278.out) | exact HB.out)) hb); clear HO_6; clear HO_9; clear HO_10; clear HO_279001; clear HO290; clear BK261; clear BK278; clear HB; have HO_6 := n0_; have HO_9 := n1_; have HO_10 := n2_; have HO_279001 := n3_; have HO290 := n4_; have HO294 := n5_; have BK261 := n6_; have BK278 := n7_; have HB := n8_; clear n0_ n1_ n2_ n3_ n4_ n5_ n6_ n7_ n8_; (try clear hb); (try clear hb2); (try clear hk); (try clear hi); (try clear ho0); obtain ⟨Ao57, co57, eo57⟩ := Kd.R_slice HO294.out; subst eo57) | ((with_reducible refine gate_callee (f := 14) rfl ?_); refine goesL_ (some 60) rfl rfl Try.func14 (by kernel_rfl) rfl #[.slice Ao34 t279.length co34, .slice Ao57 t292.length co57] rfl (by (try simp only [List.map_toArray, List.map_cons, List.map_nil]); first | done | rfl | (simp only [List.length_drop, List.length_take]; rfl)) ?_; (with_reducible refine (laws_eqIntS.calls kj15 _ _ t279 _ _ t292 true _ ?side1 ?side2 ?side3 ?side4 A47.out).mono ?_); (case side1 => exact uC (Kd.R_reads' HO_9.out).2.2); (case side2 => exact (Kd.R_reads' HO_9.out).2.1); (case side3 => exact uC (Kd.R_reads' HO294.out).2.2); (case side4 => exact (Kd.R_reads' HO294.out).2.1); rintro e w' ⟨rfl, ⟨nd, rfl⟩⟩; refine ⟨_, rfl, ?_⟩; have hnb58 := NB278_261.out; have hnc58 := NB261_278.out; have hcz59_0 : w56.cell? ⟨gb278, 0, none⟩ = some (.int .i64 t274) := (blk_cell BK278.out 0).trans rfl; have hcz59_1 : w56.cell? ⟨gb278, 1, none⟩ = some (.slice Ao31 t275.length co31) := (blk_cell BK278.out 1).trans rfl; have hfz59_0 := blk_frozen BK278.out 0; have hfz59_1 := blk_frozen BK278.out 1) | ((with_reducible refine gate_callee (f := 17) rfl ?_); refine goesL_ (some 64) rfl rfl Try.func17 (by kernel_rfl) rfl #[.agg #[.int .i64 t274, .slice Ao31 t275.length co31], .int .i64 1] rfl (by (try simp only [List.map_toArray, List.map_cons, List.map_nil]); first | done | rfl | (simp only [List.length_drop, List.length_take]; rfl)) ?_; (with_reducible refine (laws_markNet.calls kj15 t274 (fun k_ => some k_ = (.slice Ao31 t275.length co31 : Value).ownBlock) (.slice Ao31 t275.length co31) t275 1 t296 t297 w _ ?side1 ?side2 A49.out).mono ?_); (case side1 => repeat (first | (with_reducible first | exact HB.out | apply below_alloc | apply pw_below_drewN | apply below_drew1 | refine below_set ?_ GE261.out | refine below_set ?_ GE278.out) | exact HB.out)); (case side2 => exact Kd.R_tight rfl HO_279001.out); rintro e w60 ⟨rfl, hy0, hb, hkp⟩; refine ⟨_, rfl, ?_⟩; have n0_ := Aside0.mk (Kd.R_mono (ok' := fun k_ => some k_ ≠ (.slice Ao34 t279.length co34 : Value).ownBlock ∧ some k_ ≠ (v283 : Value).ownBlock ∧ some k_ ≠ (.slice Ao57 t292.length co57 : Value).ownBlock) (Kd.R_keptB ((Kd.R_apart' HO_6.out (Kd.R_typed HO_279001.out) (by decide))) hkp (fun k_ hk_ hs_ => (hk_.2) hs_)) (fun k_ hk_ => ⟨hk_.1.1.1.1, hk_.1.1.1.2, hk_.1.1.2⟩)); have n1_ := Aside0.mk (Kd.R_mono (ok' := fun k_ => some k_ ≠ (v271 : Value).ownBlock ∧ some k_ ≠ (v283 : Value).ownBlock ∧ some k_ ≠ (.slice Ao57 t292.length co57 : Value).ownBlock) (Kd.R_keptB ((Kd.R_apart' HO_9.out (Kd.R_typed HO_279001.out) (by decide))) hkp (fun k_ hk_ hs_ => (hk_.2) hs_)) (fun k_ hk_ => ⟨hk_.1.1.1.1, hk_.1.1.1.2, hk_.1.1.2⟩)); have n2_ := Aside0.mk (Kd.R_mono (ok' := fun k_ => some k_ ≠ (v271 : Value).ownBlock ∧ some k_ ≠ (.slice Ao34 t279.length co34 : Value).ownBlock ∧ some k_ ≠ (.slice Ao57 t292.length co57 : Value).ownBlock) (Kd.R_keptB ((Kd.R_apart' HO_10.out (Kd.R_typed HO_279001.out) (by decide))) hkp (fun k_ hk_ hs_ => (hk_.2) hs_)) (fun k_ hk_ => ⟨hk_.1.1.1.1, hk_.1.1.1.2, hk_.1.1.2⟩)); have n3_ := Aside0.mk (Kd.R_reok rfl hy0 (fun k_ e_ => HO_279001.out.1 k_ e_)); have n4_ := Aside0.mk (blk_kept (by (with_reducible repeat (first | refine blk_drewN ?_ _ | refine blk_drew ?_ | refine blk_alloc ?_ _)); exact BK261.out) hkp (fun hs_ => (fun e_ => (Kd.R_ne HO_279001.out BK261.out (by decide)) e_) hs_)); have n5_ := Aside0.mk (blk_kept (by (with_reducible repeat (first | refine blk_drewN ?_ _ | refine blk_drew ?_ | refine blk_alloc ?_ _)); exact BK278.out) hkp (fun hs_ => (fun e_ => (Kd.R_ne HO_279001.out BK278.out (by decide)) e_) hs_)); have n6_ := Aside0.mk (Kd.R_mono (ok' := fun k_ => some k_ ≠ (.slice Ao31 t275.length co31 : Value).ownBlock) (Kd.R_keptB (HO290.out) hkp (fun k_ hk_ hs_ => (hk_.2) hs_)) (fun k_ hk_ => hk_.1.2)); have n7_ := Aside0.mk (Kd.R_mono (ok' := fun k_ => some k_ ≠ (v271 : Value).ownBlock ∧ some k_ ≠ (.slice Ao34 t279.length co34 : Value).ownBlock ∧ some k_ ≠ (v283 : Value).ownBlock) (Kd.R_keptB ((Kd.R_apart' HO294.out (Kd.R_typed HO_279001.out) (by decide))) hkp (fun k_ hk_ hs_ => (hk_.2) hs_)) (fun k_ hk_ => ⟨hk_.1.1.1.1.2, hk_.1.1.1.2, hk_.1.1.2⟩)); have n8_ := Aside0.mk (hb); clear HO_6; clear HO_9; clear HO_10; clear HO_279001; clear BK261; clear BK278; clear HO290; clear HO294; clear HB; have HO_6 := n0_; have HO_9 := n1_; have HO_10 := n2_; have HO_279001 := n3_; have BK261 := n4_; have BK278 := n5_; have HO290 := n6_; have HO294 := n7_; have HB := n8_; clear n0_ n1_ n2_ n3_ n4_ n5_ n6_ n7_ n8_; (try clear hb); (try clear hkp); (try clear hy0)) | ((with_reducible refine gate_callee (f := 18) rfl ?_); refine goesL_ (some 67) rfl rfl Try.func18 (by kernel_rfl) rfl #[.slice Ao34 t279.length co34, .int .i64 t296] rfl (by (try simp only [List.map_toArray, List.map_cons, List.map_nil]); first | done | rfl | (simp only [List.length_drop, List.length_take]; rfl)) ?_; (with_reducible refine (laws_markIntS.calls kj15 (fun k_ => some k_ = (.slice Ao34 t279.length co34 : Value).ownBlock) (.slice Ao34 t279.length co34) t279 t296 t298 t299 w _ ?side1 ?side2 A50.out).mono ?_); (case side1 => repeat (first | (with_reducible first | exact HB.out | apply below_alloc | apply pw_below_drewN | apply below_drew1 | refine below_set ?_ GE261.out | refine below_set ?_ GE278.out) | exact HB.out)); (case side2 => exact Kd.R_tight rfl HO_9.out); rintro e w61 ⟨rfl, hy0, hb, hkp⟩; refine ⟨_, rfl, ?_⟩; have n0_ := Aside0.mk (Kd.R_mono (ok' := fun k_ => some k_ ≠ (.slice Ao34 t279.length co34 : Value).ownBlock ∧ some k_ ≠ (v283 : Value).ownBlock ∧ some k_ ≠ (.slice Ao57 t292.length co57 : Value).ownBlock) (Kd.R_keptB (HO_6.out) hkp (fun k_ hk_ hs_ => (hk_.1) hs_)) (fun k_ hk_ => ⟨hk_.1.1, hk_.1.2.1, hk_.1.2.2⟩)); have n1_ := Aside0.mk (Kd.R_reok rfl hy0 (fun k_ e_ => HO_9.out.1 k_ e_)); have n2_ := Aside0.mk (Kd.R_mono (ok' := fun k_ => some k_ ≠ (v271 : Value).ownBlock ∧ some k_ ≠ (.slice Ao34 t279.length co34 : Value).ownBlock ∧ some k_ ≠ (.slice Ao57 t292.length co57 : Value).ownBlock) (Kd.R_keptB (HO_10.out) hkp (fun k_ hk_ hs_ => (hk_.2.1) hs_)) (fun k_ hk_ => ⟨hk_.1.1, hk_.1.2.1, hk_.1.2.2⟩)); have n3_ := Aside0.mk (Kd.R_mono (ok' := fun k_ => some k_ ≠ (.slice Ao54 t288.length co54 : Value).ownBlock) (Kd.R_keptB ((Kd.R_apart' HO_279001.out (Kd.R_typed HO_9.out) (by decide))) hkp (fun k_ hk_ hs_ => (hk_.2) hs_)) (fun k_ hk_ => hk_.1.1.2)); have n4_ := Aside0.mk (blk_kept (by (with_reducible repeat (first | refine blk_drewN ?_ _ | refine blk_drew ?_ | refine blk_alloc ?_ _)); exact BK261.out) hkp (fun hs_ => (fun e_ => (Kd.R_ne HO_9.out BK261.out (by decide)) e_) hs_)); have n5_ := Aside0.mk (blk_kept (by (with_reducible repeat (first | refine blk_drewN ?_ _ | refine blk_drew ?_ | refine blk_alloc ?_ _)); exact BK278.out) hkp (fun hs_ => (fun e_ => (Kd.R_ne HO_9.out BK278.out (by decide)) e_) hs_)); have n6_ := Aside0.mk (Kd.R_mono (ok' := fun k_ => some k_ ≠ (.slice Ao31 t275.length co31 : Value).ownBlock) (Kd.R_keptB ((Kd.R_apart' HO290.out (Kd.R_typed HO_9.out) (by decide))) hkp (fun k_ hk_ hs_ => (hk_.2) hs_)) (fun k_ hk_ => hk_.1.1)); have n7_ := Aside0.mk (Kd.R_mono (ok' := fun k_ => some k_ ≠ (v271 : Value).ownBlock ∧ some k_ ≠ (.slice Ao34 t279.length co34 : Value).ownBlock ∧ some k_ ≠ (v283 : Value).ownBlock) (Kd.R_keptB (HO294.out) hkp (fun k_ hk_ hs_ => (hk_.2.1) hs_)) (fun k_ hk_ => ⟨hk_.1.1, hk_.1.2.1, hk_.1.2.2⟩)); have n8_ := Aside0.mk (hb); clear HO_6; clear HO_9; clear HO_10; clear HO_279001; clear BK261; clear BK278; clear HO290; clear HO294; clear HB; have HO_6 := n0_; have HO_9 := n1_; have HO_10 := n2_; have HO_279001 := n3_; have BK261 := n4_; have BK278 := n5_; have HO290 := n6_; have HO294 := n7_; have HB := n8_; clear n0_ n1_ n2_ n3_ n4_ n5_ n6_ n7_ n8_; (try clear hb); (try clear hkp); (try clear hy0)))
        (try simp only [Act.put, List.setIfInBounds_toArray, List.set_cons_zero, List.set_cons_succ])
        go_cut [80] (fun v80 wc => ∃ (kq : Nat) (x80_50 : Bool), v80 = .bool x80_50 ∧ Aside0 (laws_FnExactPricesOf.j1 kq l1 t270 t273 t282 x80_50 a0_0 l0_1 = some r) ∧ Aside0 (kq ≤ kj15) ∧ Aside0 (Kd.R (Kd.int .i64) 3 wc w.heap.size (fun k_ => some k_ ≠ (v283 : Value).ownBlock) v271 t270) ∧ Aside0 (Kd.R (Kd.int .i64) 3 wc w.heap.size (fun k_ => some k_ ≠ (v271 : Value).ownBlock) v283 t282) ∧ Aside0 (Kd.R k53 53 wc w.heap.size (fun _ => True) (.slice Ao31 t275.length co31) t297) ∧ Aside0 (wc.heap[gb261]? = some (.cells #[.int .i64 a0_0, (.slice A0_1 l0_1.length c0_1)] 24 (0, 0))) ∧ Aside0 (wc.heap[gb278]? = some (.cells #[.int .i64 t274, (.slice Ao31 t275.length co31)] 30 (0, 0))) ∧ Aside0 (Below w.heap.size w wc))
        case first =>
         have H := HC51.out
         clear HC51
         by_cases c62 : t298 < 0
         ·rw [if_pos c62] at H
          have c62b0 : decide (t298 < 0) = true := decide_eq_true c62
          clear c62
          (first | rw [c62b0] | (simp only [i64_w, i32_w]; rw [c62b0]) | skip)
          have H' := Aside0.mk H
          clear H
          go_wp2
          go_meet
          case rel => exact ⟨_, (true), (by first | rfl | (simp; done) | (simp [*]; done)), H', ⟨by have := HJ15.out; first | omega | exact Nat.le_refl _⟩, ⟨by (with_reducible repeat (first | apply Kd.R_alloc | apply Kd.R_drewN | apply Kd.R_drew)); exact Kd.R_mono HO_6.out (fun _ hk => hk.2.1)⟩, ⟨by (with_reducible repeat (first | apply Kd.R_alloc | apply Kd.R_drewN | apply Kd.R_drew)); exact Kd.R_mono HO_10.out (fun _ hk => hk.1)⟩, ⟨by (with_reducible repeat (first | apply Kd.R_alloc | apply Kd.R_drewN | apply Kd.R_drew)); exact Kd.R_mono HO_279001.out (fun _ hk => trivial)⟩, ⟨by (with_reducible repeat (first | refine blk_drewN ?_ _ | refine blk_drew ?_ | refine blk_alloc ?_ _)); exact BK261.out⟩, ⟨by (with_reducible repeat (first | refine blk_drewN ?_ _ | refine blk_drew ?_ | refine blk_alloc ?_ _)); exact BK278.out⟩, ⟨by repeat (first | (with_reducible first | exact HB.out | apply below_alloc | apply pw_below_drewN | apply below_drew1 | refine below_set ?_ GE261.out | refine below_set ?_ GE278.out) | exact HB.out)⟩⟩
         ·rw [if_neg c62] at H
          have c62b0 : decide (t298 < 0) = false := decide_eq_false c62
          clear c62
          (first | rw [c62b0] | (simp only [i64_w, i32_w]; rw [c62b0]) | skip)
          replace H := Option.bind_eq_some_iff.mp H
          obtain ⟨t300, A630, H⟩ := H
          replace H : (if t300 = true then (laws_FnExactPricesOf.j1 kj15 l1 t270 t273 t282 (t285 != t273) a0_0 l0_1) else (laws_FnExactPricesOf.j1 kj15 l1 t270 t273 t282 true a0_0 l0_1)) = some r := H
          have A63 := Aside0.mk A630
          clear A630
          by_cases c64 : t300 = true
          ·subst c64
           have H1 : (laws_FnExactPricesOf.j1 kj15 l1 t270 t273 t282 (t285 != t273) a0_0 l0_1) = some r := by rw [if_pos rfl] at H; exact H
           clear H
           have H := H1
           clear H1
           have H' := Aside0.mk H
           clear H
           obtain ⟨Ao65, co65, eo65⟩ := Kd.R_slice HO_10.out
           subst eo65
           obtain ⟨Ao66, co66, eo66⟩ := Kd.R_slice HO_6.out
           subst eo66
           go_wp2_with (first | (go_at_call 14; (with_reducible refine (laws_eqIntS.calls kj15 _ _ t282 _ _ t270 true _ ?side1 ?side2 ?side3 ?side4 A63.out).mono ?_); (case side1 => exact uC (Kd.R_reads' HO_10.out).2.2); (case side2 => exact (Kd.R_reads' HO_10.out).2.1); (case side3 => exact uC (Kd.R_reads' HO_6.out).2.2); (case side4 => exact (Kd.R_reads' HO_6.out).2.1); rintro e w' ⟨rfl, ⟨nd, rfl⟩⟩))
           go_meet
           case rel => exact ⟨_, ((t285 != t273)), (by first | rfl | (simp; done) | (simp [*]; done)), H', ⟨by have := HJ15.out; first | omega | exact Nat.le_refl _⟩, ⟨by (with_reducible repeat (first | apply Kd.R_alloc | apply Kd.R_drewN | apply Kd.R_drew)); exact Kd.R_mono HO_6.out (fun _ hk => hk.2.1)⟩, ⟨by (with_reducible repeat (first | apply Kd.R_alloc | apply Kd.R_drewN | apply Kd.R_drew)); exact Kd.R_mono HO_10.out (fun _ hk => hk.1)⟩, ⟨by (with_reducible repeat (first | apply Kd.R_alloc | apply Kd.R_drewN | apply Kd.R_drew)); exact Kd.R_mono HO_279001.out (fun _ hk => trivial)⟩, ⟨by (with_reducible repeat (first | refine blk_drewN ?_ _ | refine blk_drew ?_ | refine blk_alloc ?_ _)); exact BK261.out⟩, ⟨by (with_reducible repeat (first | refine blk_drewN ?_ _ | refine blk_drew ?_ | refine blk_alloc ?_ _)); exact BK278.out⟩, ⟨by repeat (first | (with_reducible first | exact HB.out | apply below_alloc | apply pw_below_drewN | apply below_drew1 | refine below_set ?_ GE261.out | refine below_set ?_ GE278.out) | exact HB.out)⟩⟩
          ·replace c64 := Bool.eq_false_iff.mpr c64
           subst c64
           have H1 : (laws_FnExactPricesOf.j1 kj15 l1 t270 t273 t282 true a0_0 l0_1) = some r := by rw [if_neg (show ¬ (false = true) by decide)] at H; exact H
           clear H
           have H := H1
           clear H1
           have H' := Aside0.mk H
           clear H
           obtain ⟨Ao67, co67, eo67⟩ := Kd.R_slice HO_10.out
           subst eo67
           obtain ⟨Ao68, co68, eo68⟩ := Kd.R_slice HO_6.out
           subst eo68
           go_wp2_with (first | (go_at_call 14; (with_reducible refine (laws_eqIntS.calls kj15 _ _ t282 _ _ t270 false _ ?side1 ?side2 ?side3 ?side4 A63.out).mono ?_); (case side1 => exact uC (Kd.R_reads' HO_10.out).2.2); (case side2 => exact (Kd.R_reads' HO_10.out).2.1); (case side3 => exact uC (Kd.R_reads' HO_6.out).2.2); (case side4 => exact (Kd.R_reads' HO_6.out).2.1); rintro e w' ⟨rfl, ⟨nd, rfl⟩⟩))
           go_meet
           case rel => exact ⟨_, (true), (by first | rfl | (simp; done) | (simp [*]; done)), H', ⟨by have := HJ15.out; first | omega | exact Nat.le_refl _⟩, ⟨by (with_reducible repeat (first | apply Kd.R_alloc | apply Kd.R_drewN | apply Kd.R_drew)); exact Kd.R_mono HO_6.out (fun _ hk => hk.2.1)⟩, ⟨by (with_reducible repeat (first | apply Kd.R_alloc | apply Kd.R_drewN | apply Kd.R_drew)); exact Kd.R_mono HO_10.out (fun _ hk => hk.1)⟩, ⟨by (with_reducible repeat (first | apply Kd.R_alloc | apply Kd.R_drewN | apply Kd.R_drew)); exact Kd.R_mono HO_279001.out (fun _ hk => trivial)⟩, ⟨by (with_reducible repeat (first | refine blk_drewN ?_ _ | refine blk_drew ?_ | refine blk_alloc ?_ _)); exact BK261.out⟩, ⟨by (with_reducible repeat (first | refine blk_drewN ?_ _ | refine blk_drew ?_ | refine blk_alloc ?_ _)); exact BK278.out⟩, ⟨by repeat (first | (with_reducible first | exact HB.out | apply below_alloc | apply pw_below_drewN | apply below_drew1 | refine below_set ?_ GE261.out | refine below_set ?_ GE278.out) | exact HB.out)⟩⟩
        case rest =>
         clear HC51
         try clear c1
         try clear c2
         try clear p2
         try clear c3
         try clear c3b0
         try clear c3b1
         try clear c4
         try clear c5
         try clear c6
         try clear c6b0
         try clear c8
         try clear c10
         try clear c11
         try clear c13
         try clear c14
         try clear c15
         try clear c16
         try clear c17
         try clear c18
         try clear c29
         try clear c37
         try clear c42
         try clear c45
         try clear c48
         try clear c58
         try clear c62
         try clear c62b0
         try clear c64
         try clear hcz18_0
         try clear hcz18_1
         try clear hcz20_0
         try clear hcz20_1
         try clear hcz26_0
         try clear hcz26_1
         try clear hcz30_0
         try clear hcz30_1
         try clear hcz33_0
         try clear hcz33_1
         try clear hcz59_0
         try clear hcz59_1
         try clear hcz8_0
         try clear hcz8_1
         try clear hfz18_0
         try clear hfz18_1
         try clear hfz20_0
         try clear hfz20_1
         try clear hfz26_0
         try clear hfz26_1
         try clear hfz30_0
         try clear hfz30_1
         try clear hfz33_0
         try clear hfz33_1
         try clear hfz59_0
         try clear hfz59_1
         try clear hfz8_0
         try clear hfz8_1
         try clear p2
         obtain ⟨kq, x80_50, rfl, HA, HJ50, HO_6, HO_10, HO_279001, BK261, BK278, HB⟩ := hcut
         have hl279001_50 := (Kd.R_reads' HO_279001.out).1
         rw [hl279001_50] at HO_279001
         (try simp only [hl279001_50])
         (try simp only [hl279001_50] at BK261)
         (try simp only [hl279001_50] at BK278)
         (try simp only [hl279001_50] at HO_6)
         (try simp only [hl279001_50] at HO_10)
         cases kq with
         | zero => exact absurd HA.out (by simp [laws_FnExactPricesOf.j1])
         | succ kj50 =>
          have H := HA.out
          clear HA
          simp only [laws_FnExactPricesOf.j1] at H
          by_cases c69 : x80_50 = true
          ·subst c69
           have H1 : (some false) = some r := by rw [if_pos rfl] at H; exact H
           clear H
           have H := H1
           clear H1
           exact absurd hr_ (by rw [← Option.some.inj H]; decide)
          ·replace c69 := Bool.eq_false_iff.mpr c69
           subst c69
           have H1 : ((laws_markIntS.f kj50 t282 1).bind fun bt301 => ((laws_heldIntS.f kj50 bt301.2 1).bind fun t303 => (if t303 < 0 then (some false) else (if t303 = bt301.1 then ((laws_toNet.f kj50 a0_0 l0_1).bind fun bt304 => ((laws_toIntS.f kj50 l1).bind fun t308 => ((impl_PricesOf.f kj50 bt304.1 bt304.2 t308).bind fun bt311 => ((laws_eqIntS.f kj50 bt311.1 t270).bind fun t315 => (if t315 = true then (laws_FnExactPricesOf.j2 kj50 bt301.2 bt301.1 (bt311.2 != t273)) else (laws_FnExactPricesOf.j2 kj50 bt301.2 bt301.1 true)))))) else (some false))))) = some r := by rw [if_neg (show ¬ (false = true) by decide)] at H; exact H
           clear H
           have H := H1
           clear H1
           replace H := Option.bind_eq_some_iff.mp H
           obtain ⟨⟨t301, t302⟩, A700, H⟩ := H
           replace H : ((laws_heldIntS.f kj50 t302 1).bind fun t303 => (if t303 < 0 then (some false) else (if t303 = t301 then ((laws_toNet.f kj50 a0_0 l0_1).bind fun bt304 => ((laws_toIntS.f kj50 l1).bind fun t308 => ((impl_PricesOf.f kj50 bt304.1 bt304.2 t308).bind fun bt311 => ((laws_eqIntS.f kj50 bt311.1 t270).bind fun t315 => (if t315 = true then (laws_FnExactPricesOf.j2 kj50 t302 t301 (bt311.2 != t273)) else (laws_FnExactPricesOf.j2 kj50 t302 t301 true)))))) else (some false)))) = some r := H
           have A70 := Aside0.mk A700
           clear A700
           replace H := Option.bind_eq_some_iff.mp H
           obtain ⟨t303, A710, H⟩ := H
           replace H : (if t303 < 0 then (some false) else (if t303 = t301 then ((laws_toNet.f kj50 a0_0 l0_1).bind fun bt304 => ((laws_toIntS.f kj50 l1).bind fun t308 => ((impl_PricesOf.f kj50 bt304.1 bt304.2 t308).bind fun bt311 => ((laws_eqIntS.f kj50 bt311.1 t270).bind fun t315 => (if t315 = true then (laws_FnExactPricesOf.j2 kj50 t302 t301 (bt311.2 != t273)) else (laws_FnExactPricesOf.j2 kj50 t302 t301 true)))))) else (some false))) = some r := H
           have A71 := Aside0.mk A710
           clear A710
           by_cases c72 : t303 < 0
           ·rw [if_pos c72] at H
            have c72b0 : decide (t303 < 0) = true := decide_eq_true c72
            clear c72
            exact absurd hr_ (by rw [← Option.some.inj H]; decide)
           ·rw [if_neg c72] at H
            have c72b0 : decide (t303 < 0) = false := decide_eq_false c72
            clear c72
            by_cases c73 : t303 = t301
            ·rw [if_pos c73] at H
             have c73b0 : (t303 == t301) = true := beq_iff_eq.mpr c73
             have c73b1 : (t303 != t301) = false := bne_eq_false_iff_eq.mpr c73
             clear c73
             replace H := Option.bind_eq_some_iff.mp H
             obtain ⟨⟨t304, t305⟩, A740, H⟩ := H
             replace H : ((laws_toIntS.f kj50 l1).bind fun t308 => ((impl_PricesOf.f kj50 t304 t305 t308).bind fun bt311 => ((laws_eqIntS.f kj50 bt311.1 t270).bind fun t315 => (if t315 = true then (laws_FnExactPricesOf.j2 kj50 t302 t301 (bt311.2 != t273)) else (laws_FnExactPricesOf.j2 kj50 t302 t301 true))))) = some r := H
             have A74 := Aside0.mk A740
             clear A740
             replace H := Option.bind_eq_some_iff.mp H
             obtain ⟨t308, A750, H⟩ := H
             replace H : ((impl_PricesOf.f kj50 t304 t305 t308).bind fun bt311 => ((laws_eqIntS.f kj50 bt311.1 t270).bind fun t315 => (if t315 = true then (laws_FnExactPricesOf.j2 kj50 t302 t301 (bt311.2 != t273)) else (laws_FnExactPricesOf.j2 kj50 t302 t301 true)))) = some r := H
             have A75 := Aside0.mk A750
             clear A750
             replace H := Option.bind_eq_some_iff.mp H
             obtain ⟨⟨t311, t314⟩, A760, H⟩ := H
             replace H : ((laws_eqIntS.f kj50 t311 t270).bind fun t315 => (if t315 = true then (laws_FnExactPricesOf.j2 kj50 t302 t301 (t314 != t273)) else (laws_FnExactPricesOf.j2 kj50 t302 t301 true))) = some r := H
             have A76 := Aside0.mk A760
             clear A760
             have HC77 := Aside0.mk H
             clear H
             obtain ⟨Ao78, co78, eo78⟩ := Kd.R_slice HO_10.out
             subst eo78
             go_upto_region 31 with (first | ((with_reducible refine gate_callee (f := 18) rfl ?_); refine goesL_ (some 83) rfl rfl Try.func18 (by kernel_rfl) rfl #[.slice Ao78 t282.length co78, .int .i64 1] rfl (by (try simp only [List.map_toArray, List.map_cons, List.map_nil]); first | done | rfl | (simp only [List.length_drop, List.length_take]; rfl)) ?_; (with_reducible refine (laws_markIntS.calls kj50 (fun k_ => some k_ = (.slice Ao78 t282.length co78 : Value).ownBlock) (.slice Ao78 t282.length co78) t282 1 t301 t302 w _ ?side1 ?side2 A70.out).mono ?_); (case side1 => repeat (first | (with_reducible first | exact HB.out | apply below_alloc | apply pw_below_drewN | apply below_drew1 | refine below_set ?_ GE261.out | refine below_set ?_ GE278.out) | exact HB.out)); (case side2 => exact Kd.R_tight rfl HO_10.out); rintro e w79 ⟨rfl, hy0, hb, hkp⟩; refine ⟨_, rfl, ?_⟩; have n0_ := Aside0.mk (Kd.R_mono (ok' := fun k_ => some k_ ≠ (.slice Ao78 t282.length co78 : Value).ownBlock) (Kd.R_keptB (HO_6.out) hkp (fun k_ hk_ hs_ => (hk_) hs_)) (fun k_ hk_ => hk_.1)); have n1_ := Aside0.mk (Kd.R_reok rfl hy0 (fun k_ e_ => HO_10.out.1 k_ e_)); have n2_ := Aside0.mk (Kd.R_mono (ok' := fun k_ => True) (Kd.R_keptB ((Kd.R_apart' HO_279001.out (Kd.R_typed HO_10.out) (by decide))) hkp (fun k_ hk_ hs_ => (hk_.2) hs_)) (fun k_ hk_ => trivial)); have n3_ := Aside0.mk (blk_kept (by (with_reducible repeat (first | refine blk_drewN ?_ _ | refine blk_drew ?_ | refine blk_alloc ?_ _)); exact BK261.out) hkp (fun hs_ => (fun e_ => (Kd.R_ne HO_10.out BK261.out (by decide)) e_) hs_)); have n4_ := Aside0.mk (blk_kept (by (with_reducible repeat (first | refine blk_drewN ?_ _ | refine blk_drew ?_ | refine blk_alloc ?_ _)); exact BK278.out) hkp (fun hs_ => (fun e_ => (Kd.R_ne HO_10.out BK278.out (by decide)) e_) hs_)); have n5_ := Aside0.mk (hb); clear HO_6; clear HO_10; clear HO_279001; clear BK261; clear BK278; clear HB; have HO_6 := n0_; have HO_10 := n1_; have HO_279001 := n2_; have BK261 := n3_; have BK278 := n4_; have HB := n5_; clear n0_ n1_ n2_ n3_ n4_ n5_; (try clear hb); (try clear hkp); (try clear hy0)) | ((with_reducible refine gate_callee (f := 19) rfl ?_); refine goesL_ (some 86) rfl rfl Try.func19 (by kernel_rfl) rfl #[.slice Ao78 t302.length co78, .int .i64 1] rfl (by (try simp only [List.map_toArray, List.map_cons, List.map_nil]); first | done | (rw [show t302.length = t282.length from (Kd.R_reads' HO_10.out).1.symm] <;> rfl) | rfl | (simp only [List.length_drop, List.length_take]; rfl)) ?_; (with_reducible refine (laws_heldIntS.calls kj50 _ _ t302 1 t303 _ ?side1 ?side2 A71.out).mono ?_); (case side1 => exact uC (Kd.R_reads' HO_10.out).2.2); (case side2 => rw [show t302.length = t282.length from (Kd.R_reads' HO_10.out).1.symm]; exact (Kd.R_reads' HO_10.out).2.1); rintro e w' ⟨rfl, ⟨nd, rfl⟩⟩; refine ⟨_, rfl, ?_⟩; have hnb80 := NB261_278.out; have hnc80 := NB278_261.out; have hcz81_0 : w79.cell? ⟨gb261, 0, none⟩ = some (.int .i64 a0_0) := (blk_cell BK261.out 0).trans rfl; have hcz81_1 : w79.cell? ⟨gb261, 1, none⟩ = some (.slice A0_1 l0_1.length c0_1) := (blk_cell BK261.out 1).trans rfl; have hfz81_0 := blk_frozen BK261.out 0; have hfz81_1 := blk_frozen BK261.out 1) | ((with_reducible refine gate_callee (f := 10) rfl ?_); refine goesL_ (some 94) rfl rfl Try.func10 (by kernel_rfl) rfl #[.agg #[.int .i64 a0_0, .slice A0_1 l0_1.length c0_1]] rfl (by (try simp only [List.map_toArray, List.map_cons, List.map_nil]); first | done | rfl | (simp only [List.length_drop, List.length_take]; rfl)) ?_; (with_reducible refine (laws_toNet.calls kj50 a0_0 _ _ l0_1 t304 t305 _ ?side1 ?side2 A74.out).mono ?_); (case side1 => repeat (first | exact (Kd.C_below HR0_1.out (by repeat (first | (with_reducible first | exact HB.out | apply below_alloc | apply pw_below_drewN | apply below_drew1 | refine below_set ?_ GE261.out | refine below_set ?_ GE278.out) | exact HB.out))) | (with_reducible refine Kd.C_alloc ?_ _) | (with_reducible refine Kd.C_drewN ?_ _) | (with_reducible refine Kd.C_drew ?_))); (case side2 => exact HC0_1.out); rintro e w82 ⟨v306, rfl, ho0, hb⟩; refine ⟨_, rfl, ?_⟩; have n0_ := Aside0.mk (Kd.R_below (uR HO_6.out) hb); have n1_ := Aside0.mk (Kd.R_below (uR HO_10.out) hb); have n2_ := Aside0.mk (Kd.R_elder' (uR HO_279001.out) (Kd.R_base ho0) hb); have n3_ := Aside0.mk (Kd.R_lower (Kd.R_new' ho0 (Kd.R_lt (uR HO_279001.out))) (below_size (by repeat (first | (with_reducible first | exact HB.out | apply below_alloc | apply pw_below_drewN | apply below_drew1 | refine below_set ?_ GE261.out | refine below_set ?_ GE278.out) | exact HB.out)))); have n4_ := Aside0.mk (blk_below (g := gb261) (o := .cells #[.int .i64 a0_0, .slice A0_1 l0_1.length c0_1] 24 (0, 0)) (by (with_reducible repeat (first | refine blk_drewN ?_ _ | refine blk_drew ?_ | refine blk_alloc ?_ _)); exact BK261.out) hb); have n5_ := Aside0.mk (blk_below (g := gb278) (o := .cells #[.int .i64 t274, .slice Ao31 t297.length co31] 30 (0, 0)) (by (with_reducible repeat (first | refine blk_drewN ?_ _ | refine blk_drew ?_ | refine blk_alloc ?_ _)); exact BK278.out) hb); have n6_ := Aside0.mk (below_step (by repeat (first | (with_reducible first | exact HB.out | apply below_alloc | apply pw_below_drewN | apply below_drew1 | refine below_set ?_ GE261.out | refine below_set ?_ GE278.out) | exact HB.out)) hb); clear HO_6; clear HO_10; clear HO_279001; clear BK261; clear BK278; clear HB; have HO_6 := n0_; have HO_10 := n1_; have HO_279001 := n2_; have HO307 := n3_; have BK261 := n4_; have BK278 := n5_; have HB := n6_; clear n0_ n1_ n2_ n3_ n4_ n5_ n6_; (try clear hb); (try clear hb2); (try clear hk); (try clear hi); (try clear ho0)) | ((with_reducible refine gate_callee (f := 11) rfl ?_); refine goesL_ (some 96) rfl rfl Try.func11 (by kernel_rfl) rfl #[.slice A1 l1.length c1] rfl (by (try simp only [List.map_toArray, List.map_cons, List.map_nil]); first | done | rfl | (simp only [List.length_drop, List.length_take]; rfl)) ?_; (with_reducible refine (laws_toIntS.calls kj50 _ _ l1 t308 _ ?side1 ?side2 A75.out).mono ?_); (case side1 => repeat (first | exact (Kd.C_below HR1.out HB.out) | (with_reducible refine Kd.C_alloc ?_ _) | (with_reducible refine Kd.C_drewN ?_ _) | (with_reducible refine Kd.C_drew ?_))); (case side2 => exact HC1.out); rintro e w83 ⟨v309, rfl, ho0, hb⟩; refine ⟨_, rfl, ?_⟩; have n0_ := Aside0.mk (Kd.R_elder' (uR HO_6.out) (Kd.R_base ho0) hb); have n1_ := Aside0.mk (Kd.R_elder' (uR HO_10.out) (Kd.R_base ho0) hb); have n2_ := Aside0.mk (Kd.R_below (uR HO_279001.out) hb); have n3_ := Aside0.mk (Kd.R_below (uR HO307.out) hb); have n4_ := Aside0.mk (Kd.R_lower (Kd.R_new' (Kd.R_new' ho0 (Kd.R_lt (uR HO_6.out))) (Kd.R_lt (uR HO_10.out))) (below_size (by repeat (first | (with_reducible first | exact HB.out | apply below_alloc | apply pw_below_drewN | apply below_drew1 | refine below_set ?_ GE261.out | refine below_set ?_ GE278.out) | exact HB.out)))); have n5_ := Aside0.mk (blk_below (g := gb261) (o := .cells #[.int .i64 a0_0, .slice A0_1 l0_1.length c0_1] 24 (0, 0)) (by (with_reducible repeat (first | refine blk_drewN ?_ _ | refine blk_drew ?_ | refine blk_alloc ?_ _)); exact BK261.out) hb); have n6_ := Aside0.mk (blk_below (g := gb278) (o := .cells #[.int .i64 t274, .slice Ao31 t297.length co31] 30 (0, 0)) (by (with_reducible repeat (first | refine blk_drewN ?_ _ | refine blk_drew ?_ | refine blk_alloc ?_ _)); exact BK278.out) hb); have n7_ := Aside0.mk (below_step (by repeat (first | (with_reducible first | exact HB.out | apply below_alloc | apply pw_below_drewN | apply below_drew1 | refine below_set ?_ GE261.out | refine below_set ?_ GE278.out) | exact HB.out)) hb); clear HO_6; clear HO_10; clear HO_279001; clear HO307; clear BK261; clear BK278; clear HB; have HO_6 := n0_; have HO_10 := n1_; have HO_279001 := n2_; have HO307 := n3_; have HO310 := n4_; have BK261 := n5_; have BK278 := n6_; have HB := n7_; clear n0_ n1_ n2_ n3_ n4_ n5_ n6_ n7_; (try clear hb); (try clear hb2); (try clear hk); (try clear hi); (try clear ho0); obtain ⟨Ao84, co84, eo84⟩ := Kd.R_slice HO307.out; subst eo84; obtain ⟨Ao85, co85, eo85⟩ := Kd.R_slice HO310.out; subst eo85) | ((with_reducible refine gate_callee (f := 16) rfl ?_); refine goesL_ (some 97) rfl rfl Try.func16 (by kernel_rfl) rfl #[.agg #[.int .i64 t304, .slice Ao84 t305.length co84], .slice Ao85 t308.length co85] rfl (by (try simp only [List.map_toArray, List.map_cons, List.map_nil]); first | done | rfl | (simp only [List.length_drop, List.length_take]; rfl)) ?_; (with_reducible refine (impl_PricesOf.calls kj50 t304 _ _ t305 _ _ t308 t311 t314 _ ?side1 ?side2 ?side3 ?side4 A76.out).mono ?_); (case side1 => exact uC (Kd.R_reads' HO307.out).2.2); (case side2 => exact (Kd.R_reads' HO307.out).2.1); (case side3 => exact uC (Kd.R_reads' HO310.out).2.2); (case side4 => exact (Kd.R_reads' HO310.out).2.1); rintro e w86 ⟨v312, rfl, ho0, hb⟩; refine ⟨_, rfl, ?_⟩; have n0_ := Aside0.mk (Kd.R_elder' (uR HO_6.out) (Kd.R_base ho0) hb); have n1_ := Aside0.mk (Kd.R_elder' (uR HO_10.out) (Kd.R_base ho0) hb); have n2_ := Aside0.mk (Kd.R_below (uR HO_279001.out) hb); have n3_ := Aside0.mk (Kd.R_below (uR HO307.out) hb); have n4_ := Aside0.mk (Kd.R_elder' (uR HO310.out) (Kd.R_base ho0) hb); have n5_ := Aside0.mk (Kd.R_lower (Kd.R_new' (Kd.R_new' (Kd.R_new' ho0 (Kd.R_lt (uR HO_6.out))) (Kd.R_lt (uR HO_10.out))) (Kd.R_lt (uR HO310.out))) (below_size (by repeat (first | (with_reducible first | exact HB.out | apply below_alloc | apply pw_below_drewN | apply below_drew1 | refine below_set ?_ GE261.out | refine below_set ?_ GE278.out) | exact HB.out)))); have n6_ := Aside0.mk (blk_below (g := gb261) (o := .cells #[.int .i64 a0_0, .slice A0_1 l0_1.length c0_1] 24 (0, 0)) (by (with_reducible repeat (first | refine blk_drewN ?_ _ | refine blk_drew ?_ | refine blk_alloc ?_ _)); exact BK261.out) hb); have n7_ := Aside0.mk (blk_below (g := gb278) (o := .cells #[.int .i64 t274, .slice Ao31 t297.length co31] 30 (0, 0)) (by (with_reducible repeat (first | refine blk_drewN ?_ _ | refine blk_drew ?_ | refine blk_alloc ?_ _)); exact BK278.out) hb); have n8_ := Aside0.mk (below_step (by repeat (first | (with_reducible first | exact HB.out | apply below_alloc | apply pw_below_drewN | apply below_drew1 | refine below_set ?_ GE261.out | refine below_set ?_ GE278.out) | exact HB.out)) hb); clear HO_6; clear HO_10; clear HO_279001; clear HO307; clear HO310; clear BK261; clear BK278; clear HB; have HO_6 := n0_; have HO_10 := n1_; have HO_279001 := n2_; have HO307 := n3_; have HO310 := n4_; have HO313 := n5_; have BK261 := n6_; have BK278 := n7_; have HB := n8_; clear n0_ n1_ n2_ n3_ n4_ n5_ n6_ n7_ n8_; (try clear hb); (try clear hb2); (try clear hk); (try clear hi); (try clear ho0)))
             (try simp only [Act.put, List.setIfInBounds_toArray, List.set_cons_zero, List.set_cons_succ])
             go_cut [108] (fun v108 wc => ∃ (kq : Nat) (x108_76 : Bool), v108 = .bool x108_76 ∧ Aside0 (laws_FnExactPricesOf.j2 kq t302 t301 x108_76 = some r) ∧ Aside0 (kq ≤ kj50) ∧ Aside0 (Kd.R (Kd.int .i64) 3 wc w.heap.size (fun _ => True) (.slice Ao78 t282.length co78) t302) ∧ Aside0 (Kd.R k53 53 wc w.heap.size (fun _ => True) (.slice Ao31 t297.length co31) t297) ∧ Aside0 (wc.heap[gb261]? = some (.cells #[.int .i64 a0_0, (.slice A0_1 l0_1.length c0_1)] 24 (0, 0))) ∧ Aside0 (wc.heap[gb278]? = some (.cells #[.int .i64 t274, (.slice Ao31 t297.length co31)] 30 (0, 0))) ∧ Aside0 (Below w.heap.size w wc))
             case first =>
              have H := HC77.out
              clear HC77
              replace H := Option.bind_eq_some_iff.mp H
              obtain ⟨t315, A870, H⟩ := H
              replace H : (if t315 = true then (laws_FnExactPricesOf.j2 kj50 t302 t301 (t314 != t273)) else (laws_FnExactPricesOf.j2 kj50 t302 t301 true)) = some r := H
              have A87 := Aside0.mk A870
              clear A870
              by_cases c88 : t315 = true
              ·subst c88
               have H1 : (laws_FnExactPricesOf.j2 kj50 t302 t301 (t314 != t273)) = some r := by rw [if_pos rfl] at H; exact H
               clear H
               have H := H1
               clear H1
               have H' := Aside0.mk H
               clear H
               obtain ⟨Ao89, co89, eo89⟩ := Kd.R_slice HO313.out
               subst eo89
               obtain ⟨Ao90, co90, eo90⟩ := Kd.R_slice HO_6.out
               subst eo90
               go_wp2_with (first | ((with_reducible refine gate_callee (f := 14) rfl ?_); refine goesL_ (some 102) rfl rfl Try.func14 (by kernel_rfl) rfl #[.slice Ao89 t311.length co89, .slice Ao90 t270.length co90] rfl (by (try simp only [List.map_toArray, List.map_cons, List.map_nil]); first | done | rfl | (simp only [List.length_drop, List.length_take]; rfl)) ?_; (with_reducible refine (laws_eqIntS.calls kj50 _ _ t311 _ _ t270 true _ ?side1 ?side2 ?side3 ?side4 A87.out).mono ?_); (case side1 => exact uC (Kd.R_reads' HO313.out).2.2); (case side2 => exact (Kd.R_reads' HO313.out).2.1); (case side3 => exact uC (Kd.R_reads' HO_6.out).2.2); (case side4 => exact (Kd.R_reads' HO_6.out).2.1); rintro e w' ⟨rfl, ⟨nd, rfl⟩⟩; refine ⟨_, rfl, ?_⟩))
               go_meet
               case rel => exact ⟨_, ((t314 != t273)), (by first | rfl | (simp; done) | (simp [*]; done)), H', ⟨by have := HJ15.out; have := HJ50.out; first | omega | exact Nat.le_refl _⟩, ⟨by (try simp only [hl279001_50]); (with_reducible repeat (first | apply Kd.R_alloc | apply Kd.R_drewN | apply Kd.R_drew)); exact Kd.R_mono HO_10.out (fun _ hk => trivial)⟩, ⟨by (try simp only [hl279001_50]); (with_reducible repeat (first | apply Kd.R_alloc | apply Kd.R_drewN | apply Kd.R_drew)); exact Kd.R_mono HO_279001.out (fun _ hk => trivial)⟩, ⟨by (try simp only [hl279001_50]); (with_reducible repeat (first | refine blk_drewN ?_ _ | refine blk_drew ?_ | refine blk_alloc ?_ _)); exact BK261.out⟩, ⟨by (try simp only [hl279001_50]); (with_reducible repeat (first | refine blk_drewN ?_ _ | refine blk_drew ?_ | refine blk_alloc ?_ _)); exact BK278.out⟩, ⟨by repeat (first | (with_reducible first | exact HB.out | apply below_alloc | apply pw_below_drewN | apply below_drew1 | refine below_set ?_ GE261.out | refine below_set ?_ GE278.out) | exact HB.out)⟩⟩
              ·replace c88 := Bool.eq_false_iff.mpr c88
               subst c88
               have H1 : (laws_FnExactPricesOf.j2 kj50 t302 t301 true) = some r := by rw [if_neg (show ¬ (false = true) by decide)] at H; exact H
               clear H
               have H := H1
               clear H1
               have H' := Aside0.mk H
               clear H
               obtain ⟨Ao91, co91, eo91⟩ := Kd.R_slice HO313.out
               subst eo91
               obtain ⟨Ao92, co92, eo92⟩ := Kd.R_slice HO_6.out
               subst eo92
               go_wp2_with (first | ((with_reducible refine gate_callee (f := 14) rfl ?_); refine goesL_ (some 102) rfl rfl Try.func14 (by kernel_rfl) rfl #[.slice Ao91 t311.length co91, .slice Ao92 t270.length co92] rfl (by (try simp only [List.map_toArray, List.map_cons, List.map_nil]); first | done | rfl | (simp only [List.length_drop, List.length_take]; rfl)) ?_; (with_reducible refine (laws_eqIntS.calls kj50 _ _ t311 _ _ t270 false _ ?side1 ?side2 ?side3 ?side4 A87.out).mono ?_); (case side1 => exact uC (Kd.R_reads' HO313.out).2.2); (case side2 => exact (Kd.R_reads' HO313.out).2.1); (case side3 => exact uC (Kd.R_reads' HO_6.out).2.2); (case side4 => exact (Kd.R_reads' HO_6.out).2.1); rintro e w' ⟨rfl, ⟨nd, rfl⟩⟩; refine ⟨_, rfl, ?_⟩))
               go_meet
               case rel => exact ⟨_, (true), (by first | rfl | (simp; done) | (simp [*]; done)), H', ⟨by have := HJ15.out; have := HJ50.out; first | omega | exact Nat.le_refl _⟩, ⟨by (try simp only [hl279001_50]); (with_reducible repeat (first | apply Kd.R_alloc | apply Kd.R_drewN | apply Kd.R_drew)); exact Kd.R_mono HO_10.out (fun _ hk => trivial)⟩, ⟨by (try simp only [hl279001_50]); (with_reducible repeat (first | apply Kd.R_alloc | apply Kd.R_drewN | apply Kd.R_drew)); exact Kd.R_mono HO_279001.out (fun _ hk => trivial)⟩, ⟨by (try simp only [hl279001_50]); (with_reducible repeat (first | refine blk_drewN ?_ _ | refine blk_drew ?_ | refine blk_alloc ?_ _)); exact BK261.out⟩, ⟨by (try simp only [hl279001_50]); (with_reducible repeat (first | refine blk_drewN ?_ _ | refine blk_drew ?_ | refine blk_alloc ?_ _)); exact BK278.out⟩, ⟨by repeat (first | (with_reducible first | exact HB.out | apply below_alloc | apply pw_below_drewN | apply below_drew1 | refine below_set ?_ GE261.out | refine below_set ?_ GE278.out) | exact HB.out)⟩⟩
             case rest =>
              clear HC77
              try clear c1
              try clear c2
              try clear p2
              try clear c3
              try clear c3b0
              try clear c3b1
              try clear c4
              try clear c5
              try clear c6
              try clear c6b0
              try clear c7
              try clear c8
              try clear c10
              try clear c11
              try clear c13
              try clear c14
              try clear c15
              try clear c16
              try clear c17
              try clear c18
              try clear c19
              try clear c29
              try clear c37
              try clear c42
              try clear c45
              try clear c48
              try clear c58
              try clear c62
              try clear c62b0
              try clear c64
              try clear c69
              try clear c72
              try clear c72b0
              try clear c73
              try clear c73b0
              try clear c73b1
              try clear c80
              try clear c88
              try clear hcz18_0
              try clear hcz18_1
              try clear hcz20_0
              try clear hcz20_1
              try clear hcz26_0
              try clear hcz26_1
              try clear hcz30_0
              try clear hcz30_1
              try clear hcz33_0
              try clear hcz33_1
              try clear hcz59_0
              try clear hcz59_1
              try clear hcz81_0
              try clear hcz81_1
              try clear hcz8_0
              try clear hcz8_1
              try clear hfz18_0
              try clear hfz18_1
              try clear hfz20_0
              try clear hfz20_1
              try clear hfz26_0
              try clear hfz26_1
              try clear hfz30_0
              try clear hfz30_1
              try clear hfz33_0
              try clear hfz33_1
              try clear hfz59_0
              try clear hfz59_1
              try clear hfz81_0
              try clear hfz81_1
              try clear hfz8_0
              try clear hfz8_1
              try clear p2
              obtain ⟨kq, x108_76, rfl, HA, HJ76, HO_10, HO_279001, BK261, BK278, HB⟩ := hcut
              have hl10_76 := (Kd.R_reads' HO_10.out).1
              rw [hl10_76] at HO_10
              (try simp only [hl10_76])
              (try simp only [hl10_76] at BK261)
              (try simp only [hl10_76] at BK278)
              (try simp only [hl10_76] at HO_279001)
              cases kq with
              | zero => exact absurd HA.out (by simp [laws_FnExactPricesOf.j2])
              | succ kj76 =>
               have H := HA.out
               clear HA
               simp only [laws_FnExactPricesOf.j2] at H
               by_cases c93 : x108_76 = true
               ·subst c93
                have H1 : (some false) = some r := by rw [if_pos rfl] at H; exact H
                clear H
                have H := H1
                clear H1
                exact absurd hr_ (by rw [← Option.some.inj H]; decide)
               ·replace c93 := Bool.eq_false_iff.mpr c93
                subst c93
                have H1 : ((laws_heldIntS.f kj76 t302 1).bind fun t316 => (if t316 < 0 then (some false) else (if t316 = t301 then (some true) else (some false)))) = some r := by rw [if_neg (show ¬ (false = true) by decide)] at H; exact H
                clear H
                have H := H1
                clear H1
                replace H := Option.bind_eq_some_iff.mp H
                obtain ⟨t316, A940, H⟩ := H
                replace H : (if t316 < 0 then (some false) else (if t316 = t301 then (some true) else (some false))) = some r := H
                have A94 := Aside0.mk A940
                clear A940
                by_cases c95 : t316 < 0
                ·rw [if_pos c95] at H
                 have c95b0 : decide (t316 < 0) = true := decide_eq_true c95
                 clear c95
                 exact absurd hr_ (by rw [← Option.some.inj H]; decide)
                ·rw [if_neg c95] at H
                 have c95b0 : decide (t316 < 0) = false := decide_eq_false c95
                 clear c95
                 by_cases c96 : t316 = t301
                 ·rw [if_pos c96] at H
                  have c96b0 : (t316 == t301) = true := beq_iff_eq.mpr c96
                  have c96b1 : (t316 != t301) = false := bne_eq_false_iff_eq.mpr c96
                  clear c96
                  obtain rfl := Option.some.inj H
                  go_wp2_with (first | ((with_reducible refine gate_callee (f := 19) rfl ?_); refine goesL_ (some 111) rfl rfl Try.func19 (by kernel_rfl) rfl #[.slice Ao78 t302.length co78, .int .i64 1] rfl (by (try simp only [List.map_toArray, List.map_cons, List.map_nil]); first | done | rfl | (simp only [List.length_drop, List.length_take]; rfl)) ?_; (with_reducible refine (laws_heldIntS.calls kj76 _ _ t302 1 t316 _ ?side1 ?side2 A94.out).mono ?_); (case side1 => exact uC (Kd.R_reads' HO_10.out).2.2); (case side2 => exact (Kd.R_reads' HO_10.out).2.1); rintro e w' ⟨rfl, ⟨nd, rfl⟩⟩; refine ⟨_, rfl, ?_⟩))
                  go_ret
                  exact ⟨by first | rfl | (simp [errW_none, errW_some] <;> rfl) | (simp [*, errW_none, errW_some] <;> rfl), by repeat (first | (with_reducible first | exact HB.out | apply below_alloc | apply pw_below_drewN | apply below_drew1 | refine below_set ?_ GE261.out | refine below_set ?_ GE278.out) | exact HB.out)⟩
                 ·rw [if_neg c96] at H
                  have c96b0 : (t316 == t301) = false := beq_eq_false_iff_ne.mpr c96
                  have c96b1 : (t316 != t301) = true := bne_iff_ne.mpr c96
                  exact absurd hr_ (by rw [← Option.some.inj H]; decide)
            ·rw [if_neg c73] at H
             have c73b0 : (t303 == t301) = false := beq_eq_false_iff_ne.mpr c73
             have c73b1 : (t303 != t301) = true := bne_iff_ne.mpr c73
             exact absurd hr_ (by rw [← Option.some.inj H]; decide)
       ·replace c48 := Bool.eq_false_iff.mpr c48
        subst c48
        have H1 : (some false) = some r := by rw [if_neg (show ¬ (false = true) by decide)] at H; exact H
        clear H
        have H := H1
        clear H1
        exact absurd hr_ (by rw [← Option.some.inj H]; decide)
      ·replace c45 := Bool.eq_false_iff.mpr c45
       subst c45
       have H1 : (some false) = some r := by rw [if_neg (show ¬ (false = true) by decide)] at H; exact H
       clear H
       have H := H1
       clear H1
       exact absurd hr_ (by rw [← Option.some.inj H]; decide)

/-- THE ONE PURE STATEMENT of laws_FnExactPricesOf. -/
def laws_FnExactPricesOf.Pure : Prop := ∀ (a0_0 : Int) (l0_1 : List (S77)) (l1 : List Int), ((Lit.int .i64 a0_0).wf = true) → l0_1.length ≤ 9223372036854775807 → (∀ x4_ ∈ l0_1, ((Lit.int .i64 x4_.f0).wf = true) ∧ ((Lit.int .i64 x4_.f1).wf = true) ∧ ((Lit.int .i64 x4_.f2).wf = true) ∧ ((Lit.int .i64 x4_.f3).wf = true)) → l1.length ≤ 9223372036854775807 → (∀ x2_ ∈ l1, (Lit.int .i64 x2_).wf = true) → ∃ k, laws_FnExactPricesOf.f k a0_0 l0_1 l1 = some true

/-! ### spec_NoneCheaper: function 20 -/
def spec_NoneCheaper.f (k : Nat) (a0_0 : Int) (l0_1 : List (S53)) (l1 : List Int) : Option (Bool) := (spec_PricesOf.f k a0_0 l0_1 l1).bind fun bt318 => (some bt318.2)
set_option maxHeartbeats 8000000 in
set_option maxRecDepth 100000 in
theorem spec_NoneCheaper.calls (k : Nat) (a0_0 : Int) (A0_1 : Option Addr) (c0_1 : Nat) (l0_1 : List (S53)) (A1 : Option Addr) (c1 : Nat) (l1 : List Int) (r : Bool) (w : World) (hr0_1 : Kd.C k53 w A0_1 l0_1.length l0_1) (hc0_1 : l0_1.length ≤ c0_1) (hr1 : Kd.C (Kd.int .i64) w A1 l1.length l1) (hc1 : l1.length ≤ c1) (h : spec_NoneCheaper.f k a0_0 l0_1 l1 = some r) :
  Calls Try.prog 20 #[.agg #[.int .i64 a0_0, .slice A0_1 l0_1.length c0_1], .slice A1 l1.length c1] w fun e w' => e = .returned (.bool r) ∧ Below w.heap.size w w' := by
 have hu30 := Try.underlying30
 have HR0_1 := Aside0.mk hr0_1
 have HC0_1 := Aside0.mk hc0_1
 clear hr0_1 hc0_1
 have HR1 := Aside0.mk hr1
 have HC1 := Aside0.mk hc1
 clear hr1 hc1
 have HB := Aside0.mk (Below.refl w.heap.size w)
 have H : ((spec_PricesOf.f k a0_0 l0_1 l1).bind fun bt318 => (some bt318.2)) = some r := h
 clear h
 replace H := Option.bind_eq_some_iff.mp H
 obtain ⟨⟨t318, t321⟩, A30, H⟩ := H
 replace H : (some t321) = some r := H
 have A3 := Aside0.mk A30
 clear A30
 obtain rfl := Option.some.inj H
 go_enter Try.func20, Try.ntmps20
 go_wp2_with (first | ((with_reducible refine gate_dst (N := 2) rfl ?_); refine box_event ?hg (N := 2) ?hd (cs := #[.int .i64 a0_0, .slice A0_1 l0_1.length c0_1]) (t := 30) ?hr ?_; (case hd => rfl); (case hg => rfl); (case hr => first | (go_simp; done) | (go_simp; rfl)); intro gb317 hg w4 hbox hb; have n0_ := Aside0.mk (below_step (uB HB.out) hb); have n1_ := Aside0.mk (hbox); have n2_ := Aside0.mk ((by rw [hg]; exact (below_size (uB HB.out)) : w.heap.size ≤ gb317)); have n3_ := Aside0.mk ((by rw [hg]; exact (below_size (uB HB.out)) : w.heap.size ≤ gb317)); clear HB; have HB := n0_; have BK317 := n1_; have GW317 := n2_; have GE317 := n3_; clear n0_ n1_ n2_ n3_; clear hb hbox hg; have hcz5_0 : w4.cell? ⟨gb317, 0, none⟩ = some (.int .i64 a0_0) := (blk_cell BK317.out 0).trans rfl; have hcz5_1 : w4.cell? ⟨gb317, 1, none⟩ = some (.slice A0_1 l0_1.length c0_1) := (blk_cell BK317.out 1).trans rfl; have hfz5_0 := blk_frozen BK317.out 0; have hfz5_1 := blk_frozen BK317.out 1) | ((with_reducible refine gate_callee (f := 15) rfl ?_); refine goesL_ (some 10) rfl rfl Try.func15 (by kernel_rfl) rfl #[.agg #[.int .i64 a0_0, .slice A0_1 l0_1.length c0_1], .slice A1 l1.length c1] rfl (by (try simp only [List.map_toArray, List.map_cons, List.map_nil]); first | done | rfl | (simp only [List.length_drop, List.length_take]; rfl)) ?_; (with_reducible refine (spec_PricesOf.calls k a0_0 _ _ l0_1 _ _ l1 t318 t321 _ ?side1 ?side2 ?side3 ?side4 A3.out).mono ?_); (case side1 => repeat (first | exact (Kd.C_below HR0_1.out HB.out) | (with_reducible refine Kd.C_alloc ?_ _) | (with_reducible refine Kd.C_drewN ?_ _) | (with_reducible refine Kd.C_drew ?_))); (case side2 => exact HC0_1.out); (case side3 => repeat (first | exact (Kd.C_below HR1.out HB.out) | (with_reducible refine Kd.C_alloc ?_ _) | (with_reducible refine Kd.C_drewN ?_ _) | (with_reducible refine Kd.C_drew ?_))); (case side4 => exact HC1.out); rintro e w6 ⟨v319, rfl, ho0, hb⟩; refine ⟨_, rfl, ?_⟩; have n0_ := Aside0.mk (Kd.R_lower ho0 (below_size (by repeat (first | (with_reducible first | exact HB.out | apply below_alloc | apply pw_below_drewN | apply below_drew1 | refine below_set ?_ GE317.out) | exact HB.out)))); have n1_ := Aside0.mk (blk_below (g := gb317) (o := .cells #[.int .i64 a0_0, .slice A0_1 l0_1.length c0_1] 30 (0, 0)) (by (with_reducible repeat (first | refine blk_drewN ?_ _ | refine blk_drew ?_ | refine blk_alloc ?_ _)); exact BK317.out) hb); have n2_ := Aside0.mk (below_step (by repeat (first | (with_reducible first | exact HB.out | apply below_alloc | apply pw_below_drewN | apply below_drew1 | refine below_set ?_ GE317.out) | exact HB.out)) hb); clear BK317; clear HB; have HO320 := n0_; have BK317 := n1_; have HB := n2_; clear n0_ n1_ n2_; (try clear hb); (try clear hb2); (try clear hk); (try clear hi); (try clear ho0)))
 go_ret
 exact ⟨by first | rfl | (simp [errW_none, errW_some] <;> rfl) | (simp [*, errW_none, errW_some] <;> rfl), by repeat (first | (with_reducible first | exact HB.out | apply below_alloc | apply pw_below_drewN | apply below_drew1 | refine below_set ?_ GE317.out) | exact HB.out)⟩

/-! ### impl_NoneCheaper: function 21 -/
def impl_NoneCheaper.f (k : Nat) (a0_0 : Int) (l0_1 : List (S53)) (l1 : List Int) : Option (Bool) := (impl_PricesOf.f k a0_0 l0_1 l1).bind fun bt323 => (some bt323.2)
set_option maxHeartbeats 8000000 in
set_option maxRecDepth 100000 in
theorem impl_NoneCheaper.calls (k : Nat) (a0_0 : Int) (A0_1 : Option Addr) (c0_1 : Nat) (l0_1 : List (S53)) (A1 : Option Addr) (c1 : Nat) (l1 : List Int) (r : Bool) (w : World) (hr0_1 : Kd.C k53 w A0_1 l0_1.length l0_1) (hc0_1 : l0_1.length ≤ c0_1) (hr1 : Kd.C (Kd.int .i64) w A1 l1.length l1) (hc1 : l1.length ≤ c1) (h : impl_NoneCheaper.f k a0_0 l0_1 l1 = some r) :
  Calls Try.prog 21 #[.agg #[.int .i64 a0_0, .slice A0_1 l0_1.length c0_1], .slice A1 l1.length c1] w fun e w' => e = .returned (.bool r) ∧ Below w.heap.size w w' := by
 have hu30 := Try.underlying30
 have HR0_1 := Aside0.mk hr0_1
 have HC0_1 := Aside0.mk hc0_1
 clear hr0_1 hc0_1
 have HR1 := Aside0.mk hr1
 have HC1 := Aside0.mk hc1
 clear hr1 hc1
 have HB := Aside0.mk (Below.refl w.heap.size w)
 have H : ((impl_PricesOf.f k a0_0 l0_1 l1).bind fun bt323 => (some bt323.2)) = some r := h
 clear h
 replace H := Option.bind_eq_some_iff.mp H
 obtain ⟨⟨t323, t326⟩, A30, H⟩ := H
 replace H : (some t326) = some r := H
 have A3 := Aside0.mk A30
 clear A30
 obtain rfl := Option.some.inj H
 go_enter Try.func21, Try.ntmps21
 go_wp2_with (first | ((with_reducible refine gate_dst (N := 2) rfl ?_); refine box_event ?hg (N := 2) ?hd (cs := #[.int .i64 a0_0, .slice A0_1 l0_1.length c0_1]) (t := 30) ?hr ?_; (case hd => rfl); (case hg => rfl); (case hr => first | (go_simp; done) | (go_simp; rfl)); intro gb322 hg w4 hbox hb; have n0_ := Aside0.mk (below_step (uB HB.out) hb); have n1_ := Aside0.mk (hbox); have n2_ := Aside0.mk ((by rw [hg]; exact (below_size (uB HB.out)) : w.heap.size ≤ gb322)); have n3_ := Aside0.mk ((by rw [hg]; exact (below_size (uB HB.out)) : w.heap.size ≤ gb322)); clear HB; have HB := n0_; have BK322 := n1_; have GW322 := n2_; have GE322 := n3_; clear n0_ n1_ n2_ n3_; clear hb hbox hg; have hcz5_0 : w4.cell? ⟨gb322, 0, none⟩ = some (.int .i64 a0_0) := (blk_cell BK322.out 0).trans rfl; have hcz5_1 : w4.cell? ⟨gb322, 1, none⟩ = some (.slice A0_1 l0_1.length c0_1) := (blk_cell BK322.out 1).trans rfl; have hfz5_0 := blk_frozen BK322.out 0; have hfz5_1 := blk_frozen BK322.out 1) | ((with_reducible refine gate_callee (f := 16) rfl ?_); refine goesL_ (some 10) rfl rfl Try.func16 (by kernel_rfl) rfl #[.agg #[.int .i64 a0_0, .slice A0_1 l0_1.length c0_1], .slice A1 l1.length c1] rfl (by (try simp only [List.map_toArray, List.map_cons, List.map_nil]); first | done | rfl | (simp only [List.length_drop, List.length_take]; rfl)) ?_; (with_reducible refine (impl_PricesOf.calls k a0_0 _ _ l0_1 _ _ l1 t323 t326 _ ?side1 ?side2 ?side3 ?side4 A3.out).mono ?_); (case side1 => repeat (first | exact (Kd.C_below HR0_1.out HB.out) | (with_reducible refine Kd.C_alloc ?_ _) | (with_reducible refine Kd.C_drewN ?_ _) | (with_reducible refine Kd.C_drew ?_))); (case side2 => exact HC0_1.out); (case side3 => repeat (first | exact (Kd.C_below HR1.out HB.out) | (with_reducible refine Kd.C_alloc ?_ _) | (with_reducible refine Kd.C_drewN ?_ _) | (with_reducible refine Kd.C_drew ?_))); (case side4 => exact HC1.out); rintro e w6 ⟨v324, rfl, ho0, hb⟩; refine ⟨_, rfl, ?_⟩; have n0_ := Aside0.mk (Kd.R_lower ho0 (below_size (by repeat (first | (with_reducible first | exact HB.out | apply below_alloc | apply pw_below_drewN | apply below_drew1 | refine below_set ?_ GE322.out) | exact HB.out)))); have n1_ := Aside0.mk (blk_below (g := gb322) (o := .cells #[.int .i64 a0_0, .slice A0_1 l0_1.length c0_1] 30 (0, 0)) (by (with_reducible repeat (first | refine blk_drewN ?_ _ | refine blk_drew ?_ | refine blk_alloc ?_ _)); exact BK322.out) hb); have n2_ := Aside0.mk (below_step (by repeat (first | (with_reducible first | exact HB.out | apply below_alloc | apply pw_below_drewN | apply below_drew1 | refine below_set ?_ GE322.out) | exact HB.out)) hb); clear BK322; clear HB; have HO325 := n0_; have BK322 := n1_; have HB := n2_; clear n0_ n1_ n2_; (try clear hb); (try clear hb2); (try clear hk); (try clear hi); (try clear ho0)))
 go_ret
 exact ⟨by first | rfl | (simp [errW_none, errW_some] <;> rfl) | (simp [*, errW_none, errW_some] <;> rfl), by repeat (first | (with_reducible first | exact HB.out | apply below_alloc | apply pw_below_drewN | apply below_drew1 | refine below_set ?_ GE322.out) | exact HB.out)⟩

end Go.Proofs.Ytkdemainohfgfaa.Q
