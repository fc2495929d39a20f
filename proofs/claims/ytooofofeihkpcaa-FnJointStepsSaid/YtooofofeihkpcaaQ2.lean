-- Written by a session's own program (wip/tools/myprint.py) over the kit's printer, out of the translation. Not trusted: Lean checks it.
import Derived.Test.YtooofofeihkpcaaQ0
import Derived.Test.YtooofofeihkpcaaQ1
-- squeezed
namespace Go.Proofs.Ytooofofeihkpcaa.Q
open Go.RowKit Go.Proofs.YtooofofeihkpcaaW.PrintWords Go.Proofs.YtooofofeihkpcaaW.PrintLast Go.Proofs.YtooofofeihkpcaaW.PrintMore
attribute [local go_sem] max2_int min2_int max_two min_two max_three min_three max_four min_four   -- for this text's walks alone
set_option linter.unusedVariables false
set_option linter.unusedSimpArgs false

/-! ### impl_StandsOf: function 26 -/
mutual
def impl_StandsOf.j0 : Nat → Int → List Int → Bool → Option ((List (List Int)))
 | 0, _, _, _ => none
 | k + 1, x1, x5, x24 => if x24 = true then (some ([] : List (List Int))) else (impl_StandsOf.l0 k x1 x5 (([[]] : List (List Int))))
def impl_StandsOf.l0 : Nat → Int → List Int → List (List Int) → Option ((List (List Int)))
 | 0, _, _, _ => none
 | k + 1, x1, x5, x6 => if x1 > 0 then (impl_StandsOf.l1 k x1 x5 ([] : List (List Int)) x6 (x6.length : Int) 0) else (some x6)
def impl_StandsOf.l1 : Nat → Int → List Int → List (List Int) → List (List Int) → Int → Int → Option ((List (List Int)))
 | 0, _, _, _, _, _, _ => none
 | k + 1, x1, x5, x7, x30, x31, x32 => if x32 < x31 then (if 0 ≤ x32 then (if x32 < (x30.length : Int) then (impl_StandsOf.l2 k x1 x5 x7 (rd_L3 x30 x32) x30 x31 x32 x5 (x5.length : Int) 0) else (none)) else (none)) else (impl_StandsOf.l0 k (wrap64 (x1 - 1)) x5 x7)
def impl_StandsOf.l2 : Nat → Int → List Int → List (List Int) → List Int → List (List Int) → Int → Int → List Int → Int → Int → Option ((List (List Int)))
 | 0, _, _, _, _, _, _, _, _, _, _ => none
 | k + 1, x1, x5, x7, x9, x30, x31, x32, x36, x37, x38 => if x38 < x37 then (if 0 ≤ x38 then (if x38 < (x36.length : Int) then (if (x9.length : Int) = 0 then ((slices_Clone_int_int.f x9).bind fun t112 => (if t112.length < 17592186044416 then (if x7.length < 5864062014805 then (impl_StandsOf.l2 k x1 x5 (x7 ++ [(t112 ++ [rd x36 x38])]) x9 x30 x31 x32 x36 x37 (wrap64 (x38 + 1))) else (none)) else (none))) else (if 0 ≤ (wrap64 ((x9.length : Int) - 1)) then (if (wrap64 ((x9.length : Int) - 1)) < (x9.length : Int) then (if (rd x9 (wrap64 ((x9.length : Int) - 1))) < (rd x36 x38) then ((slices_Clone_int_int.f x9).bind fun t122 => (if t122.length < 17592186044416 then (if x7.length < 5864062014805 then (impl_StandsOf.l2 k x1 x5 (x7 ++ [(t122 ++ [rd x36 x38])]) x9 x30 x31 x32 x36 x37 (wrap64 (x38 + 1))) else (none)) else (none))) else (impl_StandsOf.l2 k x1 x5 x7 x9 x30 x31 x32 x36 x37 (wrap64 (x38 + 1)))) else (none)) else (none))) else (none)) else (none)) else (impl_StandsOf.l1 k x1 x5 x7 x30 x31 (wrap64 (x32 + 1)))
end
def impl_StandsOf.f (k : Nat) (a0_0 : Int) (a0_1 : Int) (a0_2 : ByteArray) (a1 : Int) : Option ((List (List Int))) := (impl_FreeCells.f k a0_0 a0_1 a0_2).bind fun t104 => (if (t104.length : Int) > 9 then (impl_StandsOf.j0 k a1 t104 true) else (if a1 < 1 then (impl_StandsOf.j0 k a1 t104 true) else (impl_StandsOf.j0 k a1 t104 (decide (a1 > 3)))))
set_option maxHeartbeats 8000000 in
set_option maxRecDepth 100000 in
theorem impl_StandsOf.calls (k : Nat) (a0_0 : Int) (a0_1 : Int) (a0_2 : ByteArray) (a1 : Int) (r : List (List Int)) (w : World) (h : impl_StandsOf.f k a0_0 a0_1 a0_2 a1 = some r) :
  Calls Try.prog 26 #[.agg #[.int .i64 a0_0, .int .i64 a0_1, .string a0_2], .int .i64 a1] w fun e w' => ∃ v0_ : Value, e = .returned (v0_) ∧ Kd.S (Kd.slice 3 (Kd.int .i64)) 29 w' w.heap.size (fun _ => True) v0_ r ∧ Below w.heap.size w w' := by
 have hu26 := Try.underlying26; have HB := Aside0.mk (Below.refl w.heap.size w); have H : ((impl_FreeCells.f k a0_0 a0_1 a0_2).bind fun t104 => (if (t104.length : Int) > 9 then (impl_StandsOf.j0 k a1 t104 true) else (if a1 < 1 then (impl_StandsOf.j0 k a1 t104 true) else (impl_StandsOf.j0 k a1 t104 (decide (a1 > 3)))))) = some r := h; clear h; replace H := Option.bind_eq_some_iff.mp H; obtain ⟨t104, A30, H⟩ := H; have A3 := Aside0.mk A30; clear A30; have HC4 := Aside0.mk H; clear H; go_enter Try.func26, Try.ntmps26; go_upto_region 2 with (first | ((with_reducible refine gate_dst (N := 2) rfl ?_); (try (refine gate_guard (by rfl) ?_; dsimp only)); refine box_event ?hg (N := 2) ?hd (cs := #[.int .i64 a0_0, .int .i64 a0_1, .string a0_2]) (t := 26) ?hr ?_; (case hd => rfl); (case hg => rfl); (case hr => first | (go_simp; done) | (go_simp; rfl)); intro gb103 hg w5 hbox hb; have BK103 := Aside0.mk (hbox); have GW103 := Aside0.mk ((by rw [hg]; exact (below_size (uB HB.out)) : w.heap.size ≤ gb103)); have GE103 := Aside0.mk ((by rw [hg]; exact (below_size (uB HB.out)) : w.heap.size ≤ gb103)); replace HB := Aside0.mk (below_step (uB HB.out) hb); clear hb hbox hg; obtain ⟨hcz6_0, hcz6_1, hcz6_2, hfz6_0, hfz6_1, hfz6_2⟩ := bx3 BK103.out) | ((with_reducible refine gate_callee (f := 54) rfl ?_); refine gL_ (some 13) Try.func54 #[.agg #[.int .i64 a0_0, .int .i64 a0_1, .string a0_2]] ?_; (with_reducible refine (impl_FreeCells.calls k a0_0 a0_1 a0_2 t104 _ A3.out).mono ?_); rintro e w7 ⟨v105, rfl, ho0, hb⟩; refine ⟨_, rfl, ?_⟩; have HO106 := Aside0.mk (Kd.R_lower ho0 (below_size (uB HB.out))); replace BK103 := Aside0.mk (blk_below (uK BK103.out) hb); replace HB := Aside0.mk (below_step (uB HB.out) hb); (try clear hb); (try clear hb2); (try clear hk); (try clear hi); (try clear ho0)))
 (try simp only [Act.put, List.setIfInBounds_toArray, List.set_cons_zero, List.set_cons_succ]); go_cut [24] (fun v24 wc => ∃ (kq : Nat) (x24_3 : Bool), v24 = .bool x24_3 ∧ Aside0 (impl_StandsOf.j0 kq a1 t104 x24_3 = some r) ∧ Aside0 (kq ≤ k) ∧ Aside0 (Kd.R (Kd.int .i64) 3 wc w.heap.size (fun _ => True) v105 t104) ∧ Aside0 (wc.heap[gb103]? = some (.cells #[.int .i64 a0_0, .int .i64 a0_1, .string a0_2] 26 (0, 0))) ∧ Aside0 (Below w.heap.size w wc))
 case first =>
  have H := HC4.out; clear HC4; by_cases c8 : (t104.length : Int) > 9
  ·rw [if_pos c8] at H; have c8b0 : decide (9 < (t104.length : Int)) = true := decide_eq_true c8; have c8b1 : decide (9 < t104.length) = true := decide_eq_true (by omega); clear c8; (first | rw [c8b0] | (simp only [i64_w, i32_w]; rw [c8b0]) | skip); have H' := Aside0.mk H; clear H; obtain ⟨Ao9, co9, eo9⟩ := Kd.R_slice HO106.out; subst eo9; go_wp2; go_meet
   case rel => exact ⟨_, (true), ev_, H', ⟨by first | omega | exact Nat.le_refl _⟩, ⟨uR HO106.out⟩, ⟨uK BK103.out⟩, ⟨uB HB.out⟩⟩
  ·rw [if_neg c8] at H; have c8b0 : decide (9 < (t104.length : Int)) = false := decide_eq_false c8; have c8b1 : decide (9 < t104.length) = false := decide_eq_false (by omega); clear c8; (first | rw [c8b0] | (simp only [i64_w, i32_w]; rw [c8b0]) | skip); by_cases c10 : a1 < 1
   ·rw [if_pos c10] at H; have c10b0 : decide (a1 < 1) = true := decide_eq_true c10; clear c10; have H' := Aside0.mk H; clear H; obtain ⟨Ao11, co11, eo11⟩ := Kd.R_slice HO106.out; subst eo11; go_wp2; go_meet
    case rel => exact ⟨_, (true), ev_, H', ⟨by first | omega | exact Nat.le_refl _⟩, ⟨uR HO106.out⟩, ⟨uK BK103.out⟩, ⟨uB HB.out⟩⟩
   ·rw [if_neg c10] at H; have c10b0 : decide (a1 < 1) = false := decide_eq_false c10; clear c10; have H' := Aside0.mk H; clear H; obtain ⟨Ao12, co12, eo12⟩ := Kd.R_slice HO106.out; subst eo12; go_wp2; go_meet
    case rel => exact ⟨_, (decide (a1 > 3)), ev_, H', ⟨by first | omega | exact Nat.le_refl _⟩, ⟨uR HO106.out⟩, ⟨uK BK103.out⟩, ⟨uB HB.out⟩⟩
 case rest =>
  clear HC4; (try clear c1); (try clear c2); (try clear p2); (try clear c5); (try clear c8); (try clear c8b0); (try clear c8b1); (try clear c10); (try clear c10b0); (try clear hcz6_0); (try clear hcz6_1); (try clear hcz6_2); (try clear hfz6_0); (try clear hfz6_1); (try clear hfz6_2); obtain ⟨kq, x24_3, rfl, HA, HJ3, HO_5, BK103, HB⟩ := hcut
  cases kq with
  | zero => exact absurd HA.out (by simp [impl_StandsOf.j0])
  | succ kj3 =>
   have H := HA.out; clear HA; simp only [impl_StandsOf.j0] at H; by_cases c13 : x24_3 = true
   ·subst c13; rw [if_pos rfl] at H; obtain rfl := Option.some.inj H; go_wp2; go_ret; exact ⟨_, by first | rfl | (simp [errW_none, errW_some] <;> rfl) | (simp [*, errW_none, errW_some] <;> rfl), by first | exact Kd.S_nil _ _ _ _ _ | exact Kd.N_nil _ _ _ _ _ | exact Kd.V_nil _ _ _ _ _ | exact Kd.Q_nil _ _ _ _ _ | exact Kd.R_nil _ _ _ _ _, uB HB.out⟩
   ·replace c13 := Bool.eq_false_iff.mpr c13; subst c13; rw [if_neg (show ¬ (false = true) by decide)] at H; obtain ⟨y107, hy107⟩ : ∃ y_ : List (List Int), y_ = (([[]] : List (List Int))) := ⟨_, rfl⟩; replace H : (impl_StandsOf.l0 kj3 a1 t104 y107) = some r := by first | (rw [hy107]; with_reducible exact H) | (have H2_ := (Option.bind_some _ _).symm.trans H; rw [hy107]; with_reducible exact H2_) | (have H2_ := (Option.bind_some _ _).symm.trans H; with_reducible exact H2_) | with_reducible exact H | (rw [hy107]; exact H) | exact H
    have Ny107 := Aside0.mk hy107; clear hy107; have H' := Aside0.mk H; clear H; go_wp2_with (first | ((with_reducible refine gate_dst (N := 25) rfl ?_); (try (refine gate_guard (by rfl) ?_; dsimp only)); refine Kd.S_lit (Kd.slice 3 (Kd.int .i64)) _ 29 ?hg (N := 25) ?hd (xs := ([[]] : List (List Int))) (inner := [.slice none 0 0]) (ok := fun _ => True) (okp := fun _ => True) ?hr ?hp (fun _ hk => hk) trivial (Below.refl _ _) (Nat.le_refl _) (by simp) ?_; (case hd => rfl); (case hg => rfl); (case hr => first | (go_simp; done) | (go_simp; rfl)); (case hp => exact (Reps.one (show Kd.M (Kd.slice 3 (Kd.int .i64)) _ _ _ [] [.slice none 0 0] from ⟨_, rfl, Kd.R_nil _ _ _ _ _⟩) (Reps.none _ _))); intro v108 w14 ho15 hb hg_ hnew_; clear hg_ hnew_; (first | rw [← Ny107.out] at ho15 | (simp only [Int.reduceToNat] at ho15; rw [← Ny107.out] at ho15)); have HO109 := Aside0.mk (Kd.S_lower (Kd.S_new' ho15 (Kd.R_lt (uR HO_5.out))) (below_size (uB HB.out))); replace HO_5 := Aside0.mk (Kd.R_below (uR HO_5.out) hb); replace BK103 := Aside0.mk (blk_below (uK BK103.out) hb); replace HB := Aside0.mk (below_step (uB HB.out) hb); clear hb ho15))
    go_loopg [1, 6] kj3 (fun kq v1 v6 w' => ∃ (x1_2 : Int) (x6_2 : List (List Int)), v1 = .int .i64 x1_2 ∧ Aside0 (impl_StandsOf.l0 kq x1_2 t104 x6_2 = some r) ∧ Aside0 (kq ≤ kj3) ∧ Aside0 (Kd.R (Kd.int .i64) 3 w' w.heap.size (fun _ => True) v105 t104) ∧ Aside0 (Kd.S (Kd.slice 3 (Kd.int .i64)) 29 w' w.heap.size (fun k_ => some k_ ≠ (v105 : Value).ownBlock) v6 x6_2) ∧ Aside0 (w'.heap[gb103]? = some (.cells #[.int .i64 a0_0, .int .i64 a0_1, .string a0_2] 26 (0, 0))) ∧ Aside0 (Below w.heap.size w w'))
    case atStart => exact ⟨(a1), (y107), ev_, H', ⟨Nat.le_refl _⟩, ⟨uR HO_5.out⟩, ⟨uS (Kd.S_mono HO109.out (fun _ hk => hk.2))⟩, ⟨uK BK103.out⟩, ⟨uB HB.out⟩⟩
    case round =>
     clear H'; (try clear c1); (try clear c2); (try clear p2); (try clear c5); (try clear c8); (try clear c8b0); (try clear c8b1); (try clear c10); (try clear c10b0); (try clear c13); (try clear hcz6_0); (try clear hcz6_1); (try clear hcz6_2); (try clear hfz6_0); (try clear hfz6_1); (try clear hfz6_2); (try clear p2); obtain ⟨x1_2, x6_2, rfl, HA, HK2, HO_5, HO_6, BK103, HB⟩ := hrel
     cases gk with
     | zero => exact absurd HA.out (by simp [impl_StandsOf.l0])
     | succ k2 =>
      have H := HA.out; clear HA; simp only [impl_StandsOf.l0] at H; by_cases c16 : x1_2 > 0
      ·rw [if_pos c16] at H; have c16b0 : decide (0 < x1_2) = true := decide_eq_true c16; clear c16; have H' := Aside0.mk H; clear H; obtain ⟨Ao17, co17, eo17⟩ := Kd.S_slice HO_6.out; subst eo17; go_wp2; go_loopg [7, 32] k2 (fun kq v7 v32 w' => ∃ (x7_3 : List (List Int)) (x32_3 : Int), v32 = .int .i64 x32_3 ∧ Aside0 (impl_StandsOf.l1 kq x1_2 t104 x7_3 x6_2 (x6_2.length : Int) x32_3 = some r) ∧ Aside0 (kq ≤ k2) ∧ Aside0 (Kd.R (Kd.int .i64) 3 w' w.heap.size (fun _ => True) v105 t104) ∧ Aside0 (Kd.S (Kd.slice 3 (Kd.int .i64)) 29 w' w.heap.size (fun k_ => some k_ ≠ (v105 : Value).ownBlock ∧ some k_ ≠ ((.slice Ao17 x6_2.length co17) : Value).ownBlock) v7 x7_3) ∧ Aside0 (Kd.S (Kd.slice 3 (Kd.int .i64)) 29 w' w.heap.size (fun k_ => some k_ ≠ (v105 : Value).ownBlock ∧ some k_ ≠ (v7 : Value).ownBlock) (.slice Ao17 x6_2.length co17) x6_2) ∧ Aside0 (w'.heap[gb103]? = some (.cells #[.int .i64 a0_0, .int .i64 a0_1, .string a0_2] 26 (0, 0))) ∧ Aside0 (Below w.heap.size w w'))
       case atStart => exact ⟨(([] : List (List Int))), (0), ev_, H', ⟨Nat.le_refl _⟩, ⟨uR HO_5.out⟩, ⟨by first | exact Kd.S_nil _ _ _ _ _ | exact Kd.N_nil _ _ _ _ _ | exact Kd.V_nil _ _ _ _ _ | exact Kd.Q_nil _ _ _ _ _ | exact Kd.R_nil _ _ _ _ _⟩, ⟨uS (Kd.S_mono HO_6.out (fun _ hk => ⟨hk, (by simp [Value.ownBlock])⟩))⟩, ⟨uK BK103.out⟩, ⟨uB HB.out⟩⟩
       case round =>
        clear H'; (try clear c1); (try clear c2); (try clear p2); (try clear c5); (try clear c8); (try clear c8b0); (try clear c8b1); (try clear c10); (try clear c10b0); (try clear c13); (try clear c16); (try clear c16b0); (try clear hcz6_0); (try clear hcz6_1); (try clear hcz6_2); (try clear hfz6_0); (try clear hfz6_1); (try clear hfz6_2); (try clear p2); obtain ⟨x7_3, x32_3, rfl, HA, HK3, HO_5, HO_7, HO_30, BK103, HB⟩ := hrel
        cases gk with
        | zero => exact absurd HA.out (by simp [impl_StandsOf.l1])
        | succ k3 =>
         have H := HA.out; clear HA; simp only [impl_StandsOf.l1] at H; by_cases c18 : x32_3 < (x6_2.length : Int)
         ·rw [if_pos c18] at H; have c18b0 : decide (x32_3 < (x6_2.length : Int)) = true := decide_eq_true c18; clear c18; by_cases c19 : 0 ≤ x32_3
          ·rw [if_pos c19] at H; have c19b0 : decide (0 ≤ x32_3) = true := decide_eq_true c19; clear c19; by_cases c20 : x32_3 < (x6_2.length : Int)
           ·rw [if_pos c20] at H; have c20b0 : decide (x32_3 < (x6_2.length : Int)) = true := decide_eq_true c20; clear c20; have H' := Aside0.mk H; clear H; have p110 : 0 ≤ (x32_3 : Int) := od_; have q110 : x32_3 < (x6_2.length : Int) := od_; obtain ⟨ad110, A110_0, c110_0, e110, hx110_0, hl110_0, hi110_0⟩ := at_L3 (Kd.S_reads' HO_30.out).2.2 x32_3 p110 q110
            cases e110; obtain ⟨ce110, hce110, hMe110, hcc110⟩ := Kd.S_get HO_30.out [] x32_3 p110 (by first | exact q110 | exact of_decide_eq_true (by first | (with_reducible assumption) | assumption) | (have e_ := (Kd.S_reads' HO_30.out).1; omega)); obtain ⟨ve110_0, rfl, ge110_0⟩ := hMe110; have hv110_0 := hcc110 0 _ rfl; rw [Nat.add_zero, show ((Kd.slice 3 (Kd.int .i64))).sz = 1 from rfl, Nat.mul_one] at hv110_0; replace hv110_0 := Option.some.inj (hv110_0.symm.trans hx110_0); rw [hv110_0] at ge110_0; have HL110_0 := Aside0.mk (show Kd.R (Kd.int .i64) 3 _ _ _ _ (rd_L3 x6_2 x32_3) from ge110_0); have HX := Aside0.mk (Kd.R_mono (ok' := fun _ => True) HL110_0.out (fun _ _ => trivial)); clear hv110_0 ge110_0; clear hcc110 hce110; have HR110_0 := Aside0.mk hi110_0; have HC110_0 := Aside0.mk hl110_0; clear hi110_0 hl110_0; replace p110 := eq_true p110; replace q110 := eq_true q110; obtain ⟨Ao21, co21, eo21⟩ := Kd.R_slice HO_5.out; subst eo21; go_wp2; go_loopg [7, 38] k3 (fun kq v7 v38 w' => ∃ (x7_4 : List (List Int)) (x38_4 : Int), v38 = .int .i64 x38_4 ∧ Aside0 (impl_StandsOf.l2 kq x1_2 t104 x7_4 (rd_L3 x6_2 x32_3) x6_2 (x6_2.length : Int) x32_3 t104 (t104.length : Int) x38_4 = some r) ∧ Aside0 (kq ≤ k3) ∧ Aside0 (Kd.R (Kd.int .i64) 3 w' w.heap.size (fun _ => True) (.slice Ao21 t104.length co21) t104) ∧ Aside0 (Kd.S (Kd.slice 3 (Kd.int .i64)) 29 w' w.heap.size (fun k_ => some k_ ≠ ((.slice Ao21 t104.length co21) : Value).ownBlock ∧ some k_ ≠ ((.slice (some ad110) x6_2.length co17) : Value).ownBlock ∧ some k_ ≠ ((.slice Ao21 t104.length co21) : Value).ownBlock) v7 x7_4) ∧ Aside0 (Kd.S (Kd.slice 3 (Kd.int .i64)) 29 w' w.heap.size (fun k_ => some k_ ≠ ((.slice Ao21 t104.length co21) : Value).ownBlock ∧ some k_ ≠ (v7 : Value).ownBlock ∧ some k_ ≠ ((.slice Ao21 t104.length co21) : Value).ownBlock) (.slice (some ad110) x6_2.length co17) x6_2) ∧ Aside0 (Kd.R (Kd.int .i64) 3 w' w.heap.size (fun _ => True) (.slice Ao21 t104.length co21) t104) ∧ Aside0 (Kd.R (Kd.int .i64) 3 w' w.heap.size (fun _ => True) (.slice A110_0 (rd_L3 x6_2 x32_3).length c110_0) (rd_L3 x6_2 x32_3)) ∧ Aside0 (w'.heap[gb103]? = some (.cells #[.int .i64 a0_0, .int .i64 a0_1, .string a0_2] 26 (0, 0))) ∧ Aside0 (Below w.heap.size w w'))
            case atStart => exact ⟨(x7_3), (0), ev_, H', ⟨Nat.le_refl _⟩, ⟨uR HO_5.out⟩, ⟨uS (Kd.S_mono HO_7.out (fun _ hk => ⟨hk.1, ⟨hk.2, hk.1⟩⟩))⟩, ⟨uS (Kd.S_mono HO_30.out (fun _ hk => ⟨hk.1, ⟨hk.2, hk.1⟩⟩))⟩, ⟨uR HO_5.out⟩, ⟨uR HX.out⟩, ⟨uK BK103.out⟩, ⟨uB HB.out⟩⟩
            case round =>
             clear H'; (try clear c1); (try clear p1); (try clear q1); (try clear hx1); (try clear c2); (try clear p2); (try clear c5); (try clear c8); (try clear c8b0); (try clear c8b1); (try clear c10); (try clear c10b0); (try clear c11); (try clear p11); (try clear q11); (try clear hx11); (try clear c13); (try clear c16); (try clear c16b0); (try clear c18); (try clear c18b0); (try clear c19); (try clear c19b0); (try clear c20); (try clear c20b0); (try clear hcz6_0); (try clear hcz6_1); (try clear hcz6_2); (try clear hfz6_0); (try clear hfz6_1); (try clear hfz6_2); (try clear hx110_0); (try clear p110); (try clear p2); (try clear q110); obtain ⟨x7_4, x38_4, rfl, HA, HK4, HO_5, HO_7, HO_30, HO_36, HX, BK103, HB⟩ := hrel; have HR110_0 := Aside0.mk (Kd.R_reads' HX.out).2.2
             cases gk with
             | zero => exact absurd HA.out (by simp [impl_StandsOf.l2])
             | succ k4 =>
              have H := HA.out; clear HA; simp only [impl_StandsOf.l2] at H; by_cases c22 : x38_4 < (t104.length : Int)
              ·rw [if_pos c22] at H; have c22b0 : decide (x38_4 < (t104.length : Int)) = true := decide_eq_true c22; clear c22; by_cases c23 : 0 ≤ x38_4
               ·rw [if_pos c23] at H; have c23b0 : decide (0 ≤ x38_4) = true := decide_eq_true c23; clear c23; by_cases c24 : x38_4 < (t104.length : Int)
                ·rw [if_pos c24] at H; have c24b0 : decide (x38_4 < (t104.length : Int)) = true := decide_eq_true c24; clear c24; by_cases c25 : ((rd_L3 x6_2 x32_3).length : Int) = 0
                 ·rw [if_pos c25] at H; have c25b0 : (((rd_L3 x6_2 x32_3).length : Int) == 0) = true := beq_iff_eq.mpr c25; have c25b1 : (((rd_L3 x6_2 x32_3).length : Int) != 0) = false := bne_eq_false_iff_eq.mpr c25; clear c25; replace H := Option.bind_eq_some_iff.mp H; obtain ⟨t112, A260, H⟩ := H; have A26 := Aside0.mk A260; clear A260; by_cases c27 : t112.length < 17592186044416
                  ·rw [if_pos c27] at H; have LMc27 := Aside0.mk c27; clear c27; obtain ⟨y115, hy115⟩ : ∃ y_ : List Int, y_ = (t112 ++ [rd t104 x38_4]) := ⟨_, rfl⟩; replace H : (if x7_4.length < 5864062014805 then (impl_StandsOf.l2 k4 x1_2 t104 (x7_4 ++ [y115]) (rd_L3 x6_2 x32_3) x6_2 (x6_2.length : Int) x32_3 t104 (t104.length : Int) (wrap64 (x38_4 + 1))) else (none)) = some r := by first | (rw [hy115]; with_reducible exact H) | (have H2_ := (Option.bind_some _ _).symm.trans H; rw [hy115]; with_reducible exact H2_) | (have H2_ := (Option.bind_some _ _).symm.trans H; with_reducible exact H2_) | with_reducible exact H | (rw [hy115]; exact H) | exact H
                   have Ny115 := Aside0.mk hy115; clear hy115; by_cases c28 : x7_4.length < 5864062014805
                   ·rw [if_pos c28] at H; have LMc28 := Aside0.mk c28; clear c28; obtain ⟨y118, hy118⟩ : ∃ y_ : List (List Int), y_ = (x7_4 ++ [y115]) := ⟨_, rfl⟩; replace H : (impl_StandsOf.l2 k4 x1_2 t104 y118 (rd_L3 x6_2 x32_3) x6_2 (x6_2.length : Int) x32_3 t104 (t104.length : Int) (wrap64 (x38_4 + 1))) = some r := by first | (rw [hy118]; with_reducible exact H) | (have H2_ := (Option.bind_some _ _).symm.trans H; rw [hy118]; with_reducible exact H2_) | (have H2_ := (Option.bind_some _ _).symm.trans H; with_reducible exact H2_) | with_reducible exact H | (rw [hy118]; exact H) | exact H
                    have Ny118 := Aside0.mk hy118; clear hy118; have H' := Aside0.mk H; clear H; have p111 : 0 ≤ (x38_4 : Int) := od_; have q111 : x38_4 < (t104.length : Int) := od_; obtain ⟨ad111, e111, hx111_0⟩ := Kd.at_int (Kd.R_reads' HO_36.out).2.2 x38_4 p111 q111
                    cases e111; replace p111 := eq_true p111; replace q111 := eq_true q111; go_wp2_with (first | ((with_reducible refine gate_callee (f := 59) rfl ?_); refine gL_ (some 57) Try.func59 #[.slice A110_0 (rd_L3 x6_2 x32_3).length c110_0] ?_; (with_reducible refine (slices_Clone_int_int.calls _ _ (rd_L3 x6_2 x32_3) t112 _ ?side1 ?side2 A26.out).mono ?_); (case side1 => exact uC HR110_0.out); (case side2 => exact HC110_0.out); rintro e w29 ⟨v113, rfl, ho0, hb⟩; refine ⟨_, rfl, ?_⟩; have n0_ := Aside0.mk (Kd.R_elder' (uR HO_5.out) (Kd.R_base ho0) hb); have n1_ := Aside0.mk (Kd.S_elder' (uS HO_7.out) (Kd.R_base ho0) hb); have n2_ := Aside0.mk (Kd.S_elder' (uS HO_30.out) (Kd.R_base ho0) hb); have n3_ := Aside0.mk (Kd.R_elder' (uR HO_36.out) (Kd.R_base ho0) hb); have nx_ := Aside0.mk (Kd.R_elder' (uR HX.out) (Kd.R_base ho0) hb); have n4_ := Aside0.mk (Kd.R_lower (Kd.R_new' (Kd.R_new' ho0 (Kd.R_lt (uR HO_5.out))) (Kd.R_lt (uR HO_36.out))) (below_size (uB HB.out))); have n5_ := Aside0.mk (blk_below (uK BK103.out) hb); have n6_ := Aside0.mk (below_step (uB HB.out) hb); clear HO_5; clear HO_7; clear HO_30; clear HO_36; clear HX; clear BK103; clear HB; have HO_5 := n0_; have HO_7 := n1_; have HO_30 := n2_; have HO_36 := n3_; have HX := nx_; have HO114 := n4_; have BK103 := n5_; have HB := n6_; clear n0_ n1_ n2_ n3_ n4_ n5_ n6_ nx_; (try clear hb); (try clear hb2); (try clear hk); (try clear hi); (try clear ho0)) | ((with_reducible refine gate_builtin (b := .append) (xs := #[.tmp 57, .tmp 59]) rfl ?_); (try (refine gate_guard (by rfl) ?_; dsimp only)); at_builtin; refine Kd.R_append (Kd.int .i64) (w0 := w) w.heap.size rfl (.tmp 57) (.tmp 59) 29 3 (.int .i64 0) 8 rfl Try.underlying29 info3 rfl (by decide) (by omega) v113 t112 (rd t104 x38_4) [.int .i64 (rd t104 x38_4)] (fun k_ => some k_ ≠ (.slice (some ad111) t104.length co21 : Value).ownBlock ∧ some k_ ≠ (.slice (some ad111) t104.length co21 : Value).ownBlock) (fun _ => False) rfl rfl ?aP (fun _ hk => hk.elim) ?aF ?aO ?aB ?aS ?aL ?_; (case aP => exact rfl); (case aB => exact (uB HB.out)); (case aF => exact (fun k_ hk => ⟨Kd.fresh' (Kd.R_lt (uR HO_5.out)) k_ hk, Kd.fresh' (Kd.R_lt (uR HO_36.out)) k_ hk⟩)); (case aO => exact (uR (Kd.R_mono HO114.out (fun _ hk => ⟨hk.1.2, hk.2⟩)))); (case aS => exact (below_size (uB HB.out))); (case aL => have := LMc27.out; omega); intro v116 w30 ho hb hg hat; rw [← Ny115.out] at ho; have n0_ := Aside0.mk (Kd.R_after (ok := (fun _ => True)) (uR HO_5.out) hg hat); have n1_ := Aside0.mk (Kd.S_after (ok := (fun k_ => some k_ ≠ (.slice (some ad111) t104.length co21 : Value).ownBlock ∧ some k_ ≠ (.slice (some ad110) x6_2.length co17 : Value).ownBlock ∧ some k_ ≠ (.slice (some ad111) t104.length co21 : Value).ownBlock)) (uS HO_7.out) hg hat); have n2_ := Aside0.mk (Kd.S_after (ok := (fun k_ => some k_ ≠ (.slice (some ad111) t104.length co21 : Value).ownBlock ∧ some k_ ≠ (u7 : Value).ownBlock ∧ some k_ ≠ (.slice (some ad111) t104.length co21 : Value).ownBlock)) (uS HO_30.out) hg hat); have n3_ := Aside0.mk (Kd.R_after (ok := (fun _ => True)) (uR HO_36.out) hg hat); have nx_ := Aside0.mk (Kd.R_after (ok := (fun _ => True)) (uR HX.out) hg hat); have n4_ := Aside0.mk (blk_grown (uK BK103.out) hg (Kd.R_ne HO114.out BK103.out (by decide))); have n5_ := Aside0.mk (hb); have n6_ := Aside0.mk (ho); clear HO_5; clear HO_7; clear HO_30; clear HO_36; clear HX; clear BK103; clear HB; clear HO114; have HO_5 := n0_; have HO_7 := n1_; have HO_30 := n2_; have HO_36 := n3_; have HX := nx_; have BK103 := n4_; have HB := n5_; have HO117 := n6_; clear n0_ n1_ n2_ n3_ n4_ n5_ n6_ nx_; clear ho hb hg hat; obtain ⟨Ao32, co32, eo32⟩ := Kd.R_slice HO117.out; subst eo32) | ((with_reducible refine gate_builtin (b := .append) (xs := #[.tmp 55, .tmp 61]) rfl ?_); (try (refine gate_guard (by rfl) ?_; dsimp only)); at_builtin; refine Kd.S_append (Kd.slice 3 (Kd.int .i64)) (w0 := w) w.heap.size rfl (.tmp 55) (.tmp 61) 36 29 (.slice none 0 0) 24 rfl Try.underlying36 info29 rfl (by decide) (by omega) u7 x7_4 y115 [.slice Ao32 y115.length co32] (fun k_ => some k_ ≠ (.slice (some ad111) t104.length co21 : Value).ownBlock ∧ some k_ ≠ (.slice (some ad110) x6_2.length co17 : Value).ownBlock ∧ some k_ ≠ (.slice (some ad111) t104.length co21 : Value).ownBlock) (fun k_ => some k_ = (.slice Ao32 y115.length co32 : Value).ownBlock) rfl rfl ?aP (fun k_ hk_ => ((Kd.R_mono (ok' := fun k_ => ((fun k_ => some k_ ≠ (.slice (some ad111) t104.length co21 : Value).ownBlock ∧ some k_ ≠ (.slice (some ad110) x6_2.length co17 : Value).ownBlock ∧ some k_ ≠ (.slice (some ad111) t104.length co21 : Value).ownBlock)) k_ ∧ some k_ ≠ (u7 : Value).ownBlock) (Kd.R_apart' (Kd.R_apart' (HO117.out) (Kd.S_typed HO_30.out) (by decide)) (Kd.S_typed HO_7.out) (by decide)) (fun k_ hk => ⟨⟨hk.1.1.1, ⟨hk.1.2, hk.1.1.2⟩⟩, hk.2⟩))).1 k_ hk_.symm) ?aF ?aO ?aB ?aS ?aL ?_; (case aP => exact Kd.M_row (Kd.R_mono (Kd.R_tight rfl (Kd.R_mono (ok' := fun k_ => ((fun k_ => some k_ ≠ (.slice (some ad111) t104.length co21 : Value).ownBlock ∧ some k_ ≠ (.slice (some ad110) x6_2.length co17 : Value).ownBlock ∧ some k_ ≠ (.slice (some ad111) t104.length co21 : Value).ownBlock)) k_ ∧ some k_ ≠ (u7 : Value).ownBlock) (Kd.R_apart' (Kd.R_apart' (HO117.out) (Kd.S_typed HO_30.out) (by decide)) (Kd.S_typed HO_7.out) (by decide)) (fun k_ hk => ⟨⟨hk.1.1.1, ⟨hk.1.2, hk.1.1.2⟩⟩, hk.2⟩))) (fun _ h_ => h_))); (case aB => exact (uB HB.out)); (case aF => exact (fun k_ hk => ⟨Kd.fresh' (Kd.R_lt (uR HO_5.out)) k_ hk, Kd.fresh' (Kd.S_lt (uS HO_30.out)) k_ hk, Kd.fresh' (Kd.R_lt (uR HO_36.out)) k_ hk⟩)); (case aO => exact (uS (Kd.S_mono HO_7.out (fun k_ hk => ⟨⟨hk.1.1, ⟨hk.1.2.1, hk.1.2.2⟩⟩, fun e_ => hk.2 e_⟩)))); (case aS => exact (below_size (uB HB.out))); (case aL => have := LMc28.out; omega); intro v119 w31 ho hb hg hat; rw [← Ny118.out] at ho; have n0_ := Aside0.mk (Kd.R_over' (uR HO_5.out) (Kd.S_typed (uS HO_7.out)) (by decide) hg); have n1_ := Aside0.mk (Kd.S_after (ok := (fun k_ => some k_ ≠ (.slice (some ad111) t104.length co21 : Value).ownBlock ∧ some k_ ≠ (.slice (some ad111) t104.length co21 : Value).ownBlock ∧ some k_ ≠ (.slice Ao32 y115.length co32 : Value).ownBlock)) (uS (Kd.S_mono HO_30.out (fun _ hk => ⟨⟨hk.1.1, ⟨hk.1.2.2, hk.2⟩⟩, hk.1.2.1⟩))) hg hat); have n2_ := Aside0.mk (Kd.R_over' (uR HO_36.out) (Kd.S_typed (uS HO_7.out)) (by decide) hg); have nx_ := Aside0.mk (Kd.R_over' (uR HX.out) (Kd.S_typed (uS HO_7.out)) (by decide) hg); have n3_ := Aside0.mk (blk_grown (uK BK103.out) hg (Kd.S_ne HO_7.out BK103.out (by decide))); have n4_ := Aside0.mk (hb); have n5_ := Aside0.mk (ho); clear HO_5; clear HO_30; clear HO_36; clear HX; clear BK103; clear HB; clear HO_7; clear HO117; have HO_5 := n0_; have HO_30 := n1_; have HO_36 := n2_; have HX := nx_; have BK103 := n3_; have HB := n4_; have HO120 := n5_; clear n0_ n1_ n2_ n3_ n4_ n5_ nx_; clear ho hb hg hat))
                    go_roundg k4
                    case measure => have := HJ3.out; have := HK2.out; have := HK3.out; have := HK4.out; omega
                    case rel => exact ⟨(y118), (wrap64 (x38_4 + 1)), ev_, H', ⟨by have := HJ3.out; have := HK2.out; have := HK3.out; have := HK4.out; omega⟩, ⟨uR (Kd.R_mono HO_5.out (fun _ hk => trivial))⟩, ⟨uS HO120.out⟩, ⟨uS (Kd.S_mono HO_30.out (fun _ hk => ⟨hk.1.1, ⟨hk.2, hk.1.2.1⟩⟩))⟩, ⟨uR (Kd.R_mono HO_36.out (fun _ hk => trivial))⟩, ⟨uR (Kd.R_mono HX.out (fun _ hk => trivial))⟩, ⟨uK BK103.out⟩, ⟨uB HB.out⟩⟩
                   ·rw [if_neg c28] at H; exact absurd H (by simp)
                  ·rw [if_neg c27] at H; exact absurd H (by simp)
                 ·rw [if_neg c25] at H; have c25b0 : (((rd_L3 x6_2 x32_3).length : Int) == 0) = false := beq_eq_false_iff_ne.mpr c25; have c25b1 : (((rd_L3 x6_2 x32_3).length : Int) != 0) = true := bne_iff_ne.mpr c25; have c25b2 : ¬ ((rd_L3 x6_2 x32_3) = []) := fun h_ => c25 (by rw [h_]; rfl)
                  obtain ⟨ji33, hji33⟩ : ∃ j_ : Int, (wrap64 (((rd_L3 x6_2 x32_3).length : Int) - 1)) = j_ := ⟨_, rfl⟩; replace H : (if 0 ≤ (ji33) then (if (ji33) < ((rd_L3 x6_2 x32_3).length : Int) then (if (rd (rd_L3 x6_2 x32_3) (ji33)) < (rd t104 x38_4) then ((slices_Clone_int_int.f (rd_L3 x6_2 x32_3)).bind fun t122 => (if t122.length < 17592186044416 then (if x7_4.length < 5864062014805 then (impl_StandsOf.l2 k4 x1_2 t104 (x7_4 ++ [(t122 ++ [rd t104 x38_4])]) (rd_L3 x6_2 x32_3) x6_2 (x6_2.length : Int) x32_3 t104 (t104.length : Int) (wrap64 (x38_4 + 1))) else (none)) else (none))) else (impl_StandsOf.l2 k4 x1_2 t104 x7_4 (rd_L3 x6_2 x32_3) x6_2 (x6_2.length : Int) x32_3 t104 (t104.length : Int) (wrap64 (x38_4 + 1)))) else (none)) else (none)) = some r := by first | (rw [hji33] at H; exact H) | (simp only [hji33] at H ⊢; exact H)
                  have hji33w : (IntKind.i64.wrap (((rd_L3 x6_2 x32_3).length : Int) - 1)) = ji33 := (i64_w _).trans hji33; by_cases c34 : 0 ≤ (ji33)
                  ·rw [if_pos c34] at H; have c34b0 : decide (0 ≤ (ji33)) = true := decide_eq_true c34; clear c34; by_cases c35 : (ji33) < ((rd_L3 x6_2 x32_3).length : Int)
                   ·rw [if_pos c35] at H; have c35b0 : decide ((ji33) < ((rd_L3 x6_2 x32_3).length : Int)) = true := decide_eq_true c35; clear c35; by_cases c36 : (rd (rd_L3 x6_2 x32_3) (ji33)) < (rd t104 x38_4)
                    ·rw [if_pos c36] at H; have c36b0 : decide ((rd (rd_L3 x6_2 x32_3) (ji33)) < (rd t104 x38_4)) = true := decide_eq_true c36; clear c36; replace H := Option.bind_eq_some_iff.mp H; obtain ⟨t122, A370, H⟩ := H; have A37 := Aside0.mk A370; clear A370; by_cases c38 : t122.length < 17592186044416
                     ·rw [if_pos c38] at H; have LMc38 := Aside0.mk c38; clear c38; obtain ⟨y125, hy125⟩ : ∃ y_ : List Int, y_ = (t122 ++ [rd t104 x38_4]) := ⟨_, rfl⟩; replace H : (if x7_4.length < 5864062014805 then (impl_StandsOf.l2 k4 x1_2 t104 (x7_4 ++ [y125]) (rd_L3 x6_2 x32_3) x6_2 (x6_2.length : Int) x32_3 t104 (t104.length : Int) (wrap64 (x38_4 + 1))) else (none)) = some r := by first | (rw [hy125]; with_reducible exact H) | (have H2_ := (Option.bind_some _ _).symm.trans H; rw [hy125]; with_reducible exact H2_) | (have H2_ := (Option.bind_some _ _).symm.trans H; with_reducible exact H2_) | with_reducible exact H | (rw [hy125]; exact H) | exact H
                      have Ny125 := Aside0.mk hy125; clear hy125; by_cases c39 : x7_4.length < 5864062014805
                      ·rw [if_pos c39] at H; have LMc39 := Aside0.mk c39; clear c39; obtain ⟨y128, hy128⟩ : ∃ y_ : List (List Int), y_ = (x7_4 ++ [y125]) := ⟨_, rfl⟩; replace H : (impl_StandsOf.l2 k4 x1_2 t104 y128 (rd_L3 x6_2 x32_3) x6_2 (x6_2.length : Int) x32_3 t104 (t104.length : Int) (wrap64 (x38_4 + 1))) = some r := by first | (rw [hy128]; with_reducible exact H) | (have H2_ := (Option.bind_some _ _).symm.trans H; rw [hy128]; with_reducible exact H2_) | (have H2_ := (Option.bind_some _ _).symm.trans H; with_reducible exact H2_) | with_reducible exact H | (rw [hy128]; exact H) | exact H
                       have Ny128 := Aside0.mk hy128; clear hy128; have H' := Aside0.mk H; clear H; have p111 : 0 ≤ (x38_4 : Int) := od_; have q111 : x38_4 < (t104.length : Int) := od_; obtain ⟨ad111, e111, hx111_0⟩ := Kd.at_int (Kd.R_reads' HO_36.out).2.2 x38_4 p111 q111
                       cases e111; replace p111 := eq_true p111; replace q111 := eq_true q111; have p121 : 0 ≤ ((ji33) : Int) := od_; have q121 : (ji33) < ((rd_L3 x6_2 x32_3).length : Int) := od_; obtain ⟨ad121, e121, hx121_0⟩ := Kd.at_int HR110_0.out (ji33) p121 q121
                       cases e121

                       replace p121 := eq_true p121
                       replace q121 := eq_true q121
                       go_wp2_with (first | ((with_reducible refine gate_callee (f := 59) rfl ?_); refine gL_ (some 57) Try.func59 #[.slice (some ad121) (rd_L3 x6_2 x32_3).length c110_0] ?_; (with_reducible refine (slices_Clone_int_int.calls _ _ (rd_L3 x6_2 x32_3) t122 _ ?side1 ?side2 A37.out).mono ?_); (case side1 => exact uC HR110_0.out); (case side2 => exact HC110_0.out); rintro e w40 ⟨v123, rfl, ho0, hb⟩; refine ⟨_, rfl, ?_⟩; have n0_ := Aside0.mk (Kd.R_elder' (uR HO_5.out) (Kd.R_base ho0) hb); have n1_ := Aside0.mk (Kd.S_elder' (uS HO_7.out) (Kd.R_base ho0) hb); have n2_ := Aside0.mk (Kd.S_elder' (uS HO_30.out) (Kd.R_base ho0) hb); have n3_ := Aside0.mk (Kd.R_elder' (uR HO_36.out) (Kd.R_base ho0) hb); have nx_ := Aside0.mk (Kd.R_elder' (uR HX.out) (Kd.R_base ho0) hb); have n4_ := Aside0.mk (Kd.R_lower (Kd.R_new' (Kd.R_new' ho0 (Kd.R_lt (uR HO_5.out))) (Kd.R_lt (uR HO_36.out))) (below_size (uB HB.out))); have n5_ := Aside0.mk (blk_below (uK BK103.out) hb); have n6_ := Aside0.mk (below_step (uB HB.out) hb); clear HO_5; clear HO_7; clear HO_30; clear HO_36; clear HX; clear BK103; clear HB; have HO_5 := n0_; have HO_7 := n1_; have HO_30 := n2_; have HO_36 := n3_; have HX := nx_; have HO124 := n4_; have BK103 := n5_; have HB := n6_; clear n0_ n1_ n2_ n3_ n4_ n5_ n6_ nx_; (try clear hb); (try clear hb2); (try clear hk); (try clear hi); (try clear ho0)) | ((with_reducible refine gate_builtin (b := .append) (xs := #[.tmp 57, .tmp 59]) rfl ?_); (try (refine gate_guard (by rfl) ?_; dsimp only)); at_builtin; refine Kd.R_append (Kd.int .i64) (w0 := w) w.heap.size rfl (.tmp 57) (.tmp 59) 29 3 (.int .i64 0) 8 rfl Try.underlying29 info3 rfl (by decide) (by omega) v123 t122 (rd t104 x38_4) [.int .i64 (rd t104 x38_4)] (fun k_ => some k_ ≠ (.slice (some ad111) t104.length co21 : Value).ownBlock ∧ some k_ ≠ (.slice (some ad111) t104.length co21 : Value).ownBlock) (fun _ => False) rfl rfl ?aP (fun _ hk => hk.elim) ?aF ?aO ?aB ?aS ?aL ?_; (case aP => exact rfl); (case aB => exact (uB HB.out)); (case aF => exact (fun k_ hk => ⟨Kd.fresh' (Kd.R_lt (uR HO_5.out)) k_ hk, Kd.fresh' (Kd.R_lt (uR HO_36.out)) k_ hk⟩)); (case aO => exact (uR (Kd.R_mono HO124.out (fun _ hk => ⟨hk.1.2, hk.2⟩)))); (case aS => exact (below_size (uB HB.out))); (case aL => have := LMc38.out; omega); intro v126 w41 ho hb hg hat; rw [← Ny125.out] at ho; have n0_ := Aside0.mk (Kd.R_after (ok := (fun _ => True)) (uR HO_5.out) hg hat); have n1_ := Aside0.mk (Kd.S_after (ok := (fun k_ => some k_ ≠ (.slice (some ad111) t104.length co21 : Value).ownBlock ∧ some k_ ≠ (.slice (some ad110) x6_2.length co17 : Value).ownBlock ∧ some k_ ≠ (.slice (some ad111) t104.length co21 : Value).ownBlock)) (uS HO_7.out) hg hat); have n2_ := Aside0.mk (Kd.S_after (ok := (fun k_ => some k_ ≠ (.slice (some ad111) t104.length co21 : Value).ownBlock ∧ some k_ ≠ (u7 : Value).ownBlock ∧ some k_ ≠ (.slice (some ad111) t104.length co21 : Value).ownBlock)) (uS HO_30.out) hg hat); have n3_ := Aside0.mk (Kd.R_after (ok := (fun _ => True)) (uR HO_36.out) hg hat); have nx_ := Aside0.mk (Kd.R_after (ok := (fun _ => True)) (uR HX.out) hg hat); have n4_ := Aside0.mk (blk_grown (uK BK103.out) hg (Kd.R_ne HO124.out BK103.out (by decide))); have n5_ := Aside0.mk (hb); have n6_ := Aside0.mk (ho); clear HO_5; clear HO_7; clear HO_30; clear HO_36; clear HX; clear BK103; clear HB; clear HO124; have HO_5 := n0_; have HO_7 := n1_; have HO_30 := n2_; have HO_36 := n3_; have HX := nx_; have BK103 := n4_; have HB := n5_; have HO127 := n6_; clear n0_ n1_ n2_ n3_ n4_ n5_ n6_ nx_; clear ho hb hg hat; obtain ⟨Ao43, co43, eo43⟩ := Kd.R_slice HO127.out; subst eo43) | ((with_reducible refine gate_builtin (b := .append) (xs := #[.tmp 55, .tmp 61]) rfl ?_); (try (refine gate_guard (by rfl) ?_; dsimp only)); at_builtin; refine Kd.S_append (Kd.slice 3 (Kd.int .i64)) (w0 := w) w.heap.size rfl (.tmp 55) (.tmp 61) 36 29 (.slice none 0 0) 24 rfl Try.underlying36 info29 rfl (by decide) (by omega) u7 x7_4 y125 [.slice Ao43 y125.length co43] (fun k_ => some k_ ≠ (.slice (some ad111) t104.length co21 : Value).ownBlock ∧ some k_ ≠ (.slice (some ad110) x6_2.length co17 : Value).ownBlock ∧ some k_ ≠ (.slice (some ad111) t104.length co21 : Value).ownBlock) (fun k_ => some k_ = (.slice Ao43 y125.length co43 : Value).ownBlock) rfl rfl ?aP (fun k_ hk_ => ((Kd.R_mono (ok' := fun k_ => ((fun k_ => some k_ ≠ (.slice (some ad111) t104.length co21 : Value).ownBlock ∧ some k_ ≠ (.slice (some ad110) x6_2.length co17 : Value).ownBlock ∧ some k_ ≠ (.slice (some ad111) t104.length co21 : Value).ownBlock)) k_ ∧ some k_ ≠ (u7 : Value).ownBlock) (Kd.R_apart' (Kd.R_apart' (HO127.out) (Kd.S_typed HO_30.out) (by decide)) (Kd.S_typed HO_7.out) (by decide)) (fun k_ hk => ⟨⟨hk.1.1.1, ⟨hk.1.2, hk.1.1.2⟩⟩, hk.2⟩))).1 k_ hk_.symm) ?aF ?aO ?aB ?aS ?aL ?_; (case aP => exact Kd.M_row (Kd.R_mono (Kd.R_tight rfl (Kd.R_mono (ok' := fun k_ => ((fun k_ => some k_ ≠ (.slice (some ad111) t104.length co21 : Value).ownBlock ∧ some k_ ≠ (.slice (some ad110) x6_2.length co17 : Value).ownBlock ∧ some k_ ≠ (.slice (some ad111) t104.length co21 : Value).ownBlock)) k_ ∧ some k_ ≠ (u7 : Value).ownBlock) (Kd.R_apart' (Kd.R_apart' (HO127.out) (Kd.S_typed HO_30.out) (by decide)) (Kd.S_typed HO_7.out) (by decide)) (fun k_ hk => ⟨⟨hk.1.1.1, ⟨hk.1.2, hk.1.1.2⟩⟩, hk.2⟩))) (fun _ h_ => h_))); (case aB => exact (uB HB.out)); (case aF => exact (fun k_ hk => ⟨Kd.fresh' (Kd.R_lt (uR HO_5.out)) k_ hk, Kd.fresh' (Kd.S_lt (uS HO_30.out)) k_ hk, Kd.fresh' (Kd.R_lt (uR HO_36.out)) k_ hk⟩)); (case aO => exact (uS (Kd.S_mono HO_7.out (fun k_ hk => ⟨⟨hk.1.1, ⟨hk.1.2.1, hk.1.2.2⟩⟩, fun e_ => hk.2 e_⟩)))); (case aS => exact (below_size (uB HB.out))); (case aL => have := LMc39.out; omega); intro v129 w42 ho hb hg hat; rw [← Ny128.out] at ho; have n0_ := Aside0.mk (Kd.R_over' (uR HO_5.out) (Kd.S_typed (uS HO_7.out)) (by decide) hg); have n1_ := Aside0.mk (Kd.S_after (ok := (fun k_ => some k_ ≠ (.slice (some ad111) t104.length co21 : Value).ownBlock ∧ some k_ ≠ (.slice (some ad111) t104.length co21 : Value).ownBlock ∧ some k_ ≠ (.slice Ao43 y125.length co43 : Value).ownBlock)) (uS (Kd.S_mono HO_30.out (fun _ hk => ⟨⟨hk.1.1, ⟨hk.1.2.2, hk.2⟩⟩, hk.1.2.1⟩))) hg hat); have n2_ := Aside0.mk (Kd.R_over' (uR HO_36.out) (Kd.S_typed (uS HO_7.out)) (by decide) hg); have nx_ := Aside0.mk (Kd.R_over' (uR HX.out) (Kd.S_typed (uS HO_7.out)) (by decide) hg); have n3_ := Aside0.mk (blk_grown (uK BK103.out) hg (Kd.S_ne HO_7.out BK103.out (by decide))); have n4_ := Aside0.mk (hb); have n5_ := Aside0.mk (ho); clear HO_5; clear HO_30; clear HO_36; clear HX; clear BK103; clear HB; clear HO_7; clear HO127; have HO_5 := n0_; have HO_30 := n1_; have HO_36 := n2_; have HX := nx_; have BK103 := n3_; have HB := n4_; have HO130 := n5_; clear n0_ n1_ n2_ n3_ n4_ n5_ nx_; clear ho hb hg hat))
                       go_roundg k4
                       case measure => have := HJ3.out; have := HK2.out; have := HK3.out; have := HK4.out; omega
                       case rel => exact ⟨(y128), (wrap64 (x38_4 + 1)), ev_, H', ⟨by have := HJ3.out; have := HK2.out; have := HK3.out; have := HK4.out; omega⟩, ⟨uR (Kd.R_mono HO_5.out (fun _ hk => trivial))⟩, ⟨uS HO130.out⟩, ⟨uS (Kd.S_mono HO_30.out (fun _ hk => ⟨hk.1.1, ⟨hk.2, hk.1.2.1⟩⟩))⟩, ⟨uR (Kd.R_mono HO_36.out (fun _ hk => trivial))⟩, ⟨uR (Kd.R_mono HX.out (fun _ hk => trivial))⟩, ⟨uK BK103.out⟩, ⟨uB HB.out⟩⟩
                      ·rw [if_neg c39] at H
                       exact absurd H (by simp)
                     ·rw [if_neg c38] at H
                      exact absurd H (by simp)
                    ·rw [if_neg c36] at H
                     have c36b0 : decide ((rd (rd_L3 x6_2 x32_3) (ji33)) < (rd t104 x38_4)) = false := decide_eq_false c36
                     clear c36
                     have H' := Aside0.mk H
                     clear H
                     have p111 : 0 ≤ (x38_4 : Int) := od_
                     have q111 : x38_4 < (t104.length : Int) := od_
                     obtain ⟨ad111, e111, hx111_0⟩ := Kd.at_int (Kd.R_reads' HO_36.out).2.2 x38_4 p111 q111
                     cases e111
                     replace p111 := eq_true p111
                     replace q111 := eq_true q111
                     have p121 : 0 ≤ ((ji33) : Int) := od_
                     have q121 : (ji33) < ((rd_L3 x6_2 x32_3).length : Int) := od_
                     obtain ⟨ad121, e121, hx121_0⟩ := Kd.at_int HR110_0.out (ji33) p121 q121
                     cases e121

                     replace p121 := eq_true p121
                     replace q121 := eq_true q121
                     go_wp2
                     go_roundg k4
                     case measure => have := HJ3.out; have := HK2.out; have := HK3.out; have := HK4.out; omega
                     case rel => exact ⟨(x7_4), (wrap64 (x38_4 + 1)), ev_, H', ⟨by have := HJ3.out; have := HK2.out; have := HK3.out; have := HK4.out; omega⟩, ⟨uR HO_5.out⟩, ⟨uS HO_7.out⟩, ⟨uS HO_30.out⟩, ⟨uR HO_36.out⟩, ⟨uR HX.out⟩, ⟨uK BK103.out⟩, ⟨uB HB.out⟩⟩
                   ·rw [if_neg c35] at H
                    exact absurd H (by simp)
                  ·rw [if_neg c34] at H
                   exact absurd H (by simp)
                ·rw [if_neg c24] at H
                 exact absurd H (by simp)
               ·rw [if_neg c23] at H
                exact absurd H (by simp)
              ·rw [if_neg c22] at H
               have c22b0 : decide (x38_4 < (t104.length : Int)) = false := decide_eq_false c22
               clear c22
               have H' := Aside0.mk H
               clear H
               go_wp2
               go_roundg k4
               case measure => have := HJ3.out; have := HK2.out; have := HK3.out; have := HK4.out; omega
               case rel => exact ⟨(x7_4), (wrap64 (x32_3 + 1)), ev_, H', ⟨by have := HJ3.out; have := HK2.out; have := HK3.out; have := HK4.out; omega⟩, ⟨uR HO_5.out⟩, ⟨uS (Kd.S_mono HO_7.out (fun _ hk => ⟨hk.1, hk.2.1⟩))⟩, ⟨uS (Kd.S_mono HO_30.out (fun _ hk => ⟨hk.1, hk.2.1⟩))⟩, ⟨uK BK103.out⟩, ⟨uB HB.out⟩⟩
           ·rw [if_neg c20] at H
            exact absurd H (by simp)
          ·rw [if_neg c19] at H
           exact absurd H (by simp)
         ·rw [if_neg c18] at H
          have c18b0 : decide (x32_3 < (x6_2.length : Int)) = false := decide_eq_false c18
          clear c18
          have H' := Aside0.mk H
          clear H
          go_wp2
          go_roundg k3
          case measure => have := HJ3.out; have := HK2.out; have := HK3.out; omega
          case rel => exact ⟨(wrap64 (x1_2 - 1)), (x7_3), ev_, H', ⟨by have := HJ3.out; have := HK2.out; have := HK3.out; omega⟩, ⟨uR HO_5.out⟩, ⟨uS (Kd.S_mono HO_7.out (fun _ hk => hk.1))⟩, ⟨uK BK103.out⟩, ⟨uB HB.out⟩⟩
      ·rw [if_neg c16] at H
       have c16b0 : decide (0 < x1_2) = false := decide_eq_false c16
       clear c16
       obtain rfl := Option.some.inj H
       go_wp2
       go_ret
       exact ⟨_, by first | rfl | (simp [errW_none, errW_some] <;> rfl) | (simp [*, errW_none, errW_some] <;> rfl), by (with_reducible repeat (first | apply Kd.S_alloc | apply Kd.S_drewN | apply Kd.S_drew)); exact Kd.S_mono HO_6.out (fun _ hk => trivial), uB HB.out⟩

/-! ### slices_IndexFunc_int_int: function 80 -/
set_option maxHeartbeats 8000000 in
set_option maxRecDepth 100000 in
theorem indexFunc_int (p : Int → Bool) (g : Nat) (lb : Array Value) (eg : ∀ args w, (callFunc g args).run Try.prog w = .ok (.enter g args) w)
    (A : Option Addr) (c : Nat) (l : List Int) (w : World) (hr : Kd.C (Kd.int .i64) w A l.length l) (hc : l.length ≤ c) (hp : Tells g lb (Value.int .i64) p l w) :
    Calls Try.prog 80 #[.slice A l.length c, .func (.func g) #[] lb] w fun e w' => e = .returned (.int .i64 (findI p l)) ∧ Below w.heap.size w w' := by
  have HP : Aside0 (∀ (W : World) (x : Int), x ∈ l → Below w.heap.size w W → Calls Try.prog g (#[Value.int .i64 x] ++ lb) W fun e w' => e = .returned (.bool (p x)) ∧ Below W.heap.size W w') := ⟨hp⟩
  have HR := Aside0.mk hr
  have hn : l.length ≤ 9223372036854775807 := hr.2.1
  clear hp hr
  go_enter Try.func80, Try.ntmps80
  go_wp2
  go_loopg [5, 8] l.length (fun gg _ s8 wr => ∃ kk : Nat, kk ≤ l.length ∧ l.length - kk ≤ gg ∧ s8 = .int .i64 kk ∧ Aside0 (Below w.heap.size w wr) ∧ Aside0 (∀ j, j < kk → p (l.getD j 0) = false))
  case atStart => exact ⟨0, Nat.zero_le _, by omega, rfl, ⟨Below.refl _ _⟩, ⟨fun j hj => absurd hj (Nat.not_lt_zero _)⟩⟩
  case round =>
    obtain ⟨kk, hkk, hg, rfl, HB, HA⟩ := hrel
    by_cases hlt : kk < l.length
    · have hltz : (kk : Int) < (l.length : Int) := by omega
      obtain ⟨ad, ead, hx⟩ := Kd.at_int HR.out (kk : Int) (by omega) hltz
      cases ead
      rw [Int.toNat_natCast] at hx
      replace hx := (HB.out.cell (World.block_lt_of_cell? w _ hx)).trans hx
      have hcall := HP.out _ (rd l kk) (by rw [rd, Int.toNat_natCast, List.getD_eq_getElem?_getD, List.getElem?_eq_getElem hlt]; exact List.getElem_mem hlt) HB.out
      have HX : Aside0 (rd l kk = l.getD kk 0) := ⟨by simp [rd]⟩
      generalize hy : rd l kk = y at hcall hx HX
      clear hy
      cases hq : p y with
      | true =>
        rw [hq] at hcall
        have HCALL := Aside0.mk hcall
        clear hcall
        have HQ := Aside0.mk hq
        clear hq
        go_wp2_with fail
        refine HCALL.out.mono ?_
        rintro e w' ⟨rfl, hb⟩
        go_wp2
        go_ret
        refine ⟨?_, below_step HB.out hb⟩
        rw [findI_hit p l 0 kk hlt (by rw [← HX.out]; exact HQ.out) HA.out]
        rfl
      | false =>
        rw [hq] at hcall
        have HCALL := Aside0.mk hcall
        clear hcall
        have HQ := Aside0.mk hq
        clear hq
        go_wp2_with fail
        refine HCALL.out.mono ?_
        rintro e w' ⟨rfl, hb⟩
        go_wp2
        have HB2 := Aside0.mk (below_step HB.out hb)
        go_roundg (l.length - (kk + 1))
        case measure => omega
        case rel =>
          refine ⟨kk + 1, by omega, by omega, by go_num, HB2, ⟨fun j hj => ?_⟩⟩
          by_cases e : j = kk
          · subst e; rw [← HX.out]; exact HQ.out
          · exact HA.out j (by omega)
    · have hltz : ¬ (kk : Int) < (l.length : Int) := by omega
      have hkl : kk = l.length := by omega
      have HA2 : Aside0 (∀ j, j < l.length → p (l.getD j 0) = false) := ⟨by rw [← hkl]; exact HA.out⟩
      clear hkl HA
      go_wp2
      go_ret
      exact ⟨by rw [findI_miss p l 0 HA2.out]; rfl, HB.out⟩


/-! ### slices_ContainsFunc_int_int: function 104 -/
set_option maxHeartbeats 8000000 in
set_option maxRecDepth 100000 in
theorem containsFunc_int (p : Int → Bool) (g : Nat) (lb : Array Value) (eg : ∀ args w, (callFunc g args).run Try.prog w = .ok (.enter g args) w)
    (A : Option Addr) (c : Nat) (l : List Int) (w : World) (hr : Kd.C (Kd.int .i64) w A l.length l) (hc : l.length ≤ c) (hp : Tells g lb (Value.int .i64) p l w) :
    Calls Try.prog 104 #[.slice A l.length c, .func (.func g) #[] lb] w fun e w' => e = .returned (.bool (l.any p)) ∧ Below w.heap.size w w' := by
  have H := indexFunc_int p g lb eg A c l w hr hc hp
  rw [← findI_any]
  generalize findI p l = y at H
  clear hp hr
  go_enter Try.func104, Try.ntmps104
  go_wp2_with (go_at_call 80; refine H.mono ?_; rintro e w' ⟨rfl, hb⟩)
  go_ret
  exact ⟨rfl, hb⟩


/-! ### slices.ContainsFunc with areFree's literal: a cell that is not free -/
def hof_areFree.p (s : ByteArray) (c : Int) : Bool := !(decide (0 ≤ c) && (decide (c < (s.size : Int)) && (bt s c != 35)))
def hof_areFree.f (l0 : List Int) (_a _b : Int) (s : ByteArray) : Option Bool := some (l0.any (hof_areFree.p s))
theorem hof_areFree.free (a b : Int) (s : ByteArray) (c : Int) : impl_isFree.f a b s c = some (!(hof_areFree.p s c)) := by
 unfold impl_isFree.f hof_areFree.p
 by_cases h1 : c ≥ 0
 ·by_cases h2 : c < (s.size : Int)
  ·rw [if_pos h1, if_pos h2, if_pos h1]; simp [h1, h2]
  ·rw [if_pos h1, if_neg h2]; simp [h2]
 ·rw [if_neg h1]; simp; intro h; omega
theorem hof_areFree.tells (a b : Int) (s : ByteArray) (B : Nat) (l : List Int) (w : World) (hB : w.heap[B]? = some (.cells #[.int .i64 a, .int .i64 b, .string s] 26 (0, 0))) :
  Tells 106 #[.pointer (some ⟨B, 0, none⟩)] (Value.int .i64) (hof_areFree.p s) l w := by
 intro W c _ hb
 have hB2 : W.heap[B]? = some (.cells #[.int .i64 a, .int .i64 b, .string s] 26 (0, 0)) := (hb.block B (blk_lt hB)).trans hB
 have hc0 : W.cell? ⟨B, 0, none⟩ = some (.int .i64 a) := blk_cell hB2 0
 have hc1 : W.cell? ⟨B, 1, none⟩ = some (.int .i64 b) := blk_cell hB2 1
 have hc2 : W.cell? ⟨B, 2, none⟩ = some (.string s) := blk_cell hB2 2
 have hu := Try.underlying26
 have HF := Aside0.mk (hof_areFree.free a b s c)
 clear hB hB2 hb
 show Calls Try.prog 106 #[.int .i64 c, .pointer (some ⟨B, 0, none⟩)] W _
 generalize hq : hof_areFree.p s c = q at HF
 clear hq
 go_enter Try.func106, Try.ntmps106
 go_wp2_with (go_at_call 82; refine (impl_isFree.calls a b s c (!q) _ HF.out).mono ?_; rintro e w' ⟨rfl, hb⟩)
 go_ret
 exact ⟨by cases q <;> rfl, hb⟩
theorem hof_areFree.calls (A0 : Option Addr) (c0 : Nat) (l0 : List Int) (a b : Int) (s : ByteArray) (B : Nat) (r : Bool) (w : World) (hr0 : Kd.C (Kd.int .i64) w A0 l0.length l0) (hc0 : l0.length ≤ c0)
  (hb : w.heap[B]? = some (.cells #[.int .i64 a, .int .i64 b, .string s] 26 (0, 0))) (h : hof_areFree.f l0 a b s = some r) :
  Calls Try.prog 104 #[.slice A0 l0.length c0, .func (.func 106) #[] #[.pointer (some ⟨B, 0, none⟩)]] w fun e w' => e = .returned (.bool r) ∧ Below w.heap.size w w' := by
 obtain rfl := Option.some.inj h; have eg : ∀ args w, (callFunc 106 args).run Try.prog w = .ok (.enter 106 args) w := entersOf Try.func106 (by kernel_rfl) rfl; exact containsFunc_int (hof_areFree.p s) _ _ eg A0 c0 l0 w hr0 hc0 (hof_areFree.tells a b s B l0 w hb)

/-! ### impl_areFree: function 84 -/
def impl_areFree.f (k : Nat) (a0_0 : Int) (a0_1 : Int) (a0_2 : ByteArray) (l1 : List Int) : Option (Bool) := (impl_GridOk.f k a0_0 a0_1 a0_2).bind fun t132 => (if t132 = true then ((hof_areFree.f l1 a0_0 a0_1 a0_2).bind fun t133 => (some (!t133))) else (some false))
set_option maxHeartbeats 8000000 in
set_option maxRecDepth 100000 in
theorem impl_areFree.calls (k : Nat) (a0_0 : Int) (a0_1 : Int) (a0_2 : ByteArray) (A1 : Option Addr) (c1 : Nat) (l1 : List Int) (r : Bool) (w : World) (hr1 : Kd.C (Kd.int .i64) w A1 l1.length l1) (hc1 : l1.length ≤ c1) (h : impl_areFree.f k a0_0 a0_1 a0_2 l1 = some r) :
  Calls Try.prog 84 #[.agg #[.int .i64 a0_0, .int .i64 a0_1, .string a0_2], .slice A1 l1.length c1] w fun e w' => e = .returned (.bool r) ∧ Below w.heap.size w w' := by
 have hu26 := Try.underlying26; have HR1 := Aside0.mk hr1; have HC1 := Aside0.mk hc1; clear hr1 hc1; have HB := Aside0.mk (Below.refl w.heap.size w); have H : ((impl_GridOk.f k a0_0 a0_1 a0_2).bind fun t132 => (if t132 = true then ((hof_areFree.f l1 a0_0 a0_1 a0_2).bind fun t133 => (some (!t133))) else (some false))) = some r := h; clear h; replace H := Option.bind_eq_some_iff.mp H; obtain ⟨t132, A30, H⟩ := H; have A3 := Aside0.mk A30; clear A30; by_cases c4 : t132 = true
 ·subst c4; rw [if_pos rfl] at H; replace H := Option.bind_eq_some_iff.mp H; obtain ⟨t133, A50, H⟩ := H; have A5 := Aside0.mk A50; clear A50; obtain rfl := Option.some.inj H; go_enter Try.func84, Try.ntmps84; go_wp2_with (first | ((with_reducible refine gate_dst (N := 2) rfl ?_); refine box_event ?hg (N := 2) ?hd (cs := #[.int .i64 a0_0, .int .i64 a0_1, .string a0_2]) (t := 26) ?hr ?_; (case hd => rfl); (case hg => rfl); (case hr => first | (go_simp; done) | (go_simp; rfl)); intro gb131 hg w6 hbox hb; have BK131 := Aside0.mk (hbox); have GW131 := Aside0.mk ((by rw [hg]; exact (below_size (uB HB.out)) : w.heap.size ≤ gb131)); have GE131 := Aside0.mk ((by rw [hg]; exact (below_size (uB HB.out)) : w.heap.size ≤ gb131)); replace HB := Aside0.mk (below_step (uB HB.out) hb); clear hb hbox hg; obtain ⟨hcz7_0, hcz7_1, hcz7_2, hfz7_0, hfz7_1, hfz7_2⟩ := bx3 BK131.out) | ((with_reducible refine gate_callee (f := 62) rfl ?_); refine gL_ (some 6) Try.func62 #[.agg #[.int .i64 a0_0, .int .i64 a0_1, .string a0_2]] ?_; (with_reducible refine (impl_GridOk.calls k a0_0 a0_1 a0_2 true _ A3.out).mono ?_); rintro e w8 ⟨rfl, hb⟩; refine ⟨_, rfl, ?_⟩; replace BK131 := Aside0.mk (blk_below (uK BK131.out) hb); replace HB := Aside0.mk (below_step (uB HB.out) hb); (try clear hb); (try clear hb2); (try clear hk); (try clear hi)) | (go_at_call 104; (with_reducible refine (hof_areFree.calls _ _ l1 a0_0 a0_1 a0_2 _ t133 _ ?side1 ?side2 (by exact (uK BK131.out)) A5.out).mono ?_); (case side1 => repeat (first | exact (Kd.C_below HR1.out HB.out) | (with_reducible refine Kd.C_alloc ?_ _) | (with_reducible refine Kd.C_drewN ?_ _) | (with_reducible refine Kd.C_drew ?_))); (case side2 => exact HC1.out); rintro e w9 ⟨rfl, hb⟩; replace BK131 := Aside0.mk (blk_below (uK BK131.out) hb); replace HB := Aside0.mk (below_step (uB HB.out) hb); (try clear hb); (try clear hb2); (try clear hk); (try clear hi)))
  go_ret; exact ⟨by first | rfl | (simp [errW_none, errW_some] <;> rfl) | (simp [*, errW_none, errW_some] <;> rfl), uB HB.out⟩
 ·replace c4 := Bool.eq_false_iff.mpr c4; subst c4; rw [if_neg (show ¬ (false = true) by decide)] at H; obtain rfl := Option.some.inj H; go_enter Try.func84, Try.ntmps84; go_wp2_with (first | ((with_reducible refine gate_dst (N := 2) rfl ?_); refine box_event ?hg (N := 2) ?hd (cs := #[.int .i64 a0_0, .int .i64 a0_1, .string a0_2]) (t := 26) ?hr ?_; (case hd => rfl); (case hg => rfl); (case hr => first | (go_simp; done) | (go_simp; rfl)); intro gb131 hg w10 hbox hb; have BK131 := Aside0.mk (hbox); have GW131 := Aside0.mk ((by rw [hg]; exact (below_size (uB HB.out)) : w.heap.size ≤ gb131)); have GE131 := Aside0.mk ((by rw [hg]; exact (below_size (uB HB.out)) : w.heap.size ≤ gb131)); replace HB := Aside0.mk (below_step (uB HB.out) hb); clear hb hbox hg; obtain ⟨hcz11_0, hcz11_1, hcz11_2, hfz11_0, hfz11_1, hfz11_2⟩ := bx3 BK131.out) | ((with_reducible refine gate_callee (f := 62) rfl ?_); refine gL_ (some 6) Try.func62 #[.agg #[.int .i64 a0_0, .int .i64 a0_1, .string a0_2]] ?_; (with_reducible refine (impl_GridOk.calls k a0_0 a0_1 a0_2 false _ A3.out).mono ?_); rintro e w12 ⟨rfl, hb⟩; refine ⟨_, rfl, ?_⟩; replace BK131 := Aside0.mk (blk_below (uK BK131.out) hb); replace HB := Aside0.mk (below_step (uB HB.out) hb); (try clear hb); (try clear hb2); (try clear hk); (try clear hi)))
  go_ret; exact ⟨by first | rfl | (simp [errW_none, errW_some] <;> rfl) | (simp [*, errW_none, errW_some] <;> rfl), uB HB.out⟩

/-! ### impl_isAscending: function 85 -/
def impl_isAscending.l0 : Nat → List Int → Int → Option (Bool)
 | 0, _, _ => none
 | k + 1, x0, x3 => if x3 < (x0.length : Int) then (if 0 ≤ (wrap64 (x3 - 1)) then (if (wrap64 (x3 - 1)) < (x0.length : Int) then (if 0 ≤ x3 then (if (rd x0 (wrap64 (x3 - 1))) ≥ (rd x0 x3) then (some false) else (impl_isAscending.l0 k x0 (wrap64 (x3 + 1)))) else (none)) else (none)) else (none)) else (some true)
def impl_isAscending.f (k : Nat) (l0 : List Int) : Option (Bool) := impl_isAscending.l0 k l0 1
set_option maxHeartbeats 8000000 in
set_option maxRecDepth 100000 in
theorem impl_isAscending.calls (k : Nat) (A0 : Option Addr) (c0 : Nat) (l0 : List Int) (r : Bool) (w : World) (hr0 : Kd.C (Kd.int .i64) w A0 l0.length l0) (hc0 : l0.length ≤ c0) (h : impl_isAscending.f k l0 = some r) :
  Calls Try.prog 85 #[.slice A0 l0.length c0] w fun e w' => e = .returned (.bool r) ∧ Drawn0 w w' := by
 have HR0 := Aside0.mk hr0; have HC0 := Aside0.mk hc0; clear hr0 hc0; have H : (impl_isAscending.l0 k l0 1) = some r := h; clear h; have H' := Aside0.mk H; clear H; go_enter Try.func85, Try.ntmps85; go_wp2
 repeat (go_quiet (fail); try go_wp2)
 go_loopg [3] k (fun kq v3 w' => ∃ (x3_1 : Int), v3 = .int .i64 x3_1 ∧ Aside0 (impl_isAscending.l0 kq l0 x3_1 = some r) ∧ Aside0 (kq ≤ k) ∧ Drawn0 w w')
 case atStart => exact ⟨(1), ev_, H', ⟨Nat.le_refl _⟩, by repeat (first | exact Drawn0.refl _ | apply Drawn0.step)⟩
 case round =>
  clear H'; obtain ⟨x3_1, rfl, HA, HK1, ⟨m1, rfl⟩⟩ := hrel
  cases gk with
  | zero => exact absurd HA.out (by simp [impl_isAscending.l0])
  | succ k1 =>
   have H := HA.out; clear HA; simp only [impl_isAscending.l0] at H; by_cases c2 : x3_1 < (l0.length : Int)
   ·rw [if_pos c2] at H; have c2b0 : decide (x3_1 < (l0.length : Int)) = true := decide_eq_true c2; clear c2; obtain ⟨ji3, hji3⟩ : ∃ j_ : Int, (wrap64 (x3_1 - 1)) = j_ := ⟨_, rfl⟩; replace H : (if 0 ≤ (ji3) then (if (ji3) < (l0.length : Int) then (if 0 ≤ x3_1 then (if (rd l0 (ji3)) ≥ (rd l0 x3_1) then (some false) else (impl_isAscending.l0 k1 l0 (wrap64 (x3_1 + 1)))) else (none)) else (none)) else (none)) = some r := by first | (rw [hji3] at H; exact H) | (simp only [hji3] at H ⊢; exact H)
    have hji3w : (IntKind.i64.wrap (x3_1 - 1)) = ji3 := (i64_w _).trans hji3; by_cases c4 : 0 ≤ (ji3)
    ·rw [if_pos c4] at H; have c4b0 : decide (0 ≤ (ji3)) = true := decide_eq_true c4; clear c4; by_cases c5 : (ji3) < (l0.length : Int)
     ·rw [if_pos c5] at H; have c5b0 : decide ((ji3) < (l0.length : Int)) = true := decide_eq_true c5; clear c5; by_cases c6 : 0 ≤ x3_1
      ·rw [if_pos c6] at H; have c6b0 : decide (0 ≤ x3_1) = true := decide_eq_true c6; clear c6; by_cases c7 : (rd l0 (ji3)) ≥ (rd l0 x3_1)
       ·rw [if_pos c7] at H; have c7b0 : decide ((rd l0 x3_1) ≤ (rd l0 (ji3))) = true := decide_eq_true c7; clear c7; obtain rfl := Option.some.inj H; have p134 : 0 ≤ ((ji3) : Int) := od_; have q134 : (ji3) < (l0.length : Int) := od_; obtain ⟨ad134, e134, hx134_0⟩ := Kd.at_int HR0.out (ji3) p134 q134
        cases e134; replace p134 := eq_true p134; replace q134 := eq_true q134; have p135 : 0 ≤ (x3_1 : Int) := od_; have q135 : x3_1 < (l0.length : Int) := od_; obtain ⟨ad135, e135, hx135_0⟩ := Kd.at_int HR0.out x3_1 p135 q135; obtain rfl : ad134 = ad135 := (by injection e135); replace p135 := eq_true p135; replace q135 := eq_true q135; go_wp2
        repeat (go_quiet (fail); try go_wp2)
        go_ret; exact ⟨by first | rfl | (simp; done) | (simp only [← hji3] <;> (first | rfl | simp)) | (simp [*]; done), by repeat (first | exact Drawn0.refl _ | apply Drawn0.step)⟩
       ·rw [if_neg c7] at H; have c7b0 : decide ((rd l0 x3_1) ≤ (rd l0 (ji3))) = false := decide_eq_false c7; clear c7; have H' := Aside0.mk H; clear H; have p134 : 0 ≤ ((ji3) : Int) := od_; have q134 : (ji3) < (l0.length : Int) := od_; obtain ⟨ad134, e134, hx134_0⟩ := Kd.at_int HR0.out (ji3) p134 q134
        cases e134; replace p134 := eq_true p134; replace q134 := eq_true q134; have p135 : 0 ≤ (x3_1 : Int) := od_; have q135 : x3_1 < (l0.length : Int) := od_; obtain ⟨ad135, e135, hx135_0⟩ := Kd.at_int HR0.out x3_1 p135 q135; obtain rfl : ad134 = ad135 := (by injection e135); replace p135 := eq_true p135; replace q135 := eq_true q135; go_wp2
        repeat (go_quiet (fail); try go_wp2)
        go_roundg k1
        case measure => have := HK1.out; omega
        case rel => exact ⟨(wrap64 (x3_1 + 1)), ev_, H', ⟨by have := HK1.out; omega⟩, by repeat (first | exact Drawn0.refl _ | apply Drawn0.step)⟩
      ·rw [if_neg c6] at H; exact absurd H (by simp)
     ·rw [if_neg c5] at H; exact absurd H (by simp)
    ·rw [if_neg c4] at H; exact absurd H (by simp)
   ·rw [if_neg c2] at H; have c2b0 : decide (x3_1 < (l0.length : Int)) = false := decide_eq_false c2; clear c2; obtain rfl := Option.some.inj H; go_wp2
    repeat (go_quiet (fail); try go_wp2)
    go_ret; exact ⟨by first | rfl | (simp; done) | (simp [*]; done), by repeat (first | exact Drawn0.refl _ | apply Drawn0.step)⟩

/-! ### impl_isStand: function 65 -/
def impl_isStand.f (k : Nat) (a0_0 : Int) (a0_1 : Int) (a0_2 : ByteArray) (l1 : List Int) : Option (Bool) := if (l1.length : Int) ≥ 1 then (if (l1.length : Int) ≤ 3 then ((impl_areFree.f k a0_0 a0_1 a0_2 l1).bind fun t137 => (if t137 = true then ((impl_isAscending.f k l1).bind fun t138 => (some t138)) else (some false))) else (some false)) else (some false)
set_option maxHeartbeats 8000000 in
set_option maxRecDepth 100000 in
theorem impl_isStand.calls (k : Nat) (a0_0 : Int) (a0_1 : Int) (a0_2 : ByteArray) (A1 : Option Addr) (c1 : Nat) (l1 : List Int) (r : Bool) (w : World) (hr1 : Kd.C (Kd.int .i64) w A1 l1.length l1) (hc1 : l1.length ≤ c1) (h : impl_isStand.f k a0_0 a0_1 a0_2 l1 = some r) :
  Calls Try.prog 65 #[.agg #[.int .i64 a0_0, .int .i64 a0_1, .string a0_2], .slice A1 l1.length c1] w fun e w' => e = .returned (.bool r) ∧ Below w.heap.size w w' := by
 have hu26 := Try.underlying26; have HR1 := Aside0.mk hr1; have HC1 := Aside0.mk hc1; clear hr1 hc1; have HB := Aside0.mk (Below.refl w.heap.size w); have H : (if (l1.length : Int) ≥ 1 then (if (l1.length : Int) ≤ 3 then ((impl_areFree.f k a0_0 a0_1 a0_2 l1).bind fun t137 => (if t137 = true then ((impl_isAscending.f k l1).bind fun t138 => (some t138)) else (some false))) else (some false)) else (some false)) = some r := h; clear h; by_cases c3 : (l1.length : Int) ≥ 1
 ·rw [if_pos c3] at H; have c3b0 : decide (1 ≤ (l1.length : Int)) = true := decide_eq_true c3; have c3b1 : decide (1 ≤ l1.length) = true := decide_eq_true (by omega); clear c3; by_cases c4 : (l1.length : Int) ≤ 3
  ·rw [if_pos c4] at H; have c4b0 : decide ((l1.length : Int) ≤ 3) = true := decide_eq_true c4; have c4b1 : decide (l1.length ≤ 3) = true := decide_eq_true (by omega); clear c4; replace H := Option.bind_eq_some_iff.mp H; obtain ⟨t137, A50, H⟩ := H; have A5 := Aside0.mk A50; clear A50; by_cases c6 : t137 = true
   ·subst c6; rw [if_pos rfl] at H; replace H := Option.bind_eq_some_iff.mp H; obtain ⟨t138, A70, H⟩ := H; have A7 := Aside0.mk A70; clear A70; obtain rfl := Option.some.inj H; go_enter Try.func65, Try.ntmps65; go_wp2_with (first | ((with_reducible refine gate_dst (N := 2) rfl ?_); (try (refine gate_guard (by rfl) ?_; dsimp only)); refine box_event ?hg (N := 2) ?hd (cs := #[.int .i64 a0_0, .int .i64 a0_1, .string a0_2]) (t := 26) ?hr ?_; (case hd => rfl); (case hg => rfl); (case hr => first | (go_simp; done) | (go_simp; rfl)); intro gb136 hg w8 hbox hb; have BK136 := Aside0.mk (hbox); have GW136 := Aside0.mk ((by rw [hg]; exact (below_size (uB HB.out)) : w.heap.size ≤ gb136)); have GE136 := Aside0.mk ((by rw [hg]; exact (below_size (uB HB.out)) : w.heap.size ≤ gb136)); replace HB := Aside0.mk (below_step (uB HB.out) hb); clear hb hbox hg; obtain ⟨hcz9_0, hcz9_1, hcz9_2, hfz9_0, hfz9_1, hfz9_2⟩ := bx3 BK136.out) | (go_at_call 84; (with_reducible refine (impl_areFree.calls k a0_0 a0_1 a0_2 _ _ l1 true _ ?side1 ?side2 A5.out).mono ?_); (case side1 => repeat (first | exact (Kd.C_below HR1.out HB.out) | (with_reducible refine Kd.C_alloc ?_ _) | (with_reducible refine Kd.C_drewN ?_ _) | (with_reducible refine Kd.C_drew ?_))); (case side2 => exact HC1.out); rintro e w10 ⟨rfl, hb⟩; replace BK136 := Aside0.mk (blk_below (uK BK136.out) hb); replace HB := Aside0.mk (below_step (uB HB.out) hb); (try clear hb); (try clear hb2); (try clear hk); (try clear hi)) | (go_at_call 85; (with_reducible refine (impl_isAscending.calls k _ _ l1 t138 _ ?side1 ?side2 A7.out).mono ?_); (case side1 => repeat (first | exact (Kd.C_below HR1.out HB.out) | (with_reducible refine Kd.C_alloc ?_ _) | (with_reducible refine Kd.C_drewN ?_ _) | (with_reducible refine Kd.C_drew ?_))); (case side2 => exact HC1.out); rintro e w' ⟨rfl, ⟨nd, rfl⟩⟩))
    go_ret; exact ⟨by first | rfl | (simp [errW_none, errW_some] <;> rfl) | (simp [*, errW_none, errW_some] <;> rfl), uB HB.out⟩
   ·replace c6 := Bool.eq_false_iff.mpr c6; subst c6; rw [if_neg (show ¬ (false = true) by decide)] at H; obtain rfl := Option.some.inj H; go_enter Try.func65, Try.ntmps65; go_wp2_with (first | ((with_reducible refine gate_dst (N := 2) rfl ?_); (try (refine gate_guard (by rfl) ?_; dsimp only)); refine box_event ?hg (N := 2) ?hd (cs := #[.int .i64 a0_0, .int .i64 a0_1, .string a0_2]) (t := 26) ?hr ?_; (case hd => rfl); (case hg => rfl); (case hr => first | (go_simp; done) | (go_simp; rfl)); intro gb136 hg w11 hbox hb; have BK136 := Aside0.mk (hbox); have GW136 := Aside0.mk ((by rw [hg]; exact (below_size (uB HB.out)) : w.heap.size ≤ gb136)); have GE136 := Aside0.mk ((by rw [hg]; exact (below_size (uB HB.out)) : w.heap.size ≤ gb136)); replace HB := Aside0.mk (below_step (uB HB.out) hb); clear hb hbox hg; obtain ⟨hcz12_0, hcz12_1, hcz12_2, hfz12_0, hfz12_1, hfz12_2⟩ := bx3 BK136.out) | (go_at_call 84; (with_reducible refine (impl_areFree.calls k a0_0 a0_1 a0_2 _ _ l1 false _ ?side1 ?side2 A5.out).mono ?_); (case side1 => repeat (first | exact (Kd.C_below HR1.out HB.out) | (with_reducible refine Kd.C_alloc ?_ _) | (with_reducible refine Kd.C_drewN ?_ _) | (with_reducible refine Kd.C_drew ?_))); (case side2 => exact HC1.out); rintro e w13 ⟨rfl, hb⟩; replace BK136 := Aside0.mk (blk_below (uK BK136.out) hb); replace HB := Aside0.mk (below_step (uB HB.out) hb); (try clear hb); (try clear hb2); (try clear hk); (try clear hi)))
    go_ret; exact ⟨by first | rfl | (simp [errW_none, errW_some] <;> rfl) | (simp [*, errW_none, errW_some] <;> rfl), uB HB.out⟩
  ·rw [if_neg c4] at H; have c4b0 : decide ((l1.length : Int) ≤ 3) = false := decide_eq_false c4; have c4b1 : decide (l1.length ≤ 3) = false := decide_eq_false (by omega); clear c4; obtain rfl := Option.some.inj H; go_enter Try.func65, Try.ntmps65; go_wp2_with (first | ((with_reducible refine gate_dst (N := 2) rfl ?_); (try (refine gate_guard (by rfl) ?_; dsimp only)); refine box_event ?hg (N := 2) ?hd (cs := #[.int .i64 a0_0, .int .i64 a0_1, .string a0_2]) (t := 26) ?hr ?_; (case hd => rfl); (case hg => rfl); (case hr => first | (go_simp; done) | (go_simp; rfl)); intro gb136 hg w14 hbox hb; have BK136 := Aside0.mk (hbox); have GW136 := Aside0.mk ((by rw [hg]; exact (below_size (uB HB.out)) : w.heap.size ≤ gb136)); have GE136 := Aside0.mk ((by rw [hg]; exact (below_size (uB HB.out)) : w.heap.size ≤ gb136)); replace HB := Aside0.mk (below_step (uB HB.out) hb); clear hb hbox hg))
   go_ret; exact ⟨by first | rfl | (simp [errW_none, errW_some] <;> rfl) | (simp [*, errW_none, errW_some] <;> rfl), uB HB.out⟩
 ·rw [if_neg c3] at H; have c3b0 : decide (1 ≤ (l1.length : Int)) = false := decide_eq_false c3; have c3b1 : decide (1 ≤ l1.length) = false := decide_eq_false (by omega); clear c3; obtain rfl := Option.some.inj H; go_enter Try.func65, Try.ntmps65; go_wp2_with (first | ((with_reducible refine gate_dst (N := 2) rfl ?_); (try (refine gate_guard (by rfl) ?_; dsimp only)); refine box_event ?hg (N := 2) ?hd (cs := #[.int .i64 a0_0, .int .i64 a0_1, .string a0_2]) (t := 26) ?hr ?_; (case hd => rfl); (case hg => rfl); (case hr => first | (go_simp; done) | (go_simp; rfl)); intro gb136 hg w15 hbox hb; have BK136 := Aside0.mk (hbox); have GW136 := Aside0.mk ((by rw [hg]; exact (below_size (uB HB.out)) : w.heap.size ≤ gb136)); have GE136 := Aside0.mk ((by rw [hg]; exact (below_size (uB HB.out)) : w.heap.size ≤ gb136)); replace HB := Aside0.mk (below_step (uB HB.out) hb); clear hb hbox hg))
  go_ret; exact ⟨by first | rfl | (simp [errW_none, errW_some] <;> rfl) | (simp [*, errW_none, errW_some] <;> rfl), uB HB.out⟩

/-! ### slices_Index_int_int: function 55 -/
def slices_Index_int_int.l0 : Nat → List Int → Int → Int → Int → Option (Int)
 | 0, _, _, _, _ => none
 | k + 1, x0, x1, x7, x8 => if x8 < x7 then (if 0 ≤ x8 then (if x8 < (x0.length : Int) then (if x1 = (rd x0 x8) then (some x8) else (slices_Index_int_int.l0 k x0 x1 x7 (wrap64 (x8 + 1)))) else (none)) else (none)) else (some (-1))
def slices_Index_int_int.f (k : Nat) (l0 : List Int) (a1 : Int) : Option (Int) := slices_Index_int_int.l0 k l0 a1 (l0.length : Int) 0
set_option maxHeartbeats 8000000 in
set_option maxRecDepth 100000 in
theorem slices_Index_int_int.calls0 (k : Nat) (A0 : Option Addr) (c0 : Nat) (l0 : List Int) (a1 : Int) (r : Int) (w : World) (hr0 : Kd.C (Kd.int .i64) w A0 l0.length l0) (hc0 : l0.length ≤ c0) (h : slices_Index_int_int.f k l0 a1 = some r) :
  Calls Try.prog 55 #[.slice A0 l0.length c0, .int .i64 a1] w fun e w' => e = .returned (.int .i64 r) ∧ Drawn0 w w' := by
 have HR0 := Aside0.mk hr0; have HC0 := Aside0.mk hc0; clear hr0 hc0; have H : (slices_Index_int_int.l0 k l0 a1 (l0.length : Int) 0) = some r := h; clear h; have H' := Aside0.mk H; clear H; go_enter Try.func55, Try.ntmps55; go_wp2; go_loopg [8] k (fun kq v8 w' => ∃ (x8_1 : Int), v8 = .int .i64 x8_1 ∧ Aside0 (slices_Index_int_int.l0 kq l0 a1 (l0.length : Int) x8_1 = some r) ∧ Aside0 (kq ≤ k) ∧ Drawn0 w w')
 case atStart => exact ⟨(0), ev_, H', ⟨Nat.le_refl _⟩, by repeat (first | exact Drawn0.refl _ | apply Drawn0.step)⟩
 case round =>
  clear H'; (try clear p2); obtain ⟨x8_1, rfl, HA, HK1, ⟨m1, rfl⟩⟩ := hrel
  cases gk with
  | zero => exact absurd HA.out (by simp [slices_Index_int_int.l0])
  | succ k1 =>
   have H := HA.out; clear HA; simp only [slices_Index_int_int.l0] at H; by_cases c3 : x8_1 < (l0.length : Int)
   ·rw [if_pos c3] at H; have c3b0 : decide (x8_1 < (l0.length : Int)) = true := decide_eq_true c3; clear c3; by_cases c4 : 0 ≤ x8_1
    ·rw [if_pos c4] at H; have c4b0 : decide (0 ≤ x8_1) = true := decide_eq_true c4; clear c4; by_cases c5 : x8_1 < (l0.length : Int)
     ·rw [if_pos c5] at H; have c5b0 : decide (x8_1 < (l0.length : Int)) = true := decide_eq_true c5; clear c5; by_cases c6 : a1 = (rd l0 x8_1)
      ·rw [if_pos c6] at H; have c6b0 : (a1 == (rd l0 x8_1)) = true := beq_iff_eq.mpr c6; have c6b1 : (a1 != (rd l0 x8_1)) = false := bne_eq_false_iff_eq.mpr c6; clear c6; obtain rfl := Option.some.inj H; have p139 : 0 ≤ (x8_1 : Int) := od_; have q139 : x8_1 < (l0.length : Int) := od_; obtain ⟨ad139, e139, hx139_0⟩ := Kd.at_int HR0.out x8_1 p139 q139
       cases e139; replace p139 := eq_true p139; replace q139 := eq_true q139; go_wp2; go_ret; exact ⟨by first | rfl | (simp; done) | (simp [*]; done), by repeat (first | exact Drawn0.refl _ | apply Drawn0.step)⟩
      ·rw [if_neg c6] at H; have c6b0 : (a1 == (rd l0 x8_1)) = false := beq_eq_false_iff_ne.mpr c6; have c6b1 : (a1 != (rd l0 x8_1)) = true := bne_iff_ne.mpr c6; have H' := Aside0.mk H; clear H; have p139 : 0 ≤ (x8_1 : Int) := od_; have q139 : x8_1 < (l0.length : Int) := od_; obtain ⟨ad139, e139, hx139_0⟩ := Kd.at_int HR0.out x8_1 p139 q139
       cases e139; replace p139 := eq_true p139; replace q139 := eq_true q139; go_wp2; go_roundg k1
       case measure => have := HK1.out; omega
       case rel => exact ⟨(wrap64 (x8_1 + 1)), ev_, H', ⟨by have := HK1.out; omega⟩, by repeat (first | exact Drawn0.refl _ | apply Drawn0.step)⟩
     ·rw [if_neg c5] at H; exact absurd H (by simp)
    ·rw [if_neg c4] at H; exact absurd H (by simp)
   ·rw [if_neg c3] at H; have c3b0 : decide (x8_1 < (l0.length : Int)) = false := decide_eq_false c3; clear c3; obtain rfl := Option.some.inj H; go_wp2; go_ret; exact ⟨by first | rfl | (simp; done) | (simp [*]; done), by repeat (first | exact Drawn0.refl _ | apply Drawn0.step)⟩
theorem slices_Index_int_int.calls (k : Nat) (A0 : Option Addr) (c0 : Nat) (l0 : List Int) (a1 : Int) (r : Int) (w : World) (hr0 : Kd.C (Kd.int .i64) w A0 l0.length l0) (hc0 : l0.length ≤ c0) (h : slices_Index_int_int.f k l0 a1 = some r) :
  Calls Try.prog 55 #[.slice A0 l0.length c0, .int .i64 a1] w fun e w' => e = .returned (.int .i64 r) ∧ Below w.heap.size w w' :=
 (slices_Index_int_int.calls0 k A0 c0 l0 a1 r w hr0 hc0 h).mono fun _ _ ⟨he, hd⟩ => ⟨he, hd.below⟩

/-! ### slices_Contains_int_int: function 91 -/
def slices_Contains_int_int.f (k : Nat) (l0 : List Int) (a1 : Int) : Option (Bool) := (slices_Index_int_int.f k l0 a1).bind fun t140 => (some (decide (t140 ≥ 0)))
set_option maxHeartbeats 8000000 in
set_option maxRecDepth 100000 in
theorem slices_Contains_int_int.calls (k : Nat) (A0 : Option Addr) (c0 : Nat) (l0 : List Int) (a1 : Int) (r : Bool) (w : World) (hr0 : Kd.C (Kd.int .i64) w A0 l0.length l0) (hc0 : l0.length ≤ c0) (h : slices_Contains_int_int.f k l0 a1 = some r) :
  Calls Try.prog 91 #[.slice A0 l0.length c0, .int .i64 a1] w fun e w' => e = .returned (.bool r) ∧ Below w.heap.size w w' := by
 have HR0 := Aside0.mk hr0; have HC0 := Aside0.mk hc0; clear hr0 hc0; have HB := Aside0.mk (Below.refl w.heap.size w); have H : ((slices_Index_int_int.f k l0 a1).bind fun t140 => (some (decide (t140 ≥ 0)))) = some r := h; clear h; replace H := Option.bind_eq_some_iff.mp H; obtain ⟨t140, A30, H⟩ := H; have A3 := Aside0.mk A30; clear A30; obtain rfl := Option.some.inj H; go_enter Try.func91, Try.ntmps91; go_wp2_with (first | ((with_reducible refine gate_callee (f := 55) rfl ?_); refine gL_ (some 7) Try.func55 #[.slice A0 l0.length c0, .int .i64 a1] ?_; (with_reducible refine (slices_Index_int_int.calls k _ _ l0 a1 t140 _ ?side1 ?side2 A3.out).mono ?_); (case side1 => exact uC HR0.out); (case side2 => exact HC0.out); rintro e w4 ⟨rfl, hb⟩; refine ⟨_, rfl, ?_⟩; replace HB := Aside0.mk (below_step (uB HB.out) hb); (try clear hb); (try clear hb2); (try clear hk); (try clear hi)))
 go_ret; exact ⟨by first | rfl | (simp [errW_none, errW_some] <;> rfl) | (simp [*, errW_none, errW_some] <;> rfl), uB HB.out⟩

end Go.Proofs.Ytooofofeihkpcaa.Q
