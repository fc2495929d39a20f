-- Written by a session's own program (wip/tools/myprint.py) over the kit's printer, out of the translation. Not trusted: Lean checks it.
import Derived.Test.YtannkhefallkhaaQ0
import Derived.Test.YtannkhefallkhaaQ2
import Derived.Test.YtannkhefallkhaaQ3
namespace Go.Proofs.Ytannkhefallkhaa.Q
open Go.RowKit Go.Proofs.YtannkhefallkhaaW.PrintWords Go.Proofs.YtannkhefallkhaaW.PrintLast Go.Proofs.YtannkhefallkhaaW.PrintMore
attribute [local go_sem] max2_int min2_int max_two min_two max_three min_three max_four min_four   -- for this text's walks alone
set_option linter.unusedVariables false
set_option linter.unusedSimpArgs false

/-! ### spec_DealOf: function 24 -/
mutual
def spec_DealOf.l0 : Nat → List Int → List Int → List Int → List Bool → Int → Int → Int → List Int → Int → Option (List Int)
 | 0, _, _, _, _, _, _, _, _, _ => none
 | k + 1, x0, x1, x7, x8, x9, x10, x11, x12, x13 => if x13 < (x0.length : Int) then (if 0 ≤ x13 then (if x13 < (x8.length : Int) then (if rdOf false x8 x13 = true then (if x13 < (x1.length : Int) then (if x7.length < 17592186044416 then (if x12.length < 17592186044416 then (spec_DealOf.l0 k x0 x1 (x7 ++ [rd x1 x13]) x8 x9 x10 x11 (x12 ++ [(-1)]) (wrap64 (x13 + 1))) else (none)) else (none)) else (none)) else (if (rd x0 x13) > 0 then (if x10 = 0 then (none) else (if x7.length < 17592186044416 then (if x12.length < 17592186044416 then (spec_DealOf.l0 k x0 x1 (x7 ++ [wrap64 (Int.tdiv (wrap64 (x9 * (rd x0 x13))) x10)]) x8 x9 x10 (wrap64 (x11 - (wrap64 (Int.tdiv (wrap64 (x9 * (rd x0 x13))) x10)))) (x12 ++ [Int.tmod (wrap64 (x9 * (rd x0 x13))) x10]) (wrap64 (x13 + 1))) else (none)) else (none))) else (if x7.length < 17592186044416 then (if x12.length < 17592186044416 then (spec_DealOf.l0 k x0 x1 (x7 ++ [0]) x8 x9 x10 x11 (x12 ++ [(-1)]) (wrap64 (x13 + 1))) else (none)) else (none)))) else (none)) else (none)) else (spec_DealOf.l1 k x7 x11 x12)
def spec_DealOf.l1 : Nat → List Int → Int → List Int → Option (List Int)
 | 0, _, _, _ => none
 | k + 1, x7, x11, x12 => if x11 > 0 then (spec_DealOf.l2 k x7 x11 x12 (-1) 0) else (some x7)
def spec_DealOf.l2 : Nat → List Int → Int → List Int → Int → Int → Option (List Int)
 | 0, _, _, _, _, _ => none
 | k + 1, x7, x11, x12, x16, x17 => if x17 < (x12.length : Int) then (if 0 ≤ x17 then (if (rd x12 x17) ≥ 0 then (if x16 < 0 then (spec_DealOf.l2 k x7 x11 x12 x17 (wrap64 (x17 + 1))) else (if 0 ≤ x16 then (if x16 < (x12.length : Int) then (if (rd x12 x17) > (rd x12 x16) then (spec_DealOf.l2 k x7 x11 x12 x17 (wrap64 (x17 + 1))) else (spec_DealOf.l2 k x7 x11 x12 x16 (wrap64 (x17 + 1)))) else (none)) else (none))) else (spec_DealOf.l2 k x7 x11 x12 x16 (wrap64 (x17 + 1)))) else (none)) else (if x16 < 0 then (some x7) else (if 0 ≤ x16 then (if x16 < (x7.length : Int) then (if x16 < (x12.length : Int) then (spec_DealOf.l1 k (x7.set (x16 : Int).toNat (wrap64 ((rd x7 x16) + 1))) (wrap64 (x11 - 1)) (x12.set (x16 : Int).toNat (-1))) else (none)) else (none)) else (none)))
end
def spec_DealOf.f (k : Nat) (l0 : List Int) (l1 : List Int) (a2 : Int) : Option (List Int) := (some (([] : List Int) : List Int)).bind fun y159 => ((spec_DealOk.f k l0 l1 a2).bind fun t162 => (if t162 = true then ((spec_FullIn.f k l0 l1 a2).bind fun t163 => ((spec_l18Rest.f k l0 l1 a2 t163).bind fun bt166 => (spec_DealOf.l0 k l0 l1 y159 t163 bt166.1 bt166.2 bt166.1 (([] : List Int)) 0))) else (some y159)))
set_option maxHeartbeats 8000000 in
set_option maxRecDepth 100000 in
theorem spec_DealOf.calls (k : Nat) (A0 : Option Addr) (c0 : Nat) (l0 : List Int) (A1 : Option Addr) (c1 : Nat) (l1 : List Int) (a2 : Int) (r : List Int) (w : World) (hr0 : Kd.C (Kd.int .i64) w A0 l0.length l0) (hc0 : l0.length ≤ c0) (hr1 : Kd.C (Kd.int .i64) w A1 l1.length l1) (hc1 : l1.length ≤ c1) (h : spec_DealOf.f k l0 l1 a2 = some r) :
  Calls Try.prog 24 #[.slice A0 l0.length c0, .slice A1 l1.length c1, .int .i64 a2] w fun e w' => ∃ v0_ : Value, e = .returned (v0_) ∧ Kd.R (Kd.int .i64) 3 w' w.heap.size (fun _ => True) v0_ r ∧ Below w.heap.size w w' := by
 have HR0 := Aside0.mk hr0
 have HC0 := Aside0.mk hc0
 clear hr0 hc0
 have HR1 := Aside0.mk hr1
 have HC1 := Aside0.mk hc1
 clear hr1 hc1
 have HB := Aside0.mk (Below.refl w.heap.size w)
 have H : ((some (([] : List Int) : List Int)).bind fun y159 => ((spec_DealOk.f k l0 l1 a2).bind fun t162 => (if t162 = true then ((spec_FullIn.f k l0 l1 a2).bind fun t163 => ((spec_l18Rest.f k l0 l1 a2 t163).bind fun bt166 => (spec_DealOf.l0 k l0 l1 y159 t163 bt166.1 bt166.2 bt166.1 (([] : List Int)) 0))) else (some y159)))) = some r := h
 clear h
 obtain ⟨y159, hy159⟩ : ∃ y_ : List Int, y_ = (([] : List Int)) := ⟨_, rfl⟩
 replace H : ((spec_DealOk.f k l0 l1 a2).bind fun t162 => (if t162 = true then ((spec_FullIn.f k l0 l1 a2).bind fun t163 => ((spec_l18Rest.f k l0 l1 a2 t163).bind fun bt166 => (spec_DealOf.l0 k l0 l1 y159 t163 bt166.1 bt166.2 bt166.1 (([] : List Int)) 0))) else (some y159))) = some r := by first | (rw [hy159]; with_reducible exact H) | (have H2_ := (Option.bind_some _ _).symm.trans H; rw [hy159]; with_reducible exact H2_) | (have H2_ := (Option.bind_some _ _).symm.trans H; with_reducible exact H2_) | with_reducible exact H | (rw [hy159]; exact H) | exact H
 have Ny159 := Aside0.mk hy159
 clear hy159
 replace H := Option.bind_eq_some_iff.mp H
 obtain ⟨t162, A40, H⟩ := H
 replace H : (if t162 = true then ((spec_FullIn.f k l0 l1 a2).bind fun t163 => ((spec_l18Rest.f k l0 l1 a2 t163).bind fun bt166 => (spec_DealOf.l0 k l0 l1 y159 t163 bt166.1 bt166.2 bt166.1 (([] : List Int)) 0))) else (some y159)) = some r := H
 have A4 := Aside0.mk A40
 clear A40
 by_cases c5 : t162 = true
 ·subst c5
  have H1 : ((spec_FullIn.f k l0 l1 a2).bind fun t163 => ((spec_l18Rest.f k l0 l1 a2 t163).bind fun bt166 => (spec_DealOf.l0 k l0 l1 y159 t163 bt166.1 bt166.2 bt166.1 (([] : List Int)) 0))) = some r := by rw [if_pos rfl] at H; exact H
  clear H
  have H := H1
  clear H1
  replace H := Option.bind_eq_some_iff.mp H
  obtain ⟨t163, A60, H⟩ := H
  replace H : ((spec_l18Rest.f k l0 l1 a2 t163).bind fun bt166 => (spec_DealOf.l0 k l0 l1 y159 t163 bt166.1 bt166.2 bt166.1 (([] : List Int)) 0)) = some r := H
  have A6 := Aside0.mk A60
  clear A60
  replace H := Option.bind_eq_some_iff.mp H
  obtain ⟨⟨t166, t167⟩, A70, H⟩ := H
  replace H : (spec_DealOf.l0 k l0 l1 y159 t163 t166 t167 t166 (([] : List Int)) 0) = some r := H
  have A7 := Aside0.mk A70
  clear A70
  obtain ⟨y168, hy168⟩ : ∃ y_ : List Int, y_ = (([] : List Int)) := ⟨_, rfl⟩
  replace H : (spec_DealOf.l0 k l0 l1 y159 t163 t166 t167 t166 y168 0) = some r := by first | (rw [hy168]; with_reducible exact H) | (have H2_ := (Option.bind_some _ _).symm.trans H; rw [hy168]; with_reducible exact H2_) | (have H2_ := (Option.bind_some _ _).symm.trans H; with_reducible exact H2_) | with_reducible exact H | (rw [hy168]; exact H) | exact H
  have Ny168 := Aside0.mk hy168
  clear hy168
  have H' := Aside0.mk H
  clear H
  go_enter Try.func24, Try.ntmps24
  repeat ((fail_if_success (first | clear z_ | done)); go_wp2_with (first | ((with_reducible refine gate_dst (N := 18) rfl ?_); refine Kd.R_lit (Kd.int .i64) _ 3 ?hg (N := 18) ?hd (xs := ([] : List Int)) (inner := []) (ok := fun _ => True) (okp := fun _ => True) ?hr ?hp (fun _ hk => hk) trivial (Below.refl _ _) (Nat.le_refl _) (by simp) ?_; (case hd => rfl); (case hg => rfl); (case hr => first | (go_simp; done) | (go_simp; rfl)); (case hp => exact (Reps.none _ _)); intro v160 w8 ho9 hb hg_ hnew_; clear hg_ hnew_; (first | rw [← Ny159.out] at ho9 | (simp only [Int.reduceToNat] at ho9; rw [← Ny159.out] at ho9)); have n0_ := Aside0.mk (Kd.R_lower ho9 (below_size (uB HB.out))); have n1_ := Aside0.mk (below_step (uB HB.out) hb); clear HB; have HO161 := n0_; have HB := n1_; clear n0_ n1_; clear hb ho9) | (go_at_call 40; (with_reducible refine (spec_DealOk.calls k _ _ l0 _ _ l1 a2 true _ ?side1 ?side2 ?side3 ?side4 A4.out).mono ?_); (case side1 => repeat (first | exact (Kd.C_below HR0.out HB.out) | (with_reducible refine Kd.C_alloc ?_ _) | (with_reducible refine Kd.C_drewN ?_ _) | (with_reducible refine Kd.C_drew ?_))); (case side2 => exact HC0.out); (case side3 => repeat (first | exact (Kd.C_below HR1.out HB.out) | (with_reducible refine Kd.C_alloc ?_ _) | (with_reducible refine Kd.C_drewN ?_ _) | (with_reducible refine Kd.C_drew ?_))); (case side4 => exact HC1.out); rintro e w' ⟨rfl, ⟨nd, rfl⟩⟩; (try first | exact ⟨rfl, _, World.drewN_drewN _ _ _⟩ | exact ⟨rfl, _, Eq.trans (World.drewN_drewN _ _ _) (congrArg (World.drewN _) (Nat.add_assoc _ _ _))⟩)) | (go_at_call 41; (with_reducible refine (spec_FullIn.calls k _ _ l0 _ _ l1 a2 t163 _ ?side1 ?side2 ?side3 ?side4 A6.out).mono ?_); (case side1 => repeat (first | exact (Kd.C_below HR0.out (uB HB.out)) | (with_reducible refine Kd.C_alloc ?_ _) | (with_reducible refine Kd.C_drewN ?_ _) | (with_reducible refine Kd.C_drew ?_))); (case side2 => exact HC0.out); (case side3 => repeat (first | exact (Kd.C_below HR1.out (uB HB.out)) | (with_reducible refine Kd.C_alloc ?_ _) | (with_reducible refine Kd.C_drewN ?_ _) | (with_reducible refine Kd.C_drew ?_))); (case side4 => exact HC1.out); rintro e w10 ⟨v164, rfl, ho0, hb⟩; have n0_ := Aside0.mk (Kd.R_below (uR HO161.out) hb); have n1_ := Aside0.mk (Kd.R_lower ho0 (below_size (uB HB.out))); have n2_ := Aside0.mk (below_step (uB HB.out) hb); clear HO161; clear HB; have HO161 := n0_; have HO165 := n1_; have HB := n2_; clear n0_ n1_ n2_; (try clear hb); (try clear hb2); (try clear hk); (try clear hi); (try clear ho0); obtain ⟨Ao11, co11, eo11⟩ := Kd.R_slice HO165.out; subst eo11) | (go_at_call 42; (with_reducible refine (spec_l18Rest.calls k _ _ l0 _ _ l1 a2 _ _ t163 t166 t167 _ ?side1 ?side2 ?side3 ?side4 ?side5 ?side6 A7.out).mono ?_); (case side1 => repeat (first | exact (Kd.C_below HR0.out HB.out) | (with_reducible refine Kd.C_alloc ?_ _) | (with_reducible refine Kd.C_drewN ?_ _) | (with_reducible refine Kd.C_drew ?_))); (case side2 => exact HC0.out); (case side3 => repeat (first | exact (Kd.C_below HR1.out HB.out) | (with_reducible refine Kd.C_alloc ?_ _) | (with_reducible refine Kd.C_drewN ?_ _) | (with_reducible refine Kd.C_drew ?_))); (case side4 => exact HC1.out); (case side5 => exact uC (Kd.R_reads' HO165.out).2.2); (case side6 => exact (Kd.R_reads' HO165.out).2.1); rintro e w' ⟨rfl, ⟨nd, rfl⟩⟩; (try first | exact ⟨rfl, _, World.drewN_drewN _ _ _⟩ | exact ⟨rfl, _, Eq.trans (World.drewN_drewN _ _ _) (congrArg (World.drewN _) (Nat.add_assoc _ _ _))⟩)) | ((with_reducible refine gate_dst (N := 38) rfl ?_); refine Kd.R_lit (Kd.int .i64) _ 3 ?hg (N := 38) ?hd (xs := ([] : List Int)) (inner := []) (ok := fun _ => True) (okp := fun _ => True) ?hr ?hp (fun _ hk => hk) trivial (Below.refl _ _) (Nat.le_refl _) (by simp) ?_; (case hd => rfl); (case hg => rfl); (case hr => first | (go_simp; done) | (go_simp; rfl)); (case hp => exact (Reps.none _ _)); intro v169 w12 ho13 hb hg_ hnew_; clear hg_ hnew_; (first | rw [← Ny168.out] at ho13 | (simp only [Int.reduceToNat] at ho13; rw [← Ny168.out] at ho13)); have n0_ := Aside0.mk (Kd.R_elder' (uR HO161.out) (Kd.R_base ho13) hb); have n1_ := Aside0.mk (Kd.R_below (uR HO165.out) hb); have n2_ := Aside0.mk (Kd.R_lower (Kd.R_new' ho13 (Kd.R_lt (uR HO161.out))) (below_size (uB HB.out))); have n3_ := Aside0.mk (below_step (uB HB.out) hb); clear HO161; clear HO165; clear HB; have HO161 := n0_; have HO165 := n1_; have HO170 := n2_; have HB := n3_; clear n0_ n1_ n2_ n3_; clear hb ho13)); first | go_quiet (first | (go_at_call 40; (with_reducible refine (spec_DealOk.calls k _ _ l0 _ _ l1 a2 true _ ?side1 ?side2 ?side3 ?side4 A4.out).mono ?_); (case side1 => repeat (first | exact (Kd.C_below HR0.out HB.out) | (with_reducible refine Kd.C_alloc ?_ _) | (with_reducible refine Kd.C_drewN ?_ _) | (with_reducible refine Kd.C_drew ?_))); (case side2 => exact HC0.out); (case side3 => repeat (first | exact (Kd.C_below HR1.out HB.out) | (with_reducible refine Kd.C_alloc ?_ _) | (with_reducible refine Kd.C_drewN ?_ _) | (with_reducible refine Kd.C_drew ?_))); (case side4 => exact HC1.out); rintro e w' ⟨rfl, ⟨nd, rfl⟩⟩; (try first | exact ⟨rfl, _, World.drewN_drewN _ _ _⟩ | exact ⟨rfl, _, Eq.trans (World.drewN_drewN _ _ _) (congrArg (World.drewN _) (Nat.add_assoc _ _ _))⟩)) | (go_at_call 41; (with_reducible refine (spec_FullIn.calls k _ _ l0 _ _ l1 a2 t163 _ ?side1 ?side2 ?side3 ?side4 A6.out).mono ?_); (case side1 => repeat (first | exact (Kd.C_below HR0.out (uB HB.out)) | (with_reducible refine Kd.C_alloc ?_ _) | (with_reducible refine Kd.C_drewN ?_ _) | (with_reducible refine Kd.C_drew ?_))); (case side2 => exact HC0.out); (case side3 => repeat (first | exact (Kd.C_below HR1.out (uB HB.out)) | (with_reducible refine Kd.C_alloc ?_ _) | (with_reducible refine Kd.C_drewN ?_ _) | (with_reducible refine Kd.C_drew ?_))); (case side4 => exact HC1.out); rintro e w10 ⟨v164, rfl, ho0, hb⟩; have n0_ := Aside0.mk (Kd.R_below (uR HO161.out) hb); have n1_ := Aside0.mk (Kd.R_lower ho0 (below_size (uB HB.out))); have n2_ := Aside0.mk (below_step (uB HB.out) hb); clear HO161; clear HB; have HO161 := n0_; have HO165 := n1_; have HB := n2_; clear n0_ n1_ n2_; (try clear hb); (try clear hb2); (try clear hk); (try clear hi); (try clear ho0); obtain ⟨Ao11, co11, eo11⟩ := Kd.R_slice HO165.out; subst eo11) | (go_at_call 42; (with_reducible refine (spec_l18Rest.calls k _ _ l0 _ _ l1 a2 _ _ t163 t166 t167 _ ?side1 ?side2 ?side3 ?side4 ?side5 ?side6 A7.out).mono ?_); (case side1 => repeat (first | exact (Kd.C_below HR0.out HB.out) | (with_reducible refine Kd.C_alloc ?_ _) | (with_reducible refine Kd.C_drewN ?_ _) | (with_reducible refine Kd.C_drew ?_))); (case side2 => exact HC0.out); (case side3 => repeat (first | exact (Kd.C_below HR1.out HB.out) | (with_reducible refine Kd.C_alloc ?_ _) | (with_reducible refine Kd.C_drewN ?_ _) | (with_reducible refine Kd.C_drew ?_))); (case side4 => exact HC1.out); (case side5 => exact uC (Kd.R_reads' HO165.out).2.2); (case side6 => exact (Kd.R_reads' HO165.out).2.1); rintro e w' ⟨rfl, ⟨nd, rfl⟩⟩; (try first | exact ⟨rfl, _, World.drewN_drewN _ _ _⟩ | exact ⟨rfl, _, Eq.trans (World.drewN_drewN _ _ _) (congrArg (World.drewN _) (Nat.add_assoc _ _ _))⟩))) | have z_ := True.intro | skip)
  (try clear z_)
  go_loopg [7, 11, 12, 13] k (fun kq v7 v11 v12 v13 w' => ∃ (x7_1 : List Int) (x11_1 : Int) (x12_1 : List Int) (x13_1 : Int), v11 = .int .i64 x11_1 ∧ v13 = .int .i64 x13_1 ∧ Aside0 (spec_DealOf.l0 kq l0 l1 x7_1 t163 t166 t167 x11_1 x12_1 x13_1 = some r) ∧ Aside0 (kq ≤ k) ∧ Aside0 (Kd.R (Kd.int .i64) 3 w' w.heap.size (fun k_ => some k_ ≠ (v12 : Value).ownBlock) v7 x7_1) ∧ Aside0 (Kd.R Kd.bool 4 w' w.heap.size (fun _ => True) (.slice Ao11 t163.length co11) t163) ∧ Aside0 (Kd.R (Kd.int .i64) 3 w' w.heap.size (fun k_ => some k_ ≠ (v7 : Value).ownBlock) v12 x12_1) ∧ Aside0 (Below w.heap.size w w'))
  case atStart => exact ⟨(y159), (t166), (y168), (0), (by first | rfl | (simp; done) | (simp [*]; done)), (by first | rfl | (simp; done) | (simp [*]; done)), H', ⟨Nat.le_refl _⟩, ⟨by (with_reducible repeat (first | apply Kd.R_alloc | apply Kd.R_drewN | apply Kd.R_drew)); exact Kd.R_mono HO161.out (fun _ hk => hk.2)⟩, ⟨by (with_reducible repeat (first | apply Kd.R_alloc | apply Kd.R_drewN | apply Kd.R_drew)); exact HO165.out⟩, ⟨by (with_reducible repeat (first | apply Kd.R_alloc | apply Kd.R_drewN | apply Kd.R_drew)); exact Kd.R_mono HO170.out (fun _ hk => hk.2)⟩, ⟨by repeat (first | (with_reducible first | exact HB.out | apply below_alloc | apply pw_below_drewN | apply below_drew1) | exact HB.out)⟩⟩
  case round =>
   clear H'
   try clear c1
   try clear c2
   try clear p2
   try clear c5
   obtain ⟨x7_1, x11_1, x12_1, x13_1, rfl, rfl, HA, HK1, HO_7, HO_8, HO_12, HB⟩ := hrel
   cases gk with
   | zero => exact absurd HA.out (by simp [spec_DealOf.l0])
   | succ k1 =>
    have H := HA.out
    clear HA
    simp only [spec_DealOf.l0] at H
    by_cases c14 : x13_1 < (l0.length : Int)
    ·rw [if_pos c14] at H
     have c14b0 : decide (x13_1 < (l0.length : Int)) = true := decide_eq_true c14
     clear c14
     by_cases c15 : 0 ≤ x13_1
     ·rw [if_pos c15] at H
      have c15b0 : decide (0 ≤ x13_1) = true := decide_eq_true c15
      clear c15
      by_cases c16 : x13_1 < (t163.length : Int)
      ·rw [if_pos c16] at H
       have c16b0 : decide (x13_1 < (t163.length : Int)) = true := decide_eq_true c16
       clear c16
       obtain ⟨bq17, hbq17⟩ : ∃ b_ : Bool, b_ = (rdOf false t163 x13_1) := ⟨_, rfl⟩
       replace H : (if bq17 = true then (if x13_1 < (l1.length : Int) then (if x7_1.length < 17592186044416 then (if x12_1.length < 17592186044416 then (spec_DealOf.l0 k1 l0 l1 (x7_1 ++ [rd l1 x13_1]) t163 t166 t167 x11_1 (x12_1 ++ [(-1)]) (wrap64 (x13_1 + 1))) else (none)) else (none)) else (none)) else (if (rd l0 x13_1) > 0 then (if t167 = 0 then (none) else (if x7_1.length < 17592186044416 then (if x12_1.length < 17592186044416 then (spec_DealOf.l0 k1 l0 l1 (x7_1 ++ [wrap64 (Int.tdiv (wrap64 (t166 * (rd l0 x13_1))) t167)]) t163 t166 t167 (wrap64 (x11_1 - (wrap64 (Int.tdiv (wrap64 (t166 * (rd l0 x13_1))) t167)))) (x12_1 ++ [Int.tmod (wrap64 (t166 * (rd l0 x13_1))) t167]) (wrap64 (x13_1 + 1))) else (none)) else (none))) else (if x7_1.length < 17592186044416 then (if x12_1.length < 17592186044416 then (spec_DealOf.l0 k1 l0 l1 (x7_1 ++ [0]) t163 t166 t167 x11_1 (x12_1 ++ [(-1)]) (wrap64 (x13_1 + 1))) else (none)) else (none)))) = some r := by rw [← hbq17] at H; exact H
       have Nbq17 := Aside0.mk hbq17
       clear hbq17
       by_cases c18 : bq17 = true
       ·subst c18
        have H1 : (if x13_1 < (l1.length : Int) then (if x7_1.length < 17592186044416 then (if x12_1.length < 17592186044416 then (spec_DealOf.l0 k1 l0 l1 (x7_1 ++ [rd l1 x13_1]) t163 t166 t167 x11_1 (x12_1 ++ [(-1)]) (wrap64 (x13_1 + 1))) else (none)) else (none)) else (none)) = some r := by rw [if_pos rfl] at H; exact H
        clear H
        have H := H1
        clear H1
        by_cases c19 : x13_1 < (l1.length : Int)
        ·rw [if_pos c19] at H
         have c19b0 : decide (x13_1 < (l1.length : Int)) = true := decide_eq_true c19
         clear c19
         by_cases c20 : x7_1.length < 17592186044416
         ·rw [if_pos c20] at H
          have LMc20 := Aside0.mk c20
          clear c20
          obtain ⟨y173, hy173⟩ : ∃ y_ : List Int, y_ = (x7_1 ++ [rd l1 x13_1]) := ⟨_, rfl⟩
          replace H : (if x12_1.length < 17592186044416 then (spec_DealOf.l0 k1 l0 l1 y173 t163 t166 t167 x11_1 (x12_1 ++ [(-1)]) (wrap64 (x13_1 + 1))) else (none)) = some r := by first | (rw [hy173]; with_reducible exact H) | (have H2_ := (Option.bind_some _ _).symm.trans H; rw [hy173]; with_reducible exact H2_) | (have H2_ := (Option.bind_some _ _).symm.trans H; with_reducible exact H2_) | with_reducible exact H | (rw [hy173]; exact H) | exact H
          have Ny173 := Aside0.mk hy173
          clear hy173
          by_cases c21 : x12_1.length < 17592186044416
          ·rw [if_pos c21] at H
           have LMc21 := Aside0.mk c21
           clear c21
           obtain ⟨y176, hy176⟩ : ∃ y_ : List Int, y_ = (x12_1 ++ [(-1)]) := ⟨_, rfl⟩
           replace H : (spec_DealOf.l0 k1 l0 l1 y173 t163 t166 t167 x11_1 y176 (wrap64 (x13_1 + 1))) = some r := by first | (rw [hy176]; with_reducible exact H) | (have H2_ := (Option.bind_some _ _).symm.trans H; rw [hy176]; with_reducible exact H2_) | (have H2_ := (Option.bind_some _ _).symm.trans H; with_reducible exact H2_) | with_reducible exact H | (rw [hy176]; exact H) | exact H
           have Ny176 := Aside0.mk hy176
           clear hy176
           have H' := Aside0.mk H
           clear H
           have p171 : 0 ≤ (x13_1 : Int) := of_decide_eq_true (by first | (with_reducible assumption) | assumption)
           have q171 : x13_1 < (t163.length : Int) := of_decide_eq_true (by first | (with_reducible assumption) | assumption)
           obtain ⟨ad171, e171, hx171_0⟩ := Kd.at_bool (Kd.R_reads' HO_8.out).2.2 x13_1 p171 q171
           (try rw [← Nbq17.out] at hx171_0)
           cases e171
           replace p171 := eq_true p171
           replace q171 := eq_true q171
           have p172 : 0 ≤ (x13_1 : Int) := of_decide_eq_true (by first | (with_reducible assumption) | assumption)
           have q172 : x13_1 < (l1.length : Int) := of_decide_eq_true (by first | (with_reducible assumption) | assumption)
           obtain ⟨ad172, e172, hx172_0⟩ := Kd.at_int HR1.out x13_1 p172 q172
           cases e172
           replace hx172_0 := (HB.out.cell (World.block_lt_of_cell? w _ hx172_0)).trans hx172_0
           replace p172 := eq_true p172
           replace q172 := eq_true q172
           repeat ((fail_if_success (first | clear z_ | done)); go_wp2_with (first | ((with_reducible refine gate_builtin (b := .append) (xs := #[.tmp 77, .tmp 79]) rfl ?_); at_builtin; refine Kd.R_append (Kd.int .i64) (w0 := w) w.heap.size rfl (.tmp 77) (.tmp 79) 24 3 (.int .i64 0) 8 rfl Try.underlying24 info3 rfl (by decide) (by omega) u7 x7_1 (rd l1 x13_1) [.int .i64 (rd l1 x13_1)] (fun k_ => some k_ ≠ (u12 : Value).ownBlock) (fun _ => False) rfl rfl ?aP (fun _ hk => hk.elim) ?aF ?aO ?aB ?aS ?aL ?_; (case aP => exact rfl); (case aB => exact (uB HB.out)); (case aF => exact (fun k_ hk => Kd.fresh' (Kd.R_lt (uR HO_12.out)) k_ hk)); (case aO => exact (uR HO_7.out)); (case aS => exact (below_size (uB HB.out))); (case aL => have := LMc20.out; omega); intro v174 w22 ho hb hg hat; rw [← Ny173.out] at ho; have n0_ := Aside0.mk (Kd.R_over' (uR HO_8.out) (Kd.R_typed (uR HO_7.out)) (by decide) hg); have n1_ := Aside0.mk (Kd.R_after (ok := (fun _ => True)) (uR (Kd.R_mono HO_12.out (fun _ hk => ⟨trivial, hk⟩))) hg hat); have n2_ := Aside0.mk (hb); have n3_ := Aside0.mk (ho); clear HO_8; clear HO_12; clear HB; clear HO_7; have HO_8 := n0_; have HO_12 := n1_; have HB := n2_; have HO175 := n3_; clear n0_ n1_ n2_ n3_; clear ho hb hg hat) | ((with_reducible refine gate_builtin (b := .append) (xs := #[.tmp 81, .tmp 83]) rfl ?_); at_builtin; refine Kd.R_append (Kd.int .i64) (w0 := w) w.heap.size rfl (.tmp 81) (.tmp 83) 24 3 (.int .i64 0) 8 rfl Try.underlying24 info3 rfl (by decide) (by omega) u12 x12_1 (-1) [.int .i64 (-1)] (fun k_ => some k_ ≠ (v174 : Value).ownBlock) (fun _ => False) rfl rfl ?aP (fun _ hk => hk.elim) ?aF ?aO ?aB ?aS ?aL ?_; (case aP => exact rfl); (case aB => exact (uB HB.out)); (case aF => exact (fun k_ hk => Kd.fresh' (Kd.R_lt (uR HO175.out)) k_ hk)); (case aO => exact (uR (Kd.R_mono HO_12.out (fun _ hk => hk.2)))); (case aS => exact (below_size (uB HB.out))); (case aL => have := LMc21.out; omega); intro v177 w23 ho hb hg hat; rw [← Ny176.out] at ho; have n0_ := Aside0.mk (Kd.R_over' (uR HO_8.out) (Kd.R_typed (uR HO_12.out)) (by decide) hg); have n1_ := Aside0.mk (Kd.R_after (ok := (fun _ => True)) (uR (Kd.R_mono HO175.out (fun _ hk => ⟨trivial, hk⟩))) hg hat); have n2_ := Aside0.mk (hb); have n3_ := Aside0.mk (ho); clear HO_8; clear HO175; clear HB; clear HO_12; have HO_8 := n0_; have HO175 := n1_; have HB := n2_; have HO178 := n3_; clear n0_ n1_ n2_ n3_; clear ho hb hg hat)); first | go_quiet (fail) | have z_ := True.intro | skip)
           (try clear z_)
           go_roundg k1
           case measure => have := HK1.out; omega
           case rel => exact ⟨(y173), (x11_1), (y176), (wrap64 (x13_1 + 1)), (by first | rfl | (simp; done) | (simp [*]; done)), (by first | rfl | (simp; done) | (simp [*]; done)), H', ⟨by have := HK1.out; omega⟩, ⟨by (with_reducible repeat (first | apply Kd.R_alloc | apply Kd.R_drewN | apply Kd.R_drew)); exact Kd.R_mono HO175.out (fun _ hk => hk.2)⟩, ⟨by (with_reducible repeat (first | apply Kd.R_alloc | apply Kd.R_drewN | apply Kd.R_drew)); exact HO_8.out⟩, ⟨by (with_reducible repeat (first | apply Kd.R_alloc | apply Kd.R_drewN | apply Kd.R_drew)); exact HO178.out⟩, ⟨by repeat (first | (with_reducible first | exact HB.out | apply below_alloc | apply pw_below_drewN | apply below_drew1) | exact HB.out)⟩⟩
          ·rw [if_neg c21] at H
           exact absurd H (by simp)
         ·rw [if_neg c20] at H
          exact absurd H (by simp)
        ·rw [if_neg c19] at H
         exact absurd H (by simp)
       ·replace c18 := Bool.eq_false_iff.mpr c18
        subst c18
        have H1 : (if (rd l0 x13_1) > 0 then (if t167 = 0 then (none) else (if x7_1.length < 17592186044416 then (if x12_1.length < 17592186044416 then (spec_DealOf.l0 k1 l0 l1 (x7_1 ++ [wrap64 (Int.tdiv (wrap64 (t166 * (rd l0 x13_1))) t167)]) t163 t166 t167 (wrap64 (x11_1 - (wrap64 (Int.tdiv (wrap64 (t166 * (rd l0 x13_1))) t167)))) (x12_1 ++ [Int.tmod (wrap64 (t166 * (rd l0 x13_1))) t167]) (wrap64 (x13_1 + 1))) else (none)) else (none))) else (if x7_1.length < 17592186044416 then (if x12_1.length < 17592186044416 then (spec_DealOf.l0 k1 l0 l1 (x7_1 ++ [0]) t163 t166 t167 x11_1 (x12_1 ++ [(-1)]) (wrap64 (x13_1 + 1))) else (none)) else (none))) = some r := by rw [if_neg (show ¬ (false = true) by decide)] at H; exact H
        clear H
        have H := H1
        clear H1
        by_cases c24 : (rd l0 x13_1) > 0
        ·rw [if_pos c24] at H
         have c24b0 : decide (0 < (rd l0 x13_1)) = true := decide_eq_true c24
         clear c24
         by_cases c25 : t167 = 0
         ·rw [if_pos c25] at H
          exact absurd H (by simp)
         ·rw [if_neg c25] at H
          have c25b0 : (t167 == 0) = false := beq_eq_false_iff_ne.mpr c25
          have c25b1 : (t167 != 0) = true := bne_iff_ne.mpr c25
          by_cases c26 : x7_1.length < 17592186044416
          ·rw [if_pos c26] at H
           have LMc26 := Aside0.mk c26
           clear c26
           obtain ⟨y182, hy182⟩ : ∃ y_ : List Int, y_ = (x7_1 ++ [wrap64 (Int.tdiv (wrap64 (t166 * (rd l0 x13_1))) t167)]) := ⟨_, rfl⟩
           replace H : (if x12_1.length < 17592186044416 then (spec_DealOf.l0 k1 l0 l1 y182 t163 t166 t167 (wrap64 (x11_1 - (wrap64 (Int.tdiv (wrap64 (t166 * (rd l0 x13_1))) t167)))) (x12_1 ++ [Int.tmod (wrap64 (t166 * (rd l0 x13_1))) t167]) (wrap64 (x13_1 + 1))) else (none)) = some r := by first | (rw [hy182]; with_reducible exact H) | (have H2_ := (Option.bind_some _ _).symm.trans H; rw [hy182]; with_reducible exact H2_) | (have H2_ := (Option.bind_some _ _).symm.trans H; with_reducible exact H2_) | with_reducible exact H | (rw [hy182]; exact H) | exact H
           have Ny182 := Aside0.mk hy182
           clear hy182
           by_cases c27 : x12_1.length < 17592186044416
           ·rw [if_pos c27] at H
            have LMc27 := Aside0.mk c27
            clear c27
            obtain ⟨y185, hy185⟩ : ∃ y_ : List Int, y_ = (x12_1 ++ [Int.tmod (wrap64 (t166 * (rd l0 x13_1))) t167]) := ⟨_, rfl⟩
            replace H : (spec_DealOf.l0 k1 l0 l1 y182 t163 t166 t167 (wrap64 (x11_1 - (wrap64 (Int.tdiv (wrap64 (t166 * (rd l0 x13_1))) t167)))) y185 (wrap64 (x13_1 + 1))) = some r := by first | (rw [hy185]; with_reducible exact H) | (have H2_ := (Option.bind_some _ _).symm.trans H; rw [hy185]; with_reducible exact H2_) | (have H2_ := (Option.bind_some _ _).symm.trans H; with_reducible exact H2_) | with_reducible exact H | (rw [hy185]; exact H) | exact H
            have Ny185 := Aside0.mk hy185
            clear hy185
            have H' := Aside0.mk H
            clear H
            have p171 : 0 ≤ (x13_1 : Int) := of_decide_eq_true (by first | (with_reducible assumption) | assumption)
            have q171 : x13_1 < (t163.length : Int) := of_decide_eq_true (by first | (with_reducible assumption) | assumption)
            obtain ⟨ad171, e171, hx171_0⟩ := Kd.at_bool (Kd.R_reads' HO_8.out).2.2 x13_1 p171 q171
            (try rw [← Nbq17.out] at hx171_0)
            cases e171
            replace p171 := eq_true p171
            replace q171 := eq_true q171
            have p179 : 0 ≤ (x13_1 : Int) := of_decide_eq_true (by first | (with_reducible assumption) | assumption)
            have q179 : x13_1 < (l0.length : Int) := of_decide_eq_true (by first | (with_reducible assumption) | assumption)
            obtain ⟨ad179, e179, hx179_0⟩ := Kd.at_int HR0.out x13_1 p179 q179
            cases e179
            replace hx179_0 := (HB.out.cell (World.block_lt_of_cell? w _ hx179_0)).trans hx179_0
            replace p179 := eq_true p179
            replace q179 := eq_true q179
            have p180 : 0 ≤ (x13_1 : Int) := of_decide_eq_true (by first | (with_reducible assumption) | assumption)
            have q180 : x13_1 < (l0.length : Int) := of_decide_eq_true (by first | (with_reducible assumption) | assumption)
            obtain ⟨ad180, e180, hx180_0⟩ := Kd.at_int HR0.out x13_1 p180 q180
            obtain rfl : ad179 = ad180 := (by injection e180)
            replace hx180_0 := (HB.out.cell (World.block_lt_of_cell? w _ hx180_0)).trans hx180_0
            replace p180 := eq_true p180
            replace q180 := eq_true q180
            have p181 : 0 ≤ (x13_1 : Int) := of_decide_eq_true (by first | (with_reducible assumption) | assumption)
            have q181 : x13_1 < (l0.length : Int) := of_decide_eq_true (by first | (with_reducible assumption) | assumption)
            obtain ⟨ad181, e181, hx181_0⟩ := Kd.at_int HR0.out x13_1 p181 q181
            obtain rfl : ad179 = ad181 := (by injection e181)
            replace hx181_0 := (HB.out.cell (World.block_lt_of_cell? w _ hx181_0)).trans hx181_0
            replace p181 := eq_true p181
            replace q181 := eq_true q181
            repeat ((fail_if_success (first | clear z_ | done)); go_wp2_with (first | ((with_reducible refine gate_builtin (b := .append) (xs := #[.tmp 77, .tmp 79]) rfl ?_); at_builtin; refine Kd.R_append (Kd.int .i64) (w0 := w) w.heap.size rfl (.tmp 77) (.tmp 79) 24 3 (.int .i64 0) 8 rfl Try.underlying24 info3 rfl (by decide) (by omega) u7 x7_1 (wrap64 (Int.tdiv (wrap64 (t166 * (rd l0 x13_1))) t167)) [.int .i64 (wrap64 (Int.tdiv (wrap64 (t166 * (rd l0 x13_1))) t167))] (fun k_ => some k_ ≠ (u12 : Value).ownBlock) (fun _ => False) rfl rfl ?aP (fun _ hk => hk.elim) ?aF ?aO ?aB ?aS ?aL ?_; (case aP => exact rfl); (case aB => exact (uB HB.out)); (case aF => exact (fun k_ hk => Kd.fresh' (Kd.R_lt (uR HO_12.out)) k_ hk)); (case aO => exact (uR HO_7.out)); (case aS => exact (below_size (uB HB.out))); (case aL => have := LMc26.out; omega); intro v183 w28 ho hb hg hat; rw [← Ny182.out] at ho; have n0_ := Aside0.mk (Kd.R_over' (uR HO_8.out) (Kd.R_typed (uR HO_7.out)) (by decide) hg); have n1_ := Aside0.mk (Kd.R_after (ok := (fun _ => True)) (uR (Kd.R_mono HO_12.out (fun _ hk => ⟨trivial, hk⟩))) hg hat); have n2_ := Aside0.mk (hb); have n3_ := Aside0.mk (ho); clear HO_8; clear HO_12; clear HB; clear HO_7; have HO_8 := n0_; have HO_12 := n1_; have HB := n2_; have HO184 := n3_; clear n0_ n1_ n2_ n3_; clear ho hb hg hat) | ((with_reducible refine gate_builtin (b := .append) (xs := #[.tmp 81, .tmp 83]) rfl ?_); at_builtin; refine Kd.R_append (Kd.int .i64) (w0 := w) w.heap.size rfl (.tmp 81) (.tmp 83) 24 3 (.int .i64 0) 8 rfl Try.underlying24 info3 rfl (by decide) (by omega) u12 x12_1 (Int.tmod (wrap64 (t166 * (rd l0 x13_1))) t167) [.int .i64 (Int.tmod (wrap64 (t166 * (rd l0 x13_1))) t167)] (fun k_ => some k_ ≠ (v183 : Value).ownBlock) (fun _ => False) rfl rfl ?aP (fun _ hk => hk.elim) ?aF ?aO ?aB ?aS ?aL ?_; (case aP => exact rfl); (case aB => exact (uB HB.out)); (case aF => exact (fun k_ hk => Kd.fresh' (Kd.R_lt (uR HO184.out)) k_ hk)); (case aO => exact (uR (Kd.R_mono HO_12.out (fun _ hk => hk.2)))); (case aS => exact (below_size (uB HB.out))); (case aL => have := LMc27.out; omega); intro v186 w29 ho hb hg hat; rw [← Ny185.out] at ho; have n0_ := Aside0.mk (Kd.R_over' (uR HO_8.out) (Kd.R_typed (uR HO_12.out)) (by decide) hg); have n1_ := Aside0.mk (Kd.R_after (ok := (fun _ => True)) (uR (Kd.R_mono HO184.out (fun _ hk => ⟨trivial, hk⟩))) hg hat); have n2_ := Aside0.mk (hb); have n3_ := Aside0.mk (ho); clear HO_8; clear HO184; clear HB; clear HO_12; have HO_8 := n0_; have HO184 := n1_; have HB := n2_; have HO187 := n3_; clear n0_ n1_ n2_ n3_; clear ho hb hg hat)); first | go_quiet (fail) | have z_ := True.intro | skip)
            (try clear z_)
            go_roundg k1
            case measure => have := HK1.out; omega
            case rel => exact ⟨(y182), (wrap64 (x11_1 - (wrap64 (Int.tdiv (wrap64 (t166 * (rd l0 x13_1))) t167)))), (y185), (wrap64 (x13_1 + 1)), (by first | rfl | (simp; done) | (simp [*]; done)), (by first | rfl | (simp; done) | (simp [*]; done)), H', ⟨by have := HK1.out; omega⟩, ⟨by (with_reducible repeat (first | apply Kd.R_alloc | apply Kd.R_drewN | apply Kd.R_drew)); exact Kd.R_mono HO184.out (fun _ hk => hk.2)⟩, ⟨by (with_reducible repeat (first | apply Kd.R_alloc | apply Kd.R_drewN | apply Kd.R_drew)); exact HO_8.out⟩, ⟨by (with_reducible repeat (first | apply Kd.R_alloc | apply Kd.R_drewN | apply Kd.R_drew)); exact HO187.out⟩, ⟨by repeat (first | (with_reducible first | exact HB.out | apply below_alloc | apply pw_below_drewN | apply below_drew1) | exact HB.out)⟩⟩
           ·rw [if_neg c27] at H
            exact absurd H (by simp)
          ·rw [if_neg c26] at H
           exact absurd H (by simp)
        ·rw [if_neg c24] at H
         have c24b0 : decide (0 < (rd l0 x13_1)) = false := decide_eq_false c24
         clear c24
         by_cases c30 : x7_1.length < 17592186044416
         ·rw [if_pos c30] at H
          have LMc30 := Aside0.mk c30
          clear c30
          obtain ⟨y188, hy188⟩ : ∃ y_ : List Int, y_ = (x7_1 ++ [0]) := ⟨_, rfl⟩
          replace H : (if x12_1.length < 17592186044416 then (spec_DealOf.l0 k1 l0 l1 y188 t163 t166 t167 x11_1 (x12_1 ++ [(-1)]) (wrap64 (x13_1 + 1))) else (none)) = some r := by first | (rw [hy188]; with_reducible exact H) | (have H2_ := (Option.bind_some _ _).symm.trans H; rw [hy188]; with_reducible exact H2_) | (have H2_ := (Option.bind_some _ _).symm.trans H; with_reducible exact H2_) | with_reducible exact H | (rw [hy188]; exact H) | exact H
          have Ny188 := Aside0.mk hy188
          clear hy188
          by_cases c31 : x12_1.length < 17592186044416
          ·rw [if_pos c31] at H
           have LMc31 := Aside0.mk c31
           clear c31
           obtain ⟨y191, hy191⟩ : ∃ y_ : List Int, y_ = (x12_1 ++ [(-1)]) := ⟨_, rfl⟩
           replace H : (spec_DealOf.l0 k1 l0 l1 y188 t163 t166 t167 x11_1 y191 (wrap64 (x13_1 + 1))) = some r := by first | (rw [hy191]; with_reducible exact H) | (have H2_ := (Option.bind_some _ _).symm.trans H; rw [hy191]; with_reducible exact H2_) | (have H2_ := (Option.bind_some _ _).symm.trans H; with_reducible exact H2_) | with_reducible exact H | (rw [hy191]; exact H) | exact H
           have Ny191 := Aside0.mk hy191
           clear hy191
           have H' := Aside0.mk H
           clear H
           have p171 : 0 ≤ (x13_1 : Int) := of_decide_eq_true (by first | (with_reducible assumption) | assumption)
           have q171 : x13_1 < (t163.length : Int) := of_decide_eq_true (by first | (with_reducible assumption) | assumption)
           obtain ⟨ad171, e171, hx171_0⟩ := Kd.at_bool (Kd.R_reads' HO_8.out).2.2 x13_1 p171 q171
           (try rw [← Nbq17.out] at hx171_0)
           cases e171
           replace p171 := eq_true p171
           replace q171 := eq_true q171
           have p179 : 0 ≤ (x13_1 : Int) := of_decide_eq_true (by first | (with_reducible assumption) | assumption)
           have q179 : x13_1 < (l0.length : Int) := of_decide_eq_true (by first | (with_reducible assumption) | assumption)
           obtain ⟨ad179, e179, hx179_0⟩ := Kd.at_int HR0.out x13_1 p179 q179
           cases e179
           replace hx179_0 := (HB.out.cell (World.block_lt_of_cell? w _ hx179_0)).trans hx179_0
           replace p179 := eq_true p179
           replace q179 := eq_true q179
           repeat ((fail_if_success (first | clear z_ | done)); go_wp2_with (first | ((with_reducible refine gate_builtin (b := .append) (xs := #[.tmp 77, .tmp 79]) rfl ?_); at_builtin; refine Kd.R_append (Kd.int .i64) (w0 := w) w.heap.size rfl (.tmp 77) (.tmp 79) 24 3 (.int .i64 0) 8 rfl Try.underlying24 info3 rfl (by decide) (by omega) u7 x7_1 0 [.int .i64 0] (fun k_ => some k_ ≠ (u12 : Value).ownBlock) (fun _ => False) rfl rfl ?aP (fun _ hk => hk.elim) ?aF ?aO ?aB ?aS ?aL ?_; (case aP => exact rfl); (case aB => exact (uB HB.out)); (case aF => exact (fun k_ hk => Kd.fresh' (Kd.R_lt (uR HO_12.out)) k_ hk)); (case aO => exact (uR HO_7.out)); (case aS => exact (below_size (uB HB.out))); (case aL => have := LMc30.out; omega); intro v189 w32 ho hb hg hat; rw [← Ny188.out] at ho; have n0_ := Aside0.mk (Kd.R_over' (uR HO_8.out) (Kd.R_typed (uR HO_7.out)) (by decide) hg); have n1_ := Aside0.mk (Kd.R_after (ok := (fun _ => True)) (uR (Kd.R_mono HO_12.out (fun _ hk => ⟨trivial, hk⟩))) hg hat); have n2_ := Aside0.mk (hb); have n3_ := Aside0.mk (ho); clear HO_8; clear HO_12; clear HB; clear HO_7; have HO_8 := n0_; have HO_12 := n1_; have HB := n2_; have HO190 := n3_; clear n0_ n1_ n2_ n3_; clear ho hb hg hat) | ((with_reducible refine gate_builtin (b := .append) (xs := #[.tmp 81, .tmp 83]) rfl ?_); at_builtin; refine Kd.R_append (Kd.int .i64) (w0 := w) w.heap.size rfl (.tmp 81) (.tmp 83) 24 3 (.int .i64 0) 8 rfl Try.underlying24 info3 rfl (by decide) (by omega) u12 x12_1 (-1) [.int .i64 (-1)] (fun k_ => some k_ ≠ (v189 : Value).ownBlock) (fun _ => False) rfl rfl ?aP (fun _ hk => hk.elim) ?aF ?aO ?aB ?aS ?aL ?_; (case aP => exact rfl); (case aB => exact (uB HB.out)); (case aF => exact (fun k_ hk => Kd.fresh' (Kd.R_lt (uR HO190.out)) k_ hk)); (case aO => exact (uR (Kd.R_mono HO_12.out (fun _ hk => hk.2)))); (case aS => exact (below_size (uB HB.out))); (case aL => have := LMc31.out; omega); intro v192 w33 ho hb hg hat; rw [← Ny191.out] at ho; have n0_ := Aside0.mk (Kd.R_over' (uR HO_8.out) (Kd.R_typed (uR HO_12.out)) (by decide) hg); have n1_ := Aside0.mk (Kd.R_after (ok := (fun _ => True)) (uR (Kd.R_mono HO190.out (fun _ hk => ⟨trivial, hk⟩))) hg hat); have n2_ := Aside0.mk (hb); have n3_ := Aside0.mk (ho); clear HO_8; clear HO190; clear HB; clear HO_12; have HO_8 := n0_; have HO190 := n1_; have HB := n2_; have HO193 := n3_; clear n0_ n1_ n2_ n3_; clear ho hb hg hat)); first | go_quiet (fail) | have z_ := True.intro | skip)
           (try clear z_)
           go_roundg k1
           case measure => have := HK1.out; omega
           case rel => exact ⟨(y188), (x11_1), (y191), (wrap64 (x13_1 + 1)), (by first | rfl | (simp; done) | (simp [*]; done)), (by first | rfl | (simp; done) | (simp [*]; done)), H', ⟨by have := HK1.out; omega⟩, ⟨by (with_reducible repeat (first | apply Kd.R_alloc | apply Kd.R_drewN | apply Kd.R_drew)); exact Kd.R_mono HO190.out (fun _ hk => hk.2)⟩, ⟨by (with_reducible repeat (first | apply Kd.R_alloc | apply Kd.R_drewN | apply Kd.R_drew)); exact HO_8.out⟩, ⟨by (with_reducible repeat (first | apply Kd.R_alloc | apply Kd.R_drewN | apply Kd.R_drew)); exact HO193.out⟩, ⟨by repeat (first | (with_reducible first | exact HB.out | apply below_alloc | apply pw_below_drewN | apply below_drew1) | exact HB.out)⟩⟩
          ·rw [if_neg c31] at H
           exact absurd H (by simp)
         ·rw [if_neg c30] at H
          exact absurd H (by simp)
      ·rw [if_neg c16] at H
       exact absurd H (by simp)
     ·rw [if_neg c15] at H
      exact absurd H (by simp)
    ·rw [if_neg c14] at H
     have c14b0 : decide (x13_1 < (l0.length : Int)) = false := decide_eq_false c14
     clear c14
     have H' := Aside0.mk H
     clear H
     go_wp2
     repeat (go_quiet (fail); try go_wp2)
     go_loopg [11] k1 (fun kq v11 w' => ∃ (x7_2 : List Int) (x11_2 : Int) (x12_2 : List Int), v11 = .int .i64 x11_2 ∧ Aside0 (spec_DealOf.l1 kq x7_2 x11_2 x12_2 = some r) ∧ Aside0 (kq ≤ k1) ∧ Aside0 (Kd.R (Kd.int .i64) 3 w' w.heap.size (fun k_ => some k_ ≠ (u12 : Value).ownBlock) u7 x7_2) ∧ Aside0 (Kd.R (Kd.int .i64) 3 w' w.heap.size (fun k_ => some k_ ≠ (u7 : Value).ownBlock) u12 x12_2) ∧ Aside0 (Below w.heap.size w w'))
     case atStart => exact ⟨(x7_1), (x11_1), (x12_1), (by first | rfl | (simp; done) | (simp [*]; done)), H', ⟨Nat.le_refl _⟩, ⟨by (with_reducible repeat (first | apply Kd.R_alloc | apply Kd.R_drewN | apply Kd.R_drew)); exact HO_7.out⟩, ⟨by (with_reducible repeat (first | apply Kd.R_alloc | apply Kd.R_drewN | apply Kd.R_drew)); exact HO_12.out⟩, ⟨by repeat (first | (with_reducible first | exact HB.out | apply below_alloc | apply pw_below_drewN | apply below_drew1) | exact HB.out)⟩⟩
     case round =>
      clear H'
      try clear c1
      try clear p1
      try clear q1
      try clear hx1
      try clear c2
      try clear p2
      try clear c3
      try clear c5
      try clear p6
      try clear c14
      try clear c14b0
      try clear c15
      try clear c15b0
      try clear c16
      try clear c16b0
      try clear p17
      try clear q17
      try clear hx17
      try clear c18
      try clear p18
      try clear q18
      try clear hx18
      try clear c19
      try clear c19b0
      try clear c20
      try clear c21
      try clear c24
      try clear c24b0
      try clear c25
      try clear c25b0
      try clear c25b1
      try clear c26
      try clear c27
      try clear c30
      try clear c31
      try clear hx171_0
      try clear hx172_0
      try clear hx179_0
      try clear hx180_0
      try clear hx181_0
      try clear p171
      try clear p172
      try clear p179
      try clear p180
      try clear p181
      try clear p2
      try clear q171
      try clear q172
      try clear q179
      try clear q180
      try clear q181
      obtain ⟨x7_2, x11_2, x12_2, rfl, HA, HK2, HO_7, HO_12, HB⟩ := hrel
      cases gk with
      | zero => exact absurd HA.out (by simp [spec_DealOf.l1])
      | succ k2 =>
       have H := HA.out
       clear HA
       simp only [spec_DealOf.l1] at H
       by_cases c34 : x11_2 > 0
       ·rw [if_pos c34] at H
        have c34b0 : decide (0 < x11_2) = true := decide_eq_true c34
        clear c34
        have H' := Aside0.mk H
        clear H
        go_wp2
        repeat (go_quiet (fail); try go_wp2)
        go_loopg [16, 17] k2 (fun kq v16 v17 w' => ∃ (x16_3 : Int) (x17_3 : Int), v16 = .int .i64 x16_3 ∧ v17 = .int .i64 x17_3 ∧ Aside0 (spec_DealOf.l2 kq x7_2 x11_2 x12_2 x16_3 x17_3 = some r) ∧ Aside0 (kq ≤ k2) ∧ Aside0 (Kd.R (Kd.int .i64) 3 w' w.heap.size (fun k_ => some k_ ≠ (u12 : Value).ownBlock) u7 x7_2) ∧ Aside0 (Kd.R (Kd.int .i64) 3 w' w.heap.size (fun k_ => some k_ ≠ (u7 : Value).ownBlock) u12 x12_2) ∧ Aside0 (Below w.heap.size w w'))
        case atStart => exact ⟨((-1)), (0), (by first | rfl | (simp; done) | (simp [*]; done)), (by first | rfl | (simp; done) | (simp [*]; done)), H', ⟨Nat.le_refl _⟩, ⟨by (with_reducible repeat (first | apply Kd.R_alloc | apply Kd.R_drewN | apply Kd.R_drew)); exact HO_7.out⟩, ⟨by (with_reducible repeat (first | apply Kd.R_alloc | apply Kd.R_drewN | apply Kd.R_drew)); exact HO_12.out⟩, ⟨by repeat (first | (with_reducible first | exact HB.out | apply below_alloc | apply pw_below_drewN | apply below_drew1) | exact HB.out)⟩⟩
        case round =>
         clear H'
         try clear c1
         try clear p1
         try clear q1
         try clear hx1
         try clear c2
         try clear p2
         try clear c3
         try clear c5
         try clear p6
         try clear c14
         try clear c14b0
         try clear c15
         try clear c15b0
         try clear c16
         try clear c16b0
         try clear p17
         try clear q17
         try clear hx17
         try clear c18
         try clear p18
         try clear q18
         try clear hx18
         try clear c19
         try clear c19b0
         try clear c20
         try clear c21
         try clear c24
         try clear c24b0
         try clear c25
         try clear c25b0
         try clear c25b1
         try clear c26
         try clear c27
         try clear c30
         try clear c31
         try clear c34
         try clear c34b0
         try clear hx171_0
         try clear hx172_0
         try clear hx179_0
         try clear hx180_0
         try clear hx181_0
         try clear p1
         try clear p17
         try clear p171
         try clear p172
         try clear p179
         try clear p18
         try clear p180
         try clear p181
         try clear p2
         try clear p6
         try clear q1
         try clear q17
         try clear q171
         try clear q172
         try clear q179
         try clear q18
         try clear q180
         try clear q181
         obtain ⟨x16_3, x17_3, rfl, rfl, HA, HK3, HO_7, HO_12, HB⟩ := hrel
         cases gk with
         | zero => exact absurd HA.out (by simp [spec_DealOf.l2])
         | succ k3 =>
          have H := HA.out
          clear HA
          simp only [spec_DealOf.l2] at H
          by_cases c35 : x17_3 < (x12_2.length : Int)
          ·rw [if_pos c35] at H
           have c35b0 : decide (x17_3 < (x12_2.length : Int)) = true := decide_eq_true c35
           clear c35
           by_cases c36 : 0 ≤ x17_3
           ·rw [if_pos c36] at H
            have c36b0 : decide (0 ≤ x17_3) = true := decide_eq_true c36
            clear c36
            by_cases c37 : (rd x12_2 x17_3) ≥ 0
            ·rw [if_pos c37] at H
             have c37b0 : decide (0 ≤ (rd x12_2 x17_3)) = true := decide_eq_true c37
             clear c37
             by_cases c38 : x16_3 < 0
             ·rw [if_pos c38] at H
              have c38b0 : decide (x16_3 < 0) = true := decide_eq_true c38
              clear c38
              have H' := Aside0.mk H
              clear H
              obtain ⟨Ao39, co39, eo39⟩ := Kd.R_slice HO_12.out
              subst eo39
              have p194 : 0 ≤ (x17_3 : Int) := of_decide_eq_true (by first | (with_reducible assumption) | assumption)
              have q194 : x17_3 < (x12_2.length : Int) := of_decide_eq_true (by first | (with_reducible assumption) | assumption)
              obtain ⟨ad194, e194, hx194_0⟩ := Kd.at_int (Kd.R_reads' HO_12.out).2.2 x17_3 p194 q194
              cases e194
              replace p194 := eq_true p194
              replace q194 := eq_true q194
              go_wp2
              repeat (go_quiet (fail); try go_wp2)
              go_roundg k3
              case measure => have := HK1.out; have := HK2.out; have := HK3.out; omega
              case rel => exact ⟨(x17_3), (wrap64 (x17_3 + 1)), (by first | rfl | (simp; done) | (simp [*]; done)), (by first | rfl | (simp; done) | (simp [*]; done)), H', ⟨by have := HK1.out; have := HK2.out; have := HK3.out; omega⟩, ⟨by (with_reducible repeat (first | apply Kd.R_alloc | apply Kd.R_drewN | apply Kd.R_drew)); exact HO_7.out⟩, ⟨by (with_reducible repeat (first | apply Kd.R_alloc | apply Kd.R_drewN | apply Kd.R_drew)); exact HO_12.out⟩, ⟨by repeat (first | (with_reducible first | exact HB.out | apply below_alloc | apply pw_below_drewN | apply below_drew1) | exact HB.out)⟩⟩
             ·rw [if_neg c38] at H
              have c38b0 : decide (x16_3 < 0) = false := decide_eq_false c38
              clear c38
              by_cases c40 : 0 ≤ x16_3
              ·rw [if_pos c40] at H
               have c40b0 : decide (0 ≤ x16_3) = true := decide_eq_true c40
               clear c40
               by_cases c41 : x16_3 < (x12_2.length : Int)
               ·rw [if_pos c41] at H
                have c41b0 : decide (x16_3 < (x12_2.length : Int)) = true := decide_eq_true c41
                clear c41
                by_cases c42 : (rd x12_2 x17_3) > (rd x12_2 x16_3)
                ·rw [if_pos c42] at H
                 have c42b0 : decide ((rd x12_2 x16_3) < (rd x12_2 x17_3)) = true := decide_eq_true c42
                 clear c42
                 have H' := Aside0.mk H
                 clear H
                 obtain ⟨Ao43, co43, eo43⟩ := Kd.R_slice HO_12.out
                 subst eo43
                 have p194 : 0 ≤ (x17_3 : Int) := of_decide_eq_true (by first | (with_reducible assumption) | assumption)
                 have q194 : x17_3 < (x12_2.length : Int) := of_decide_eq_true (by first | (with_reducible assumption) | assumption)
                 obtain ⟨ad194, e194, hx194_0⟩ := Kd.at_int (Kd.R_reads' HO_12.out).2.2 x17_3 p194 q194
                 cases e194
                 replace p194 := eq_true p194
                 replace q194 := eq_true q194
                 have p195 : 0 ≤ (x17_3 : Int) := of_decide_eq_true (by first | (with_reducible assumption) | assumption)
                 have q195 : x17_3 < (x12_2.length : Int) := of_decide_eq_true (by first | (with_reducible assumption) | assumption)
                 obtain ⟨ad195, e195, hx195_0⟩ := Kd.at_int (Kd.R_reads' HO_12.out).2.2 x17_3 p195 q195
                 obtain rfl : ad194 = ad195 := (by injection e195)
                 replace p195 := eq_true p195
                 replace q195 := eq_true q195
                 have p196 : 0 ≤ (x16_3 : Int) := of_decide_eq_true (by first | (with_reducible assumption) | assumption)
                 have q196 : x16_3 < (x12_2.length : Int) := of_decide_eq_true (by first | (with_reducible assumption) | assumption)
                 obtain ⟨ad196, e196, hx196_0⟩ := Kd.at_int (Kd.R_reads' HO_12.out).2.2 x16_3 p196 q196
                 obtain rfl : ad194 = ad196 := (by injection e196)
                 replace p196 := eq_true p196
                 replace q196 := eq_true q196
                 go_wp2
                 repeat (go_quiet (fail); try go_wp2)
                 go_roundg k3
                 case measure => have := HK1.out; have := HK2.out; have := HK3.out; omega
                 case rel => exact ⟨(x17_3), (wrap64 (x17_3 + 1)), (by first | rfl | (simp; done) | (simp [*]; done)), (by first | rfl | (simp; done) | (simp [*]; done)), H', ⟨by have := HK1.out; have := HK2.out; have := HK3.out; omega⟩, ⟨by (with_reducible repeat (first | apply Kd.R_alloc | apply Kd.R_drewN | apply Kd.R_drew)); exact HO_7.out⟩, ⟨by (with_reducible repeat (first | apply Kd.R_alloc | apply Kd.R_drewN | apply Kd.R_drew)); exact HO_12.out⟩, ⟨by repeat (first | (with_reducible first | exact HB.out | apply below_alloc | apply pw_below_drewN | apply below_drew1) | exact HB.out)⟩⟩
                ·rw [if_neg c42] at H
                 have c42b0 : decide ((rd x12_2 x16_3) < (rd x12_2 x17_3)) = false := decide_eq_false c42
                 clear c42
                 have H' := Aside0.mk H
                 clear H
                 obtain ⟨Ao44, co44, eo44⟩ := Kd.R_slice HO_12.out
                 subst eo44
                 have p194 : 0 ≤ (x17_3 : Int) := of_decide_eq_true (by first | (with_reducible assumption) | assumption)
                 have q194 : x17_3 < (x12_2.length : Int) := of_decide_eq_true (by first | (with_reducible assumption) | assumption)
                 obtain ⟨ad194, e194, hx194_0⟩ := Kd.at_int (Kd.R_reads' HO_12.out).2.2 x17_3 p194 q194
                 cases e194
                 replace p194 := eq_true p194
                 replace q194 := eq_true q194
                 have p195 : 0 ≤ (x17_3 : Int) := of_decide_eq_true (by first | (with_reducible assumption) | assumption)
                 have q195 : x17_3 < (x12_2.length : Int) := of_decide_eq_true (by first | (with_reducible assumption) | assumption)
                 obtain ⟨ad195, e195, hx195_0⟩ := Kd.at_int (Kd.R_reads' HO_12.out).2.2 x17_3 p195 q195
                 obtain rfl : ad194 = ad195 := (by injection e195)
                 replace p195 := eq_true p195
                 replace q195 := eq_true q195
                 have p196 : 0 ≤ (x16_3 : Int) := of_decide_eq_true (by first | (with_reducible assumption) | assumption)
                 have q196 : x16_3 < (x12_2.length : Int) := of_decide_eq_true (by first | (with_reducible assumption) | assumption)
                 obtain ⟨ad196, e196, hx196_0⟩ := Kd.at_int (Kd.R_reads' HO_12.out).2.2 x16_3 p196 q196
                 obtain rfl : ad194 = ad196 := (by injection e196)
                 replace p196 := eq_true p196
                 replace q196 := eq_true q196
                 go_wp2
                 repeat (go_quiet (fail); try go_wp2)
                 go_roundg k3
                 case measure => have := HK1.out; have := HK2.out; have := HK3.out; omega
                 case rel => exact ⟨(x16_3), (wrap64 (x17_3 + 1)), (by first | rfl | (simp; done) | (simp [*]; done)), (by first | rfl | (simp; done) | (simp [*]; done)), H', ⟨by have := HK1.out; have := HK2.out; have := HK3.out; omega⟩, ⟨by (with_reducible repeat (first | apply Kd.R_alloc | apply Kd.R_drewN | apply Kd.R_drew)); exact HO_7.out⟩, ⟨by (with_reducible repeat (first | apply Kd.R_alloc | apply Kd.R_drewN | apply Kd.R_drew)); exact HO_12.out⟩, ⟨by repeat (first | (with_reducible first | exact HB.out | apply below_alloc | apply pw_below_drewN | apply below_drew1) | exact HB.out)⟩⟩
               ·rw [if_neg c41] at H
                exact absurd H (by simp)
              ·rw [if_neg c40] at H
               exact absurd H (by simp)
            ·rw [if_neg c37] at H
             have c37b0 : decide (0 ≤ (rd x12_2 x17_3)) = false := decide_eq_false c37
             clear c37
             have H' := Aside0.mk H
             clear H
             obtain ⟨Ao45, co45, eo45⟩ := Kd.R_slice HO_12.out
             subst eo45
             have p194 : 0 ≤ (x17_3 : Int) := of_decide_eq_true (by first | (with_reducible assumption) | assumption)
             have q194 : x17_3 < (x12_2.length : Int) := of_decide_eq_true (by first | (with_reducible assumption) | assumption)
             obtain ⟨ad194, e194, hx194_0⟩ := Kd.at_int (Kd.R_reads' HO_12.out).2.2 x17_3 p194 q194
             cases e194
             replace p194 := eq_true p194
             replace q194 := eq_true q194
             go_wp2
             repeat (go_quiet (fail); try go_wp2)
             go_roundg k3
             case measure => have := HK1.out; have := HK2.out; have := HK3.out; omega
             case rel => exact ⟨(x16_3), (wrap64 (x17_3 + 1)), (by first | rfl | (simp; done) | (simp [*]; done)), (by first | rfl | (simp; done) | (simp [*]; done)), H', ⟨by have := HK1.out; have := HK2.out; have := HK3.out; omega⟩, ⟨by (with_reducible repeat (first | apply Kd.R_alloc | apply Kd.R_drewN | apply Kd.R_drew)); exact HO_7.out⟩, ⟨by (with_reducible repeat (first | apply Kd.R_alloc | apply Kd.R_drewN | apply Kd.R_drew)); exact HO_12.out⟩, ⟨by repeat (first | (with_reducible first | exact HB.out | apply below_alloc | apply pw_below_drewN | apply below_drew1) | exact HB.out)⟩⟩
           ·rw [if_neg c36] at H
            exact absurd H (by simp)
          ·rw [if_neg c35] at H
           have c35b0 : decide (x17_3 < (x12_2.length : Int)) = false := decide_eq_false c35
           clear c35
           by_cases c46 : x16_3 < 0
           ·rw [if_pos c46] at H
            have c46b0 : decide (x16_3 < 0) = true := decide_eq_true c46
            clear c46
            obtain rfl := Option.some.inj H
            obtain ⟨Ao47, co47, eo47⟩ := Kd.R_slice HO_12.out
            subst eo47
            go_wp2
            repeat (go_quiet (fail); try go_wp2)
            go_ret
            exact ⟨_, by first | rfl | (simp [errW_none, errW_some] <;> rfl) | (simp [*, errW_none, errW_some] <;> rfl), by (with_reducible repeat (first | apply Kd.R_alloc | apply Kd.R_drewN | apply Kd.R_drew)); exact Kd.R_mono HO_7.out (fun _ hk => trivial), by repeat (first | (with_reducible first | exact HB.out | apply below_alloc | apply pw_below_drewN | apply below_drew1) | exact HB.out)⟩
           ·rw [if_neg c46] at H
            have c46b0 : decide (x16_3 < 0) = false := decide_eq_false c46
            clear c46
            by_cases c48 : 0 ≤ x16_3
            ·rw [if_pos c48] at H
             have c48b0 : decide (0 ≤ x16_3) = true := decide_eq_true c48
             clear c48
             by_cases c49 : x16_3 < (x7_2.length : Int)
             ·rw [if_pos c49] at H
              have c49b0 : decide (x16_3 < (x7_2.length : Int)) = true := decide_eq_true c49
              clear c49
              obtain ⟨y198, hy198⟩ : ∃ y_ : List Int, y_ = (x7_2.set (x16_3 : Int).toNat (wrap64 ((rd x7_2 x16_3) + 1))) := ⟨_, rfl⟩
              replace H : (if x16_3 < (x12_2.length : Int) then (spec_DealOf.l1 k3 y198 (wrap64 (x11_2 - 1)) (x12_2.set (x16_3 : Int).toNat (-1))) else (none)) = some r := by first | (rw [hy198]; with_reducible exact H) | (have H2_ := (Option.bind_some _ _).symm.trans H; rw [hy198]; with_reducible exact H2_) | (have H2_ := (Option.bind_some _ _).symm.trans H; with_reducible exact H2_) | with_reducible exact H | (rw [hy198]; exact H) | exact H
              have Ny198 := Aside0.mk hy198
              clear hy198
              by_cases c51 : x16_3 < (x12_2.length : Int)
              ·rw [if_pos c51] at H
               have c51b0 : decide (x16_3 < (x12_2.length : Int)) = true := decide_eq_true c51
               clear c51
               obtain ⟨y199, hy199⟩ : ∃ y_ : List Int, y_ = (x12_2.set (x16_3 : Int).toNat (-1)) := ⟨_, rfl⟩
               replace H : (spec_DealOf.l1 k3 y198 (wrap64 (x11_2 - 1)) y199) = some r := by first | (rw [hy199]; with_reducible exact H) | (have H2_ := (Option.bind_some _ _).symm.trans H; rw [hy199]; with_reducible exact H2_) | (have H2_ := (Option.bind_some _ _).symm.trans H; with_reducible exact H2_) | with_reducible exact H | (rw [hy199]; exact H) | exact H
               have Ny199 := Aside0.mk hy199
               clear hy199
               have H' := Aside0.mk H
               clear H
               obtain ⟨Ao53, co53, eo53⟩ := Kd.R_slice HO_12.out
               subst eo53
               obtain ⟨Ao54, co54, eo54⟩ := Kd.R_slice HO_7.out
               subst eo54
               have p197 : 0 ≤ (x16_3 : Int) := of_decide_eq_true (by first | (with_reducible assumption) | assumption)
               have q197 : x16_3 < (x7_2.length : Int) := of_decide_eq_true (by first | (with_reducible assumption) | assumption)
               obtain ⟨ad197, e197, hx197_0⟩ := Kd.at_int (Kd.R_reads' HO_7.out).2.2 x16_3 p197 q197
               cases e197
               replace p197 := eq_true p197
               replace q197 := eq_true q197
               have p50 : 0 ≤ (x16_3 : Int) := of_decide_eq_true (by first | (with_reducible assumption) | assumption)
               have q50 : (x16_3 : Int) < ((x7_2.length : Int) : Int) := of_decide_eq_true (by first | (with_reducible assumption) | assumption)
               obtain ⟨go50, co50, eo50, gb50, gl50, cl50, HG50⟩ := Kd.R_form HO_7.out (by omega)
               (first | cases eo50 | (injection eo50 with ea_ en_ ec_; (first | subst ea_ | (injection ea_ with ea_; subst ea_)); subst ec_; clear en_))
               have GB50 := Aside0.mk gb50
               have GG50 := Aside0.mk HG50
               clear gb50 gl50 HG50
               (first | simp only [add_plain] at hx197_0 | skip)
               obtain ⟨hx50_0, hf50_0⟩ := Kd.R_celln 0 HO_7.out (x16_3 : Int) p50 q50
               replace p50 := eq_true p50
               replace q50 := eq_true q50
               have HP55 := Kd.R_putg HO_7.out (x16_3 : Int) (wrap64 ((rd x7_2 x16_3) + 1))
               repeat ((fail_if_success (first | clear z_ | done)); go_wp2_with (first | ((with_reducible refine gate_store (t := 3) (p := 124) rfl ?_); (try (rw [drewN_self wr]; generalize hq_ : World.drewN wr _ = wr; have n0_ := Aside0.mk (Kd.R_at hq_ HO_7.out); have n1_ := Aside0.mk (Kd.R_at hq_ HO_12.out); have n2_ := Aside0.mk (below_at hq_ HB.out); clear hq_ HO_7 HO_12 HB; have HO_7 := n0_; have HO_12 := n1_; have HB := n2_; clear n0_ n1_ n2_; (try (have HP55 := Kd.R_putg HO_7.out (x16_3 : Int) (wrap64 ((rd x7_2 x16_3) + 1)); (try (obtain ⟨hx50_0, hf50_0⟩ := Kd.R_celln 0 HO_7.out (x16_3 : Int) (of_eq_true p50) (of_eq_true q50))))))); refine store_event (t := 3) (p := 124) (v := ?vo_w56) (w1 := (wr.setCell ⟨go50, (x16_3 : Int).toNat, none⟩ (.int .i64 (wrap64 ((rd x7_2 x16_3) + 1))))) ?hg ?ho ?hn ?hr ?_; (case ho => rfl); (case hg => rfl); (case hn => rfl); (case hr => first | (go_simp; done) | (go_simp; rfl)); intro w56 hw; have hg : wr.grownBy w56 (some go50) := (by rw [hw]; exact HP55.2); have hp_ : Kd.R (Kd.int .i64) 3 w56 w.heap.size (fun k_ => some k_ ≠ (.slice Ao53 x12_2.length co53 : Value).ownBlock) (.slice (some ⟨go50, 0, none⟩) x7_2.length co54) y198 := (by rw [hw, Ny198.out]; exact HP55.1); clear HP55; have n0_ := Aside0.mk (hp_); have n1_ := Aside0.mk (Kd.R_after (v := (.slice (some ⟨go50, 0, none⟩) x7_2.length co54)) (v1 := (.slice (some ⟨go50, 0, none⟩) x7_2.length co54)) (ok := (fun _ => True)) (uR (Kd.R_mono HO_12.out (fun _ hk => ⟨trivial, hk⟩))) hg (.inl rfl)); have n2_ := Aside0.mk ((by rw [hw]; exact below_set (HB.out) GB50.out : Below w.heap.size w w56)); clear HO_7; clear HO_12; clear HB; have HO_7 := n0_; have HO_12 := n1_; have HB := n2_; clear n0_ n1_ n2_; clear hg hw hp_; have p52 : 0 ≤ (x16_3 : Int) := of_decide_eq_true (by first | (with_reducible assumption) | assumption); have q52 : (x16_3 : Int) < ((x12_2.length : Int) : Int) := of_decide_eq_true (by first | (with_reducible assumption) | assumption); obtain ⟨go52, co52, eo52, gb52, gl52, cl52, HG52⟩ := Kd.R_form HO_12.out (by omega); (first | cases eo52 | (injection eo52 with ea_ en_ ec_; (first | subst ea_ | (injection ea_ with ea_; subst ea_)); subst ec_; clear en_)); have GB52 := Aside0.mk gb52; have GG52 := Aside0.mk HG52; clear gb52 gl52 HG52; obtain ⟨hx52_0, hf52_0⟩ := Kd.R_celln 0 HO_12.out (x16_3 : Int) p52 q52; replace p52 := eq_true p52; replace q52 := eq_true q52; have n_ := Aside0.mk (Kd.R_mono (ok' := (fun k_ => some k_ ≠ (.slice (some ⟨go50, 0, none⟩) x7_2.length co54 : Value).ownBlock)) HO_12.out (fun k_ hk => hk.2)); clear HO_12; have HO_12 := n_; clear n_; obtain ⟨hy57_, hz57_⟩ := Kd.R_celln 0 HO_12.out (x16_3 : Int) (of_decide_eq_true (by first | (with_reducible assumption) | assumption)) (of_decide_eq_true (by first | (with_reducible assumption) | assumption)); have HP57 := Kd.R_putg HO_12.out (x16_3 : Int) (-1)) | ((with_reducible refine gate_store (t := 3) (p := 127) rfl ?_); (try (rw [drewN_self w56]; generalize hq_ : World.drewN w56 _ = w56; have n0_ := Aside0.mk (Kd.R_at hq_ HO_7.out); have n1_ := Aside0.mk (Kd.R_at hq_ HO_12.out); have n2_ := Aside0.mk (below_at hq_ HB.out); clear hq_ HO_7 HO_12 HB; have HO_7 := n0_; have HO_12 := n1_; have HB := n2_; clear n0_ n1_ n2_; (try (have n_ := Aside0.mk (Kd.R_mono (ok' := (fun k_ => some k_ ≠ (.slice (some ⟨go50, 0, none⟩) x7_2.length co54 : Value).ownBlock)) HO_12.out (fun k_ hk => hk.2)); clear HO_12; have HO_12 := n_; clear n_)); (try (obtain ⟨hy57_, hz57_⟩ := Kd.R_celln 0 HO_12.out (x16_3 : Int) (of_decide_eq_true (by first | (with_reducible assumption) | assumption)) (of_decide_eq_true (by first | (with_reducible assumption) | assumption)))); (try (have HP57 := Kd.R_putg HO_12.out (x16_3 : Int) (-1))))); refine store_event (t := 3) (p := 127) (v := ?vo_w58) (w1 := (w56.setCell ⟨go52, (x16_3 : Int).toNat, none⟩ (.int .i64 (-1)))) ?hg ?ho ?hn ?hr ?_; (case ho => rfl); (case hg => rfl); (case hn => rfl); (case hr => first | (go_simp; done) | (go_simp; rfl)); intro w58 hw; have hg : w56.grownBy w58 (some go52) := (by rw [hw]; exact HP57.2); have hp_ : Kd.R (Kd.int .i64) 3 w58 w.heap.size (fun k_ => some k_ ≠ (.slice (some ⟨go50, 0, none⟩) x7_2.length co54 : Value).ownBlock) (.slice (some ⟨go52, 0, none⟩) x12_2.length co53) y199 := (by rw [hw, Ny199.out]; exact HP57.1); clear HP57; have n0_ := Aside0.mk (Kd.R_after (v := (.slice (some ⟨go52, 0, none⟩) x12_2.length co53)) (v1 := (.slice (some ⟨go52, 0, none⟩) x12_2.length co53)) (ok := (fun _ => True)) (uR (Kd.R_mono HO_7.out (fun _ hk => ⟨trivial, hk⟩))) hg (.inl rfl)); have n1_ := Aside0.mk (hp_); have n2_ := Aside0.mk ((by rw [hw]; exact below_set (HB.out) GB52.out : Below w.heap.size w w58)); clear HO_7; clear HO_12; clear HB; have HO_7 := n0_; have HO_12 := n1_; have HB := n2_; clear n0_ n1_ n2_; clear hg hw hp_)); first | go_quiet (fail) | have z_ := True.intro | skip)
               (try clear z_)
               (first | go_roundg k3 | (simp only [add_plain] at *; go_roundg k3))
               case measure => have := HK1.out; have := HK2.out; have := HK3.out; omega
               case rel => exact ⟨(y198), (wrap64 (x11_2 - 1)), (y199), (by first | rfl | (simp; done) | (simp [*]; done)), H', ⟨by have := HK1.out; have := HK2.out; have := HK3.out; omega⟩, ⟨by (with_reducible repeat (first | apply Kd.R_alloc | apply Kd.R_drewN | apply Kd.R_drew)); exact Kd.R_mono HO_7.out (fun _ hk => hk.2)⟩, ⟨by (with_reducible repeat (first | apply Kd.R_alloc | apply Kd.R_drewN | apply Kd.R_drew)); exact HO_12.out⟩, ⟨by repeat (first | (with_reducible first | exact HB.out | apply below_alloc | apply pw_below_drewN | apply below_drew1) | exact HB.out)⟩⟩
              ·rw [if_neg c51] at H
               exact absurd H (by simp)
             ·rw [if_neg c49] at H
              exact absurd H (by simp)
            ·rw [if_neg c48] at H
             exact absurd H (by simp)
       ·rw [if_neg c34] at H
        have c34b0 : decide (0 < x11_2) = false := decide_eq_false c34
        clear c34
        obtain rfl := Option.some.inj H
        go_wp2
        repeat (go_quiet (fail); try go_wp2)
        go_ret
        exact ⟨_, by first | rfl | (simp [errW_none, errW_some] <;> rfl) | (simp [*, errW_none, errW_some] <;> rfl), by (with_reducible repeat (first | apply Kd.R_alloc | apply Kd.R_drewN | apply Kd.R_drew)); exact Kd.R_mono HO_7.out (fun _ hk => trivial), by repeat (first | (with_reducible first | exact HB.out | apply below_alloc | apply pw_below_drewN | apply below_drew1) | exact HB.out)⟩
 ·replace c5 := Bool.eq_false_iff.mpr c5
  subst c5
  have H1 : (some y159) = some r := by rw [if_neg (show ¬ (false = true) by decide)] at H; exact H
  clear H
  have H := H1
  clear H1
  obtain rfl := Option.some.inj H
  go_enter Try.func24, Try.ntmps24
  repeat ((fail_if_success (first | clear z_ | done)); go_wp2_with (first | ((with_reducible refine gate_dst (N := 18) rfl ?_); refine Kd.R_lit (Kd.int .i64) _ 3 ?hg (N := 18) ?hd (xs := ([] : List Int)) (inner := []) (ok := fun _ => True) (okp := fun _ => True) ?hr ?hp (fun _ hk => hk) trivial (Below.refl _ _) (Nat.le_refl _) (by simp) ?_; (case hd => rfl); (case hg => rfl); (case hr => first | (go_simp; done) | (go_simp; rfl)); (case hp => exact (Reps.none _ _)); intro v160 w59 ho60 hb hg_ hnew_; clear hg_ hnew_; (first | rw [← Ny159.out] at ho60 | (simp only [Int.reduceToNat] at ho60; rw [← Ny159.out] at ho60)); have n0_ := Aside0.mk (Kd.R_lower ho60 (below_size (uB HB.out))); have n1_ := Aside0.mk (below_step (uB HB.out) hb); clear HB; have HO161 := n0_; have HB := n1_; clear n0_ n1_; clear hb ho60) | (go_at_call 40; (with_reducible refine (spec_DealOk.calls k _ _ l0 _ _ l1 a2 false _ ?side1 ?side2 ?side3 ?side4 A4.out).mono ?_); (case side1 => repeat (first | exact (Kd.C_below HR0.out HB.out) | (with_reducible refine Kd.C_alloc ?_ _) | (with_reducible refine Kd.C_drewN ?_ _) | (with_reducible refine Kd.C_drew ?_))); (case side2 => exact HC0.out); (case side3 => repeat (first | exact (Kd.C_below HR1.out HB.out) | (with_reducible refine Kd.C_alloc ?_ _) | (with_reducible refine Kd.C_drewN ?_ _) | (with_reducible refine Kd.C_drew ?_))); (case side4 => exact HC1.out); rintro e w' ⟨rfl, ⟨nd, rfl⟩⟩; (try first | exact ⟨rfl, _, World.drewN_drewN _ _ _⟩ | exact ⟨rfl, _, Eq.trans (World.drewN_drewN _ _ _) (congrArg (World.drewN _) (Nat.add_assoc _ _ _))⟩))); first | go_quiet (first | (go_at_call 40; (with_reducible refine (spec_DealOk.calls k _ _ l0 _ _ l1 a2 false _ ?side1 ?side2 ?side3 ?side4 A4.out).mono ?_); (case side1 => repeat (first | exact (Kd.C_below HR0.out HB.out) | (with_reducible refine Kd.C_alloc ?_ _) | (with_reducible refine Kd.C_drewN ?_ _) | (with_reducible refine Kd.C_drew ?_))); (case side2 => exact HC0.out); (case side3 => repeat (first | exact (Kd.C_below HR1.out HB.out) | (with_reducible refine Kd.C_alloc ?_ _) | (with_reducible refine Kd.C_drewN ?_ _) | (with_reducible refine Kd.C_drew ?_))); (case side4 => exact HC1.out); rintro e w' ⟨rfl, ⟨nd, rfl⟩⟩; (try first | exact ⟨rfl, _, World.drewN_drewN _ _ _⟩ | exact ⟨rfl, _, Eq.trans (World.drewN_drewN _ _ _) (congrArg (World.drewN _) (Nat.add_assoc _ _ _))⟩))) | have z_ := True.intro | skip)
  (try clear z_)
  go_ret
  exact ⟨_, by first | rfl | (simp [errW_none, errW_some] <;> rfl) | (simp [*, errW_none, errW_some] <;> rfl), by (with_reducible repeat (first | apply Kd.R_alloc | apply Kd.R_drewN | apply Kd.R_drew)); exact HO161.out, by repeat (first | (with_reducible first | exact HB.out | apply below_alloc | apply pw_below_drewN | apply below_drew1) | exact HB.out)⟩

end Go.Proofs.Ytannkhefallkhaa.Q
