-- Written by a session's own program (wip/tools/myprint.py) over the kit's printer, out of the translation. Not trusted: Lean checks it.
import Derived.Test.YtannkhefallkhaaQ0
namespace Go.Proofs.Ytannkhefallkhaa.Q
open Go.RowKit Go.Proofs.YtannkhefallkhaaW.PrintWords Go.Proofs.YtannkhefallkhaaW.PrintLast Go.Proofs.YtannkhefallkhaaW.PrintMore
attribute [local go_sem] max2_int min2_int max_two min_two max_three min_three max_four min_four   -- for this text's walks alone
set_option linter.unusedVariables false
set_option linter.unusedSimpArgs false

/-! ### spec_l11Sorted: function 27 -/
mutual
def spec_l11Sorted.l0 : Nat → List Int → List Int → List Int → Int → Int → Option (List Int)
 | 0, _, _, _, _, _ => none
 | k + 1, x3, x4, x5, x6, x7 => if x6 < (x3.length : Int) then (spec_l11Sorted.j1 k x3 x4 x5 x6 x7 true) else (spec_l11Sorted.j1 k x3 x4 x5 x6 x7 (decide (x7 < (x4.length : Int))))
def spec_l11Sorted.j1 : Nat → List Int → List Int → List Int → Int → Int → Bool → Option (List Int)
 | 0, _, _, _, _, _, _ => none
 | k + 1, x3, x4, x5, x6, x7, x37 => if x37 = true then (if x7 ≥ (x4.length : Int) then (spec_l11Sorted.j2 k x3 x4 x5 x6 x7 true) else (if x6 < (x3.length : Int) then (if 0 ≤ x6 then (if 0 ≤ x7 then (if x7 < (x4.length : Int) then (spec_l11Sorted.j2 k x3 x4 x5 x6 x7 (decide ((rd x3 x6) ≤ (rd x4 x7)))) else (none)) else (none)) else (none)) else (spec_l11Sorted.j2 k x3 x4 x5 x6 x7 false))) else (some x5)
def spec_l11Sorted.j2 : Nat → List Int → List Int → List Int → Int → Int → Bool → Option (List Int)
 | 0, _, _, _, _, _, _ => none
 | k + 1, x3, x4, x5, x6, x7, x58 => if x58 = true then (if 0 ≤ x6 then (if x6 < (x3.length : Int) then (if (x5.length : Int) = 0 then (if x5.length < 17592186044416 then (spec_l11Sorted.l0 k x3 x4 (x5 ++ [rd x3 x6]) (wrap64 (x6 + 1)) x7) else (none)) else (if 0 ≤ (wrap64 ((x5.length : Int) - 1)) then (if (wrap64 ((x5.length : Int) - 1)) < (x5.length : Int) then (if (rd x5 (wrap64 ((x5.length : Int) - 1))) = (rd x3 x6) then (spec_l11Sorted.l0 k x3 x4 x5 (wrap64 (x6 + 1)) x7) else (if x5.length < 17592186044416 then (spec_l11Sorted.l0 k x3 x4 (x5 ++ [rd x3 x6]) (wrap64 (x6 + 1)) x7) else (none))) else (none)) else (none))) else (none)) else (none)) else (if 0 ≤ x7 then (if x7 < (x4.length : Int) then (if (x5.length : Int) = 0 then (if x5.length < 17592186044416 then (spec_l11Sorted.l0 k x3 x4 (x5 ++ [rd x4 x7]) x6 (wrap64 (x7 + 1))) else (none)) else (if 0 ≤ (wrap64 ((x5.length : Int) - 1)) then (if (wrap64 ((x5.length : Int) - 1)) < (x5.length : Int) then (if (rd x5 (wrap64 ((x5.length : Int) - 1))) = (rd x4 x7) then (spec_l11Sorted.l0 k x3 x4 x5 x6 (wrap64 (x7 + 1))) else (if x5.length < 17592186044416 then (spec_l11Sorted.l0 k x3 x4 (x5 ++ [rd x4 x7]) x6 (wrap64 (x7 + 1))) else (none))) else (none)) else (none))) else (none)) else (none))
def spec_l11Sorted.f : Nat → List Int → Option (List Int)
 | 0, _ => none
 | k + 1, l0 => if (l0.length : Int) < 2 then ((some (([] : List Int) : List Int)).bind fun y200 => (if y200.length + l0.length < 17592186044416 then (some (y200 ++ l0)) else (none))) else (if 0 ≤ (wrap64 ((l0.length : Int) / 2)) then (if (wrap64 ((l0.length : Int) / 2)) ≤ (l0.length : Int) then ((spec_l11Sorted.f k (l0.take ((wrap64 ((l0.length : Int) / 2)) : Int).toNat)).bind fun t207 => ((spec_l11Sorted.f k (l0.drop ((wrap64 ((l0.length : Int) / 2)) : Int).toNat)).bind fun t211 => (spec_l11Sorted.l0 k t207 t211 (([] : List Int)) 0 0))) else (none)) else (none))
end
set_option maxHeartbeats 8000000 in
set_option maxRecDepth 100000 in
theorem spec_l11Sorted.calls (k : Nat) : ∀ (A0 : Option Addr) (c0 : Nat) (l0 : List Int) (r : List Int) (w : World) (hr0 : Kd.C (Kd.int .i64) w A0 l0.length l0) (hc0 : l0.length ≤ c0) (h : spec_l11Sorted.f k l0 = some r),
  Calls Try.prog 27 #[.slice A0 l0.length c0] w fun e w' => ∃ v0_ : Value, e = .returned (v0_) ∧ Kd.R (Kd.int .i64) 3 w' w.heap.size (fun _ => True) v0_ r ∧ Below w.heap.size w w' := by
 induction k using Nat.strongRecOn with
 | _ k ih =>
 intro A0 c0 l0 r w hr0 hc0 h
 cases k with
 | zero => exact absurd h (by simp [spec_l11Sorted.f])
 | succ k =>
 simp only [spec_l11Sorted.f] at h
 have HR0 := Aside0.mk hr0
 have HC0 := Aside0.mk hc0
 clear hr0 hc0
 have HB := Aside0.mk (Below.refl w.heap.size w)
 have H : (if (l0.length : Int) < 2 then ((some (([] : List Int) : List Int)).bind fun y200 => (if y200.length + l0.length < 17592186044416 then (some (y200 ++ l0)) else (none))) else (if 0 ≤ (wrap64 ((l0.length : Int) / 2)) then (if (wrap64 ((l0.length : Int) / 2)) ≤ (l0.length : Int) then ((spec_l11Sorted.f k (l0.take ((wrap64 ((l0.length : Int) / 2)) : Int).toNat)).bind fun t207 => ((spec_l11Sorted.f k (l0.drop ((wrap64 ((l0.length : Int) / 2)) : Int).toNat)).bind fun t211 => (spec_l11Sorted.l0 k t207 t211 (([] : List Int)) 0 0))) else (none)) else (none))) = some r := h
 clear h
 by_cases c2 : (l0.length : Int) < 2
 ·rw [if_pos c2] at H
  have c2b0 : decide ((l0.length : Int) < 2) = true := decide_eq_true c2
  have c2b1 : decide (l0.length < 2) = true := decide_eq_true (by omega)
  clear c2
  obtain ⟨y200, hy200⟩ : ∃ y_ : List Int, y_ = (([] : List Int)) := ⟨_, rfl⟩
  replace H : (if y200.length + l0.length < 17592186044416 then (some (y200 ++ l0)) else (none)) = some r := by first | (rw [hy200]; with_reducible exact H) | (have H2_ := (Option.bind_some _ _).symm.trans H; rw [hy200]; with_reducible exact H2_) | (have H2_ := (Option.bind_some _ _).symm.trans H; with_reducible exact H2_) | with_reducible exact H | (rw [hy200]; exact H) | exact H
  have Ny200 := Aside0.mk hy200
  clear hy200
  by_cases c3 : y200.length + l0.length < 17592186044416
  ·rw [if_pos c3] at H
   have LMc3 := Aside0.mk c3
   clear c3
   obtain ⟨y203, hy203⟩ : ∃ y_ : List Int, y_ = (y200 ++ l0) := ⟨_, rfl⟩
   replace H : (some y203) = some r := by first | (rw [hy203]; with_reducible exact H) | (have H2_ := (Option.bind_some _ _).symm.trans H; rw [hy203]; with_reducible exact H2_) | (have H2_ := (Option.bind_some _ _).symm.trans H; with_reducible exact H2_) | with_reducible exact H | (rw [hy203]; exact H) | exact H
   have Ny203 := Aside0.mk hy203
   clear hy203
   obtain rfl := Option.some.inj H
   go_enter Try.func27, Try.ntmps27
   repeat ((fail_if_success (first | clear z_ | done)); go_wp2_with (first | ((with_reducible refine gate_dst (N := 12) rfl ?_); (try (refine gate_guard (by rfl) ?_; dsimp only)); refine Kd.R_lit (Kd.int .i64) _ 3 ?hg (N := 12) ?hd (xs := ([] : List Int)) (inner := []) (ok := fun _ => True) (okp := fun _ => True) ?hr ?hp (fun _ hk => hk) trivial (Below.refl _ _) (Nat.le_refl _) (by simp) ?_; (case hd => rfl); (case hg => rfl); (case hr => first | (go_simp; done) | (go_simp; rfl)); (case hp => exact (Reps.none _ _)); intro v201 w4 ho5 hb hg_ hnew_; clear hg_ hnew_; (first | rw [← Ny200.out] at ho5 | (simp only [Int.reduceToNat] at ho5; rw [← Ny200.out] at ho5)); have n0_ := Aside0.mk (Kd.R_lower ho5 (below_size (uB HB.out))); have n1_ := Aside0.mk (below_step (uB HB.out) hb); clear HB; have HO202 := n0_; have HB := n1_; clear n0_ n1_; clear hb ho5) | ((with_reducible refine gate_builtin (b := .append) (xs := #[.tmp 12, .tmp 13]) rfl ?_); (try (refine gate_guard (by rfl) ?_; dsimp only)); at_builtin; refine Kd.R_append_rows (Kd.int .i64) (w0 := w) w.heap.size rfl (.tmp 12) (.tmp 13) 24 3 (.int .i64 0) 8 rfl Try.underlying24 info3 rfl (by decide) (by omega) v201 y200 l0 _ _ _ (fun _ => True) (fun _ => False) rfl rfl ?aO ?aR (fun _ _ h => h) (fun _ h => h.elim) ?aF ?aB ?aS ?aL ?_; (case aR => repeat (first | exact (Kd.C_below HR0.out HB.out) | (with_reducible refine Kd.C_alloc ?_ _) | (with_reducible refine Kd.C_drewN ?_ _) | (with_reducible refine Kd.C_drew ?_))); (case aB => exact (uB HB.out)); (case aF => exact (fun _ _ => trivial)); (case aO => exact (uR HO202.out)); (case aS => exact (below_size (uB HB.out))); (case aL => have := LMc3.out; omega); intro v204 w6 ho hb hg hat; rw [← Ny203.out] at ho; have n0_ := Aside0.mk (hb); have n1_ := Aside0.mk (ho); clear HB; clear HO202; have HB := n0_; have HO205 := n1_; clear n0_ n1_; clear ho hb hg hat)); first | go_quiet (fail) | have z_ := True.intro | skip)
   (try clear z_)
   go_ret
   exact ⟨_, by first | rfl | (simp [errW_none, errW_some] <;> rfl) | (simp [*, errW_none, errW_some] <;> rfl), by (with_reducible repeat (first | apply Kd.R_alloc | apply Kd.R_drewN | apply Kd.R_drew)); exact HO205.out, by repeat (first | (with_reducible first | exact HB.out | apply below_alloc | apply pw_below_drewN | apply below_drew1) | exact HB.out)⟩
  ·rw [if_neg c3] at H
   exact absurd H (by simp)
 ·rw [if_neg c2] at H
  have c2b0 : decide ((l0.length : Int) < 2) = false := decide_eq_false c2
  have c2b1 : decide (l0.length < 2) = false := decide_eq_false (by omega)
  clear c2
  obtain ⟨ji7, hji7⟩ : ∃ j_ : Int, (wrap64 ((l0.length : Int) / 2)) = j_ := ⟨_, rfl⟩
  replace H : (if 0 ≤ (ji7) then (if (ji7) ≤ (l0.length : Int) then ((spec_l11Sorted.f k (l0.take ((ji7) : Int).toNat)).bind fun t207 => ((spec_l11Sorted.f k (l0.drop ((ji7) : Int).toNat)).bind fun t211 => (spec_l11Sorted.l0 k t207 t211 (([] : List Int)) 0 0))) else (none)) else (none)) = some r := by first | (rw [hji7] at H; exact H) | (simp only [hji7] at H ⊢; exact H)
  have hji7w : (IntKind.i64.wrap ((l0.length : Int) / 2)) = ji7 := (i64_w _).trans hji7
  by_cases c8 : 0 ≤ (ji7)
  ·rw [if_pos c8] at H
   have c8b0 := eq_true c8
   have c8b1 : decide (0 ≤ (ji7)) = true := decide_eq_true c8
   clear c8
   by_cases c9 : (ji7) ≤ (l0.length : Int)
   ·rw [if_pos c9] at H
    have c9b0 := eq_true c9
    have c9b1 : decide ((ji7) ≤ (l0.length : Int)) = true := decide_eq_true c9
    clear c9
    replace H := Option.bind_eq_some_iff.mp H
    obtain ⟨t207, A100, H⟩ := H
    replace H : ((spec_l11Sorted.f k (l0.drop ((ji7) : Int).toNat)).bind fun t211 => (spec_l11Sorted.l0 k t207 t211 (([] : List Int)) 0 0)) = some r := H
    have A10 := Aside0.mk A100
    clear A100
    have c11b0 := eq_true (of_decide_eq_true (by first | (with_reducible assumption) | assumption) : 0 ≤ (ji7))
    have c12b0 := eq_true (of_decide_eq_true (by first | (with_reducible assumption) | assumption) : (ji7) ≤ (l0.length : Int))
    replace H := Option.bind_eq_some_iff.mp H
    obtain ⟨t211, A130, H⟩ := H
    replace H : (spec_l11Sorted.l0 k t207 t211 (([] : List Int)) 0 0) = some r := H
    have A13 := Aside0.mk A130
    clear A130
    obtain ⟨y214, hy214⟩ : ∃ y_ : List Int, y_ = (([] : List Int)) := ⟨_, rfl⟩
    replace H : (spec_l11Sorted.l0 k t207 t211 y214 0 0) = some r := by first | (rw [hy214]; with_reducible exact H) | (have H2_ := (Option.bind_some _ _).symm.trans H; rw [hy214]; with_reducible exact H2_) | (have H2_ := (Option.bind_some _ _).symm.trans H; with_reducible exact H2_) | with_reducible exact H | (rw [hy214]; exact H) | exact H
    have Ny214 := Aside0.mk hy214
    clear hy214
    have H' := Aside0.mk H
    clear H
    obtain ⟨i014, hi014, _, hsz14, _⟩ := info_parts info3
    obtain ⟨hcut14, hA14, hC14⟩ := print_take_of (P := Try.prog) (Value.int .i64) 0 24 3 .i64 Try.underlying24 hi014 hsz14 A0 c0 l0 (ji7) (of_decide_eq_true (by first | (with_reducible assumption) | assumption)) (of_decide_eq_true (by first | (with_reducible assumption) | assumption)) HC0.out
    have HR206 := Aside0.mk (Kd.C_of_reads (h1 := fun _ => rfl) (hA14 _ (Kd.reads_of_C HR0.out)))
    have HC206 := Aside0.mk hC14
    clear hA14 hC14 hi014 hsz14
    go_enter Try.func27, Try.ntmps27
    repeat ((fail_if_success (first | clear z_ | done)); go_wp2_with (first | (go_at_call 27; refine calls_of_args (args' := #[.slice _ (l0.take ((ji7) : Int).toNat).length _]) (by have h1_ := of_eq_true c11b0; have h2_ := of_eq_true c12b0; rw [List.length_take, Nat.min_eq_left (by omega)]) ?_; (with_reducible refine (ih k (by omega) _ _ (l0.take ((ji7) : Int).toNat) t207 _ ?side1 ?side2 A10.out).mono ?_); (case side1 => exact uC HR206.out); (case side2 => exact HC206.out); rintro e w15 ⟨v208, rfl, ho0, hb⟩; have n0_ := Aside0.mk (Kd.R_lower ho0 (below_size (uB HB.out))); have n1_ := Aside0.mk (below_step (uB HB.out) hb); clear HB; have HO209 := n0_; have HB := n1_; clear n0_ n1_; (try clear hb); (try clear hb2); (try clear hk); (try clear hi); (try clear ho0); obtain ⟨i016, hi016, _, hsz16, _⟩ := info_parts info3; obtain ⟨A16, hcut16, hA16, hC16⟩ := print_drop_of (P := Try.prog) (Value.int .i64) 0 24 3 .i64 Try.underlying24 hi016 hsz16 A0 c0 l0 (ji7) (of_decide_eq_true (by first | (with_reducible assumption) | assumption)) (of_decide_eq_true (by first | (with_reducible assumption) | assumption)) HC0.out; have HR210 := Aside0.mk (Kd.C_of_reads (h1 := fun _ => rfl) (hA16 _ (Kd.reads_of_C HR0.out))); have HC210 := Aside0.mk hC16; clear hA16 hC16 hi016 hsz16) | (go_at_call 27; refine calls_of_args (args' := #[.slice _ (l0.drop ((ji7) : Int).toNat).length _]) (by have h1_ := of_eq_true c11b0; have h2_ := of_eq_true c12b0; rw [List.length_drop]) ?_; (with_reducible refine (ih k (by omega) _ _ (l0.drop ((ji7) : Int).toNat) t211 _ ?side1 ?side2 A13.out).mono ?_); (case side1 => repeat (first | exact (Kd.C_below HR210.out HB.out) | (with_reducible refine Kd.C_alloc ?_ _) | (with_reducible refine Kd.C_drewN ?_ _) | (with_reducible refine Kd.C_drew ?_))); (case side2 => exact HC210.out); rintro e w17 ⟨v212, rfl, ho0, hb⟩; have n0_ := Aside0.mk (Kd.R_elder' (uR HO209.out) (Kd.R_base ho0) hb); have n1_ := Aside0.mk (Kd.R_lower (Kd.R_new' ho0 (Kd.R_lt (uR HO209.out))) (below_size (uB HB.out))); have n2_ := Aside0.mk (below_step (uB HB.out) hb); clear HO209; clear HB; have HO209 := n0_; have HO213 := n1_; have HB := n2_; clear n0_ n1_ n2_; (try clear hb); (try clear hb2); (try clear hk); (try clear hi); (try clear ho0)) | ((with_reducible refine gate_dst (N := 27) rfl ?_); (try (refine gate_guard (by rfl) ?_; dsimp only)); refine Kd.R_lit (Kd.int .i64) _ 3 ?hg (N := 27) ?hd (xs := ([] : List Int)) (inner := []) (ok := fun _ => True) (okp := fun _ => True) ?hr ?hp (fun _ hk => hk) trivial (Below.refl _ _) (Nat.le_refl _) (by simp) ?_; (case hd => rfl); (case hg => rfl); (case hr => first | (go_simp; done) | (go_simp; rfl)); (case hp => exact (Reps.none _ _)); intro v215 w18 ho19 hb hg_ hnew_; clear hg_ hnew_; (first | rw [← Ny214.out] at ho19 | (simp only [Int.reduceToNat] at ho19; rw [← Ny214.out] at ho19)); have n0_ := Aside0.mk (Kd.R_elder' (uR HO209.out) (Kd.R_base ho19) hb); have n1_ := Aside0.mk (Kd.R_elder' (uR HO213.out) (Kd.R_base ho19) hb); have n2_ := Aside0.mk (Kd.R_lower (Kd.R_new' (Kd.R_new' ho19 (Kd.R_lt (uR HO209.out))) (Kd.R_lt (uR HO213.out))) (below_size (uB HB.out))); have n3_ := Aside0.mk (below_step (uB HB.out) hb); clear HO209; clear HO213; clear HB; have HO209 := n0_; have HO213 := n1_; have HO216 := n2_; have HB := n3_; clear n0_ n1_ n2_ n3_; clear hb ho19)); first | go_quiet (first | (go_at_call 27; refine calls_of_args (args' := #[.slice _ (l0.take ((ji7) : Int).toNat).length _]) (by have h1_ := of_eq_true c11b0; have h2_ := of_eq_true c12b0; rw [List.length_take, Nat.min_eq_left (by omega)]) ?_; (with_reducible refine (ih k (by omega) _ _ (l0.take ((ji7) : Int).toNat) t207 _ ?side1 ?side2 A10.out).mono ?_); (case side1 => exact uC HR206.out); (case side2 => exact HC206.out); rintro e w15 ⟨v208, rfl, ho0, hb⟩; have n0_ := Aside0.mk (Kd.R_lower ho0 (below_size (uB HB.out))); have n1_ := Aside0.mk (below_step (uB HB.out) hb); clear HB; have HO209 := n0_; have HB := n1_; clear n0_ n1_; (try clear hb); (try clear hb2); (try clear hk); (try clear hi); (try clear ho0); obtain ⟨i016, hi016, _, hsz16, _⟩ := info_parts info3; obtain ⟨A16, hcut16, hA16, hC16⟩ := print_drop_of (P := Try.prog) (Value.int .i64) 0 24 3 .i64 Try.underlying24 hi016 hsz16 A0 c0 l0 (ji7) (of_decide_eq_true (by first | (with_reducible assumption) | assumption)) (of_decide_eq_true (by first | (with_reducible assumption) | assumption)) HC0.out; have HR210 := Aside0.mk (Kd.C_of_reads (h1 := fun _ => rfl) (hA16 _ (Kd.reads_of_C HR0.out))); have HC210 := Aside0.mk hC16; clear hA16 hC16 hi016 hsz16) | (go_at_call 27; refine calls_of_args (args' := #[.slice _ (l0.drop ((ji7) : Int).toNat).length _]) (by have h1_ := of_eq_true c11b0; have h2_ := of_eq_true c12b0; rw [List.length_drop]) ?_; (with_reducible refine (ih k (by omega) _ _ (l0.drop ((ji7) : Int).toNat) t211 _ ?side1 ?side2 A13.out).mono ?_); (case side1 => repeat (first | exact (Kd.C_below HR210.out HB.out) | (with_reducible refine Kd.C_alloc ?_ _) | (with_reducible refine Kd.C_drewN ?_ _) | (with_reducible refine Kd.C_drew ?_))); (case side2 => exact HC210.out); rintro e w17 ⟨v212, rfl, ho0, hb⟩; have n0_ := Aside0.mk (Kd.R_elder' (uR HO209.out) (Kd.R_base ho0) hb); have n1_ := Aside0.mk (Kd.R_lower (Kd.R_new' ho0 (Kd.R_lt (uR HO209.out))) (below_size (uB HB.out))); have n2_ := Aside0.mk (below_step (uB HB.out) hb); clear HO209; clear HB; have HO209 := n0_; have HO213 := n1_; have HB := n2_; clear n0_ n1_ n2_; (try clear hb); (try clear hb2); (try clear hk); (try clear hi); (try clear ho0))) | have z_ := True.intro | skip)
    (try clear z_)
    go_loopg [5, 6, 7] k (fun kq v5 v6 v7 w' => ∃ (x5_1 : List Int) (x6_1 : Int) (x7_1 : Int), v6 = .int .i64 x6_1 ∧ v7 = .int .i64 x7_1 ∧ Aside0 (spec_l11Sorted.l0 kq t207 t211 x5_1 x6_1 x7_1 = some r) ∧ Aside0 (kq ≤ k) ∧ Aside0 (Kd.R (Kd.int .i64) 3 w' w.heap.size (fun k_ => some k_ ≠ (v212 : Value).ownBlock ∧ some k_ ≠ (v5 : Value).ownBlock) v208 t207) ∧ Aside0 (Kd.R (Kd.int .i64) 3 w' w.heap.size (fun k_ => some k_ ≠ (v208 : Value).ownBlock ∧ some k_ ≠ (v5 : Value).ownBlock) v212 t211) ∧ Aside0 (Kd.R (Kd.int .i64) 3 w' w.heap.size (fun k_ => some k_ ≠ (v208 : Value).ownBlock ∧ some k_ ≠ (v212 : Value).ownBlock) v5 x5_1) ∧ Aside0 (Below w.heap.size w w'))
    case atStart => exact ⟨(y214), (0), (0), (by first | rfl | (simp; done) | (simp [*]; done)), (by first | rfl | (simp; done) | (simp [*]; done)), H', ⟨Nat.le_refl _⟩, ⟨by (with_reducible repeat (first | apply Kd.R_alloc | apply Kd.R_drewN | apply Kd.R_drew)); exact Kd.R_mono HO209.out (fun _ hk => ⟨hk.1.2, hk.2⟩)⟩, ⟨by (with_reducible repeat (first | apply Kd.R_alloc | apply Kd.R_drewN | apply Kd.R_drew)); exact Kd.R_mono HO213.out (fun _ hk => ⟨hk.1.2, hk.2⟩)⟩, ⟨by (with_reducible repeat (first | apply Kd.R_alloc | apply Kd.R_drewN | apply Kd.R_drew)); exact Kd.R_mono HO216.out (fun _ hk => ⟨hk.1.2, hk.2⟩)⟩, ⟨by repeat (first | (with_reducible first | exact HB.out | apply below_alloc | apply pw_below_drewN | apply below_drew1) | exact HB.out)⟩⟩
    case round =>
     clear H'
     try clear c1
     try clear c2
     try clear c2b0
     try clear c2b1
     try clear p2
     try clear c3
     try clear p6
     try clear c8
     try clear c8b0
     try clear c8b1
     try clear c9
     try clear c9b0
     try clear c9b1
     try clear c11
     try clear c11b0
     try clear c12
     try clear c12b0
     obtain ⟨x5_1, x6_1, x7_1, rfl, rfl, HA, HK1, HO_3, HO_4, HO_5, HB⟩ := hrel
     cases gk with
     | zero => exact absurd HA.out (by simp [spec_l11Sorted.l0])
     | succ k1 =>
      have H := HA.out
      clear HA
      simp only [spec_l11Sorted.l0] at H
      have HC20 := Aside0.mk H
      clear H
      go_upto_region 8 with (fail)
      repeat (go_quiet (fail); go_upto_region 8 with (fail))
      go_cut [37] (fun v37 wc => ∃ (kq : Nat) (x37_19 : Bool), v37 = .bool x37_19 ∧ Aside0 (spec_l11Sorted.j1 kq t207 t211 x5_1 x6_1 x7_1 x37_19 = some r) ∧ Aside0 (kq ≤ k1) ∧ Aside0 (Kd.R (Kd.int .i64) 3 wc w.heap.size (fun k_ => some k_ ≠ (v212 : Value).ownBlock ∧ some k_ ≠ (u5 : Value).ownBlock) v208 t207) ∧ Aside0 (Kd.R (Kd.int .i64) 3 wc w.heap.size (fun k_ => some k_ ≠ (v208 : Value).ownBlock ∧ some k_ ≠ (u5 : Value).ownBlock) v212 t211) ∧ Aside0 (Kd.R (Kd.int .i64) 3 wc w.heap.size (fun k_ => some k_ ≠ (v208 : Value).ownBlock ∧ some k_ ≠ (v212 : Value).ownBlock) u5 x5_1) ∧ Aside0 (Below w.heap.size w wc))
      case first =>
       have H := HC20.out
       clear HC20
       by_cases c21 : x6_1 < (t207.length : Int)
       ·rw [if_pos c21] at H
        have c21b0 : decide (x6_1 < (t207.length : Int)) = true := decide_eq_true c21
        clear c21
        (first | rw [c21b0] | (simp only [i64_w, i32_w]; rw [c21b0]) | skip)
        have H' := Aside0.mk H
        clear H
        obtain ⟨Ao22, co22, eo22⟩ := Kd.R_slice HO_3.out
        subst eo22
        go_wp2
        repeat (go_quiet (fail); try go_wp2)
        go_meet
        case rel => exact ⟨_, (true), (by first | rfl | (simp; done) | (simp [*]; done)), H', ⟨by have := HK1.out; first | omega | exact Nat.le_refl _⟩, ⟨by (with_reducible repeat (first | apply Kd.R_alloc | apply Kd.R_drewN | apply Kd.R_drew)); exact HO_3.out⟩, ⟨by (with_reducible repeat (first | apply Kd.R_alloc | apply Kd.R_drewN | apply Kd.R_drew)); exact HO_4.out⟩, ⟨by (with_reducible repeat (first | apply Kd.R_alloc | apply Kd.R_drewN | apply Kd.R_drew)); exact HO_5.out⟩, ⟨by repeat (first | (with_reducible first | exact HB.out | apply below_alloc | apply pw_below_drewN | apply below_drew1) | exact HB.out)⟩⟩
       ·rw [if_neg c21] at H
        have c21b0 : decide (x6_1 < (t207.length : Int)) = false := decide_eq_false c21
        clear c21
        (first | rw [c21b0] | (simp only [i64_w, i32_w]; rw [c21b0]) | skip)
        have H' := Aside0.mk H
        clear H
        obtain ⟨Ao23, co23, eo23⟩ := Kd.R_slice HO_3.out
        subst eo23
        obtain ⟨Ao24, co24, eo24⟩ := Kd.R_slice HO_4.out
        subst eo24
        go_wp2
        repeat (go_quiet (fail); try go_wp2)
        go_meet
        case rel => exact ⟨_, (decide (x7_1 < (t211.length : Int))), (by first | rfl | (simp; done) | (simp [*]; done)), H', ⟨by have := HK1.out; first | omega | exact Nat.le_refl _⟩, ⟨by (with_reducible repeat (first | apply Kd.R_alloc | apply Kd.R_drewN | apply Kd.R_drew)); exact HO_3.out⟩, ⟨by (with_reducible repeat (first | apply Kd.R_alloc | apply Kd.R_drewN | apply Kd.R_drew)); exact HO_4.out⟩, ⟨by (with_reducible repeat (first | apply Kd.R_alloc | apply Kd.R_drewN | apply Kd.R_drew)); exact HO_5.out⟩, ⟨by repeat (first | (with_reducible first | exact HB.out | apply below_alloc | apply pw_below_drewN | apply below_drew1) | exact HB.out)⟩⟩
      case rest =>
       clear HC20
       try clear c1
       try clear c2
       try clear c2b0
       try clear c2b1
       try clear p2
       try clear c3
       try clear p6
       try clear c8
       try clear c8b0
       try clear c8b1
       try clear c9
       try clear c9b0
       try clear c9b1
       try clear c11
       try clear c11b0
       try clear c12
       try clear c12b0
       try clear c21
       try clear c21b0
       try clear p2
       try clear p6
       obtain ⟨kq, x37_19, rfl, HA, HJ19, HO_3, HO_4, HO_5, HB⟩ := hcut
       cases kq with
       | zero => exact absurd HA.out (by simp [spec_l11Sorted.j1])
       | succ kj19 =>
        have H := HA.out
        clear HA
        simp only [spec_l11Sorted.j1] at H
        by_cases c25 : x37_19 = true
        ·subst c25
         have H1 : (if x7_1 ≥ (t211.length : Int) then (spec_l11Sorted.j2 kj19 t207 t211 x5_1 x6_1 x7_1 true) else (if x6_1 < (t207.length : Int) then (if 0 ≤ x6_1 then (if 0 ≤ x7_1 then (if x7_1 < (t211.length : Int) then (spec_l11Sorted.j2 kj19 t207 t211 x5_1 x6_1 x7_1 (decide ((rd t207 x6_1) ≤ (rd t211 x7_1)))) else (none)) else (none)) else (none)) else (spec_l11Sorted.j2 kj19 t207 t211 x5_1 x6_1 x7_1 false))) = some r := by rw [if_pos rfl] at H; exact H
         clear H
         have H := H1
         clear H1
         have HC26 := Aside0.mk H
         clear H
         go_upto_region 10 with (fail)
         repeat (go_quiet (fail); go_upto_region 10 with (fail))
         go_cut [58] (fun v58 wc => ∃ (kq : Nat) (x58_25 : Bool), v58 = .bool x58_25 ∧ Aside0 (spec_l11Sorted.j2 kq t207 t211 x5_1 x6_1 x7_1 x58_25 = some r) ∧ Aside0 (kq ≤ kj19) ∧ Aside0 (Kd.R (Kd.int .i64) 3 wc w.heap.size (fun k_ => some k_ ≠ (v212 : Value).ownBlock ∧ some k_ ≠ (u5 : Value).ownBlock) v208 t207) ∧ Aside0 (Kd.R (Kd.int .i64) 3 wc w.heap.size (fun k_ => some k_ ≠ (v208 : Value).ownBlock ∧ some k_ ≠ (u5 : Value).ownBlock) v212 t211) ∧ Aside0 (Kd.R (Kd.int .i64) 3 wc w.heap.size (fun k_ => some k_ ≠ (v208 : Value).ownBlock ∧ some k_ ≠ (v212 : Value).ownBlock) u5 x5_1) ∧ Aside0 (Below w.heap.size w wc))
         case first =>
          have H := HC26.out
          clear HC26
          by_cases c27 : x7_1 ≥ (t211.length : Int)
          ·rw [if_pos c27] at H
           have c27b0 : decide ((t211.length : Int) ≤ x7_1) = true := decide_eq_true c27
           clear c27
           (first | rw [c27b0] | (simp only [i64_w, i32_w]; rw [c27b0]) | skip)
           have H' := Aside0.mk H
           clear H
           obtain ⟨Ao28, co28, eo28⟩ := Kd.R_slice HO_4.out
           subst eo28
           go_wp2
           repeat (go_quiet (fail); try go_wp2)
           go_meet
           case rel => exact ⟨_, (true), (by first | rfl | (simp; done) | (simp [*]; done)), H', ⟨by have := HK1.out; have := HJ19.out; first | omega | exact Nat.le_refl _⟩, ⟨by (with_reducible repeat (first | apply Kd.R_alloc | apply Kd.R_drewN | apply Kd.R_drew)); exact HO_3.out⟩, ⟨by (with_reducible repeat (first | apply Kd.R_alloc | apply Kd.R_drewN | apply Kd.R_drew)); exact HO_4.out⟩, ⟨by (with_reducible repeat (first | apply Kd.R_alloc | apply Kd.R_drewN | apply Kd.R_drew)); exact HO_5.out⟩, ⟨by repeat (first | (with_reducible first | exact HB.out | apply below_alloc | apply pw_below_drewN | apply below_drew1) | exact HB.out)⟩⟩
          ·rw [if_neg c27] at H
           have c27b0 : decide ((t211.length : Int) ≤ x7_1) = false := decide_eq_false c27
           clear c27
           (first | rw [c27b0] | (simp only [i64_w, i32_w]; rw [c27b0]) | skip)
           by_cases c29 : x6_1 < (t207.length : Int)
           ·rw [if_pos c29] at H
            have c29b0 : decide (x6_1 < (t207.length : Int)) = true := decide_eq_true c29
            clear c29
            by_cases c30 : 0 ≤ x6_1
            ·rw [if_pos c30] at H
             have c30b0 : decide (0 ≤ x6_1) = true := decide_eq_true c30
             clear c30
             by_cases c31 : 0 ≤ x7_1
             ·rw [if_pos c31] at H
              have c31b0 : decide (0 ≤ x7_1) = true := decide_eq_true c31
              clear c31
              by_cases c32 : x7_1 < (t211.length : Int)
              ·rw [if_pos c32] at H
               have c32b0 : decide (x7_1 < (t211.length : Int)) = true := decide_eq_true c32
               clear c32
               have H' := Aside0.mk H
               clear H
               obtain ⟨Ao33, co33, eo33⟩ := Kd.R_slice HO_4.out
               subst eo33
               obtain ⟨Ao34, co34, eo34⟩ := Kd.R_slice HO_3.out
               subst eo34
               have p217 : 0 ≤ (x6_1 : Int) := of_decide_eq_true (by first | (with_reducible assumption) | assumption)
               have q217 : x6_1 < (t207.length : Int) := of_decide_eq_true (by first | (with_reducible assumption) | assumption)
               obtain ⟨ad217, e217, hx217_0⟩ := Kd.at_int (Kd.R_reads' HO_3.out).2.2 x6_1 p217 q217
               cases e217
               replace p217 := eq_true p217
               replace q217 := eq_true q217
               have p218 : 0 ≤ (x7_1 : Int) := of_decide_eq_true (by first | (with_reducible assumption) | assumption)
               have q218 : x7_1 < (t211.length : Int) := of_decide_eq_true (by first | (with_reducible assumption) | assumption)
               obtain ⟨ad218, e218, hx218_0⟩ := Kd.at_int (Kd.R_reads' HO_4.out).2.2 x7_1 p218 q218
               cases e218
               replace p218 := eq_true p218
               replace q218 := eq_true q218
               go_wp2
               repeat (go_quiet (fail); try go_wp2)
               go_meet
               case rel => exact ⟨_, (decide ((rd t207 x6_1) ≤ (rd t211 x7_1))), (by first | rfl | (simp; done) | (simp [*]; done)), H', ⟨by have := HK1.out; have := HJ19.out; first | omega | exact Nat.le_refl _⟩, ⟨by (with_reducible repeat (first | apply Kd.R_alloc | apply Kd.R_drewN | apply Kd.R_drew)); exact HO_3.out⟩, ⟨by (with_reducible repeat (first | apply Kd.R_alloc | apply Kd.R_drewN | apply Kd.R_drew)); exact HO_4.out⟩, ⟨by (with_reducible repeat (first | apply Kd.R_alloc | apply Kd.R_drewN | apply Kd.R_drew)); exact HO_5.out⟩, ⟨by repeat (first | (with_reducible first | exact HB.out | apply below_alloc | apply pw_below_drewN | apply below_drew1) | exact HB.out)⟩⟩
              ·rw [if_neg c32] at H
               exact absurd H (by simp)
             ·rw [if_neg c31] at H
              exact absurd H (by simp)
            ·rw [if_neg c30] at H
             exact absurd H (by simp)
           ·rw [if_neg c29] at H
            have c29b0 : decide (x6_1 < (t207.length : Int)) = false := decide_eq_false c29
            clear c29
            have H' := Aside0.mk H
            clear H
            obtain ⟨Ao35, co35, eo35⟩ := Kd.R_slice HO_4.out
            subst eo35
            obtain ⟨Ao36, co36, eo36⟩ := Kd.R_slice HO_3.out
            subst eo36
            go_wp2
            repeat (go_quiet (fail); try go_wp2)
            go_meet
            case rel => exact ⟨_, (false), (by first | rfl | (simp; done) | (simp [*]; done)), H', ⟨by have := HK1.out; have := HJ19.out; first | omega | exact Nat.le_refl _⟩, ⟨by (with_reducible repeat (first | apply Kd.R_alloc | apply Kd.R_drewN | apply Kd.R_drew)); exact HO_3.out⟩, ⟨by (with_reducible repeat (first | apply Kd.R_alloc | apply Kd.R_drewN | apply Kd.R_drew)); exact HO_4.out⟩, ⟨by (with_reducible repeat (first | apply Kd.R_alloc | apply Kd.R_drewN | apply Kd.R_drew)); exact HO_5.out⟩, ⟨by repeat (first | (with_reducible first | exact HB.out | apply below_alloc | apply pw_below_drewN | apply below_drew1) | exact HB.out)⟩⟩
         case rest =>
          clear HC26
          try clear c1
          try clear c2
          try clear c2b0
          try clear c2b1
          try clear p2
          try clear q2
          try clear hx2
          try clear c3
          try clear p6
          try clear c8
          try clear c8b0
          try clear c8b1
          try clear c9
          try clear c9b0
          try clear c9b1
          try clear c11
          try clear c11b0
          try clear c12
          try clear c12b0
          try clear c21
          try clear c21b0
          try clear p21
          try clear q21
          try clear hx21
          try clear c25
          try clear c27
          try clear c27b0
          try clear c29
          try clear c29b0
          try clear c30
          try clear c30b0
          try clear c31
          try clear c31b0
          try clear c32
          try clear c32b0
          try clear hx217_0
          try clear hx218_0
          try clear p2
          try clear p217
          try clear p218
          try clear p6
          try clear q217
          try clear q218
          obtain ⟨kq, x58_25, rfl, HA, HJ25, HO_3, HO_4, HO_5, HB⟩ := hcut
          cases kq with
          | zero => exact absurd HA.out (by simp [spec_l11Sorted.j2])
          | succ kj25 =>
           have H := HA.out
           clear HA
           simp only [spec_l11Sorted.j2] at H
           by_cases c37 : x58_25 = true
           ·subst c37
            have H1 : (if 0 ≤ x6_1 then (if x6_1 < (t207.length : Int) then (if (x5_1.length : Int) = 0 then (if x5_1.length < 17592186044416 then (spec_l11Sorted.l0 kj25 t207 t211 (x5_1 ++ [rd t207 x6_1]) (wrap64 (x6_1 + 1)) x7_1) else (none)) else (if 0 ≤ (wrap64 ((x5_1.length : Int) - 1)) then (if (wrap64 ((x5_1.length : Int) - 1)) < (x5_1.length : Int) then (if (rd x5_1 (wrap64 ((x5_1.length : Int) - 1))) = (rd t207 x6_1) then (spec_l11Sorted.l0 kj25 t207 t211 x5_1 (wrap64 (x6_1 + 1)) x7_1) else (if x5_1.length < 17592186044416 then (spec_l11Sorted.l0 kj25 t207 t211 (x5_1 ++ [rd t207 x6_1]) (wrap64 (x6_1 + 1)) x7_1) else (none))) else (none)) else (none))) else (none)) else (none)) = some r := by rw [if_pos rfl] at H; exact H
            clear H
            have H := H1
            clear H1
            by_cases c38 : 0 ≤ x6_1
            ·rw [if_pos c38] at H
             have c38b0 : decide (0 ≤ x6_1) = true := decide_eq_true c38
             clear c38
             by_cases c39 : x6_1 < (t207.length : Int)
             ·rw [if_pos c39] at H
              have c39b0 : decide (x6_1 < (t207.length : Int)) = true := decide_eq_true c39
              clear c39
              by_cases c40 : (x5_1.length : Int) = 0
              ·rw [if_pos c40] at H
               have c40b0 : ((x5_1.length : Int) == 0) = true := beq_iff_eq.mpr c40
               have c40b1 : ((x5_1.length : Int) != 0) = false := bne_eq_false_iff_eq.mpr c40
               clear c40
               by_cases c41 : x5_1.length < 17592186044416
               ·rw [if_pos c41] at H
                have LMc41 := Aside0.mk c41
                clear c41
                obtain ⟨y220, hy220⟩ : ∃ y_ : List Int, y_ = (x5_1 ++ [rd t207 x6_1]) := ⟨_, rfl⟩
                replace H : (spec_l11Sorted.l0 kj25 t207 t211 y220 (wrap64 (x6_1 + 1)) x7_1) = some r := by first | (rw [hy220]; with_reducible exact H) | (have H2_ := (Option.bind_some _ _).symm.trans H; rw [hy220]; with_reducible exact H2_) | (have H2_ := (Option.bind_some _ _).symm.trans H; with_reducible exact H2_) | with_reducible exact H | (rw [hy220]; exact H) | exact H
                have Ny220 := Aside0.mk hy220
                clear hy220
                have H' := Aside0.mk H
                clear H
                obtain ⟨Ao42, co42, eo42⟩ := Kd.R_slice HO_3.out
                subst eo42
                have p219 : 0 ≤ (x6_1 : Int) := of_decide_eq_true (by first | (with_reducible assumption) | assumption)
                have q219 : x6_1 < (t207.length : Int) := of_decide_eq_true (by first | (with_reducible assumption) | assumption)
                obtain ⟨ad219, e219, hx219_0⟩ := Kd.at_int (Kd.R_reads' HO_3.out).2.2 x6_1 p219 q219
                cases e219
                replace p219 := eq_true p219
                replace q219 := eq_true q219
                obtain ⟨Ao43, co43, eo43⟩ := Kd.R_slice HO_5.out
                subst eo43
                repeat ((fail_if_success (first | clear z_ | done)); go_wp2_with (first | ((with_reducible refine gate_builtin (b := .append) (xs := #[.tmp 84, .tmp 86]) rfl ?_); (try (refine gate_guard (by rfl) ?_; dsimp only)); at_builtin; refine Kd.R_append (Kd.int .i64) (w0 := w) w.heap.size rfl (.tmp 84) (.tmp 86) 24 3 (.int .i64 0) 8 rfl Try.underlying24 info3 rfl (by decide) (by omega) (.slice Ao43 x5_1.length co43) x5_1 (rd t207 x6_1) [.int .i64 (rd t207 x6_1)] (fun k_ => some k_ ≠ (.slice (some ad219) t207.length co42 : Value).ownBlock ∧ some k_ ≠ (v212 : Value).ownBlock) (fun _ => False) rfl rfl ?aP (fun _ hk => hk.elim) ?aF ?aO ?aB ?aS ?aL ?_; (case aP => exact rfl); (case aB => exact (uB HB.out)); (case aF => exact (fun k_ hk => ⟨Kd.fresh' (Kd.R_lt (uR HO_3.out)) k_ hk, Kd.fresh' (Kd.R_lt (uR HO_4.out)) k_ hk⟩)); (case aO => exact (uR HO_5.out)); (case aS => exact (below_size (uB HB.out))); (case aL => have := LMc41.out; omega); intro v221 w44 ho hb hg hat; rw [← Ny220.out] at ho; have n0_ := Aside0.mk (Kd.R_after (ok := (fun k_ => some k_ ≠ (v212 : Value).ownBlock)) (uR HO_3.out) hg hat); have n1_ := Aside0.mk (Kd.R_after (ok := (fun k_ => some k_ ≠ (.slice (some ad219) t207.length co42 : Value).ownBlock)) (uR HO_4.out) hg hat); have n2_ := Aside0.mk (hb); have n3_ := Aside0.mk (ho); clear HO_3; clear HO_4; clear HB; clear HO_5; have HO_3 := n0_; have HO_4 := n1_; have HB := n2_; have HO222 := n3_; clear n0_ n1_ n2_ n3_; clear ho hb hg hat)); first | go_quiet (fail) | have z_ := True.intro | skip)
                (try clear z_)
                go_roundg kj25
                case measure => have := HK1.out; have := HJ19.out; have := HJ25.out; omega
                case rel => exact ⟨(y220), (wrap64 (x6_1 + 1)), (x7_1), (by first | rfl | (simp; done) | (simp [*]; done)), (by first | rfl | (simp; done) | (simp [*]; done)), H', ⟨by have := HK1.out; have := HJ19.out; have := HJ25.out; omega⟩, ⟨by (with_reducible repeat (first | apply Kd.R_alloc | apply Kd.R_drewN | apply Kd.R_drew)); exact HO_3.out⟩, ⟨by (with_reducible repeat (first | apply Kd.R_alloc | apply Kd.R_drewN | apply Kd.R_drew)); exact HO_4.out⟩, ⟨by (with_reducible repeat (first | apply Kd.R_alloc | apply Kd.R_drewN | apply Kd.R_drew)); exact HO222.out⟩, ⟨by repeat (first | (with_reducible first | exact HB.out | apply below_alloc | apply pw_below_drewN | apply below_drew1) | exact HB.out)⟩⟩
               ·rw [if_neg c41] at H
                exact absurd H (by simp)
              ·rw [if_neg c40] at H
               have c40b0 : ((x5_1.length : Int) == 0) = false := beq_eq_false_iff_ne.mpr c40
               have c40b1 : ((x5_1.length : Int) != 0) = true := bne_iff_ne.mpr c40
               have c40b2 : ¬ (x5_1 = []) := fun h_ => c40 (by rw [h_]; rfl)
               obtain ⟨ji45, hji45⟩ : ∃ j_ : Int, (wrap64 ((x5_1.length : Int) - 1)) = j_ := ⟨_, rfl⟩
               replace H : (if 0 ≤ (ji45) then (if (ji45) < (x5_1.length : Int) then (if (rd x5_1 (ji45)) = (rd t207 x6_1) then (spec_l11Sorted.l0 kj25 t207 t211 x5_1 (wrap64 (x6_1 + 1)) x7_1) else (if x5_1.length < 17592186044416 then (spec_l11Sorted.l0 kj25 t207 t211 (x5_1 ++ [rd t207 x6_1]) (wrap64 (x6_1 + 1)) x7_1) else (none))) else (none)) else (none)) = some r := by first | (rw [hji45] at H; exact H) | (simp only [hji45] at H ⊢; exact H)
               have hji45w : (IntKind.i64.wrap ((x5_1.length : Int) - 1)) = ji45 := (i64_w _).trans hji45
               by_cases c46 : 0 ≤ (ji45)
               ·rw [if_pos c46] at H
                have c46b0 : decide (0 ≤ (ji45)) = true := decide_eq_true c46
                clear c46
                by_cases c47 : (ji45) < (x5_1.length : Int)
                ·rw [if_pos c47] at H
                 have c47b0 : decide ((ji45) < (x5_1.length : Int)) = true := decide_eq_true c47
                 clear c47
                 by_cases c48 : (rd x5_1 (ji45)) = (rd t207 x6_1)
                 ·rw [if_pos c48] at H
                  have c48b0 : ((rd x5_1 (ji45)) == (rd t207 x6_1)) = true := beq_iff_eq.mpr c48
                  have c48b1 : ((rd x5_1 (ji45)) != (rd t207 x6_1)) = false := bne_eq_false_iff_eq.mpr c48
                  clear c48
                  have H' := Aside0.mk H
                  clear H
                  obtain ⟨Ao49, co49, eo49⟩ := Kd.R_slice HO_3.out
                  subst eo49
                  have p219 : 0 ≤ (x6_1 : Int) := of_decide_eq_true (by first | (with_reducible assumption) | assumption)
                  have q219 : x6_1 < (t207.length : Int) := of_decide_eq_true (by first | (with_reducible assumption) | assumption)
                  obtain ⟨ad219, e219, hx219_0⟩ := Kd.at_int (Kd.R_reads' HO_3.out).2.2 x6_1 p219 q219
                  cases e219
                  replace p219 := eq_true p219
                  replace q219 := eq_true q219
                  obtain ⟨Ao50, co50, eo50⟩ := Kd.R_slice HO_5.out
                  subst eo50
                  have p223 : 0 ≤ ((ji45) : Int) := of_decide_eq_true (by first | (with_reducible assumption) | assumption)
                  have q223 : (ji45) < (x5_1.length : Int) := of_decide_eq_true (by first | (with_reducible assumption) | assumption)
                  obtain ⟨ad223, e223, hx223_0⟩ := Kd.at_int (Kd.R_reads' HO_5.out).2.2 (ji45) p223 q223
                  cases e223
                  replace p223 := eq_true p223
                  replace q223 := eq_true q223
                  go_wp2
                  repeat (go_quiet (fail); try go_wp2)
                  go_roundg kj25
                  case measure => have := HK1.out; have := HJ19.out; have := HJ25.out; omega
                  case rel => exact ⟨(x5_1), (wrap64 (x6_1 + 1)), (x7_1), (by first | rfl | (simp; done) | (simp [*]; done)), (by first | rfl | (simp; done) | (simp [*]; done)), H', ⟨by have := HK1.out; have := HJ19.out; have := HJ25.out; omega⟩, ⟨by (with_reducible repeat (first | apply Kd.R_alloc | apply Kd.R_drewN | apply Kd.R_drew)); exact HO_3.out⟩, ⟨by (with_reducible repeat (first | apply Kd.R_alloc | apply Kd.R_drewN | apply Kd.R_drew)); exact HO_4.out⟩, ⟨by (with_reducible repeat (first | apply Kd.R_alloc | apply Kd.R_drewN | apply Kd.R_drew)); exact HO_5.out⟩, ⟨by repeat (first | (with_reducible first | exact HB.out | apply below_alloc | apply pw_below_drewN | apply below_drew1) | exact HB.out)⟩⟩
                 ·rw [if_neg c48] at H
                  have c48b0 : ((rd x5_1 (ji45)) == (rd t207 x6_1)) = false := beq_eq_false_iff_ne.mpr c48
                  have c48b1 : ((rd x5_1 (ji45)) != (rd t207 x6_1)) = true := bne_iff_ne.mpr c48
                  by_cases c51 : x5_1.length < 17592186044416
                  ·rw [if_pos c51] at H
                   have LMc51 := Aside0.mk c51
                   clear c51
                   obtain ⟨y224, hy224⟩ : ∃ y_ : List Int, y_ = (x5_1 ++ [rd t207 x6_1]) := ⟨_, rfl⟩
                   replace H : (spec_l11Sorted.l0 kj25 t207 t211 y224 (wrap64 (x6_1 + 1)) x7_1) = some r := by first | (rw [hy224]; with_reducible exact H) | (have H2_ := (Option.bind_some _ _).symm.trans H; rw [hy224]; with_reducible exact H2_) | (have H2_ := (Option.bind_some _ _).symm.trans H; with_reducible exact H2_) | with_reducible exact H | (rw [hy224]; exact H) | exact H
                   have Ny224 := Aside0.mk hy224
                   clear hy224
                   have H' := Aside0.mk H
                   clear H
                   obtain ⟨Ao52, co52, eo52⟩ := Kd.R_slice HO_3.out
                   subst eo52
                   have p219 : 0 ≤ (x6_1 : Int) := of_decide_eq_true (by first | (with_reducible assumption) | assumption)
                   have q219 : x6_1 < (t207.length : Int) := of_decide_eq_true (by first | (with_reducible assumption) | assumption)
                   obtain ⟨ad219, e219, hx219_0⟩ := Kd.at_int (Kd.R_reads' HO_3.out).2.2 x6_1 p219 q219
                   cases e219
                   replace p219 := eq_true p219
                   replace q219 := eq_true q219
                   obtain ⟨Ao53, co53, eo53⟩ := Kd.R_slice HO_5.out
                   subst eo53
                   have p223 : 0 ≤ ((ji45) : Int) := of_decide_eq_true (by first | (with_reducible assumption) | assumption)
                   have q223 : (ji45) < (x5_1.length : Int) := of_decide_eq_true (by first | (with_reducible assumption) | assumption)
                   obtain ⟨ad223, e223, hx223_0⟩ := Kd.at_int (Kd.R_reads' HO_5.out).2.2 (ji45) p223 q223
                   cases e223
                   replace p223 := eq_true p223
                   replace q223 := eq_true q223
                   repeat ((fail_if_success (first | clear z_ | done)); go_wp2_with (first | ((with_reducible refine gate_builtin (b := .append) (xs := #[.tmp 84, .tmp 86]) rfl ?_); (try (refine gate_guard (by rfl) ?_; dsimp only)); at_builtin; refine Kd.R_append (Kd.int .i64) (w0 := w) w.heap.size rfl (.tmp 84) (.tmp 86) 24 3 (.int .i64 0) 8 rfl Try.underlying24 info3 rfl (by decide) (by omega) (.slice (some ad223) x5_1.length co53) x5_1 (rd t207 x6_1) [.int .i64 (rd t207 x6_1)] (fun k_ => some k_ ≠ (.slice (some ad219) t207.length co52 : Value).ownBlock ∧ some k_ ≠ (v212 : Value).ownBlock) (fun _ => False) rfl rfl ?aP (fun _ hk => hk.elim) ?aF ?aO ?aB ?aS ?aL ?_; (case aP => exact rfl); (case aB => exact (uB HB.out)); (case aF => exact (fun k_ hk => ⟨Kd.fresh' (Kd.R_lt (uR HO_3.out)) k_ hk, Kd.fresh' (Kd.R_lt (uR HO_4.out)) k_ hk⟩)); (case aO => exact (uR HO_5.out)); (case aS => exact (below_size (uB HB.out))); (case aL => have := LMc51.out; omega); intro v225 w54 ho hb hg hat; rw [← Ny224.out] at ho; have n0_ := Aside0.mk (Kd.R_after (ok := (fun k_ => some k_ ≠ (v212 : Value).ownBlock)) (uR HO_3.out) hg hat); have n1_ := Aside0.mk (Kd.R_after (ok := (fun k_ => some k_ ≠ (.slice (some ad219) t207.length co52 : Value).ownBlock)) (uR HO_4.out) hg hat); have n2_ := Aside0.mk (hb); have n3_ := Aside0.mk (ho); clear HO_3; clear HO_4; clear HB; clear HO_5; have HO_3 := n0_; have HO_4 := n1_; have HB := n2_; have HO226 := n3_; clear n0_ n1_ n2_ n3_; clear ho hb hg hat)); first | go_quiet (fail) | have z_ := True.intro | skip)
                   (try clear z_)
                   go_roundg kj25
                   case measure => have := HK1.out; have := HJ19.out; have := HJ25.out; omega
                   case rel => exact ⟨(y224), (wrap64 (x6_1 + 1)), (x7_1), (by first | rfl | (simp; done) | (simp [*]; done)), (by first | rfl | (simp; done) | (simp [*]; done)), H', ⟨by have := HK1.out; have := HJ19.out; have := HJ25.out; omega⟩, ⟨by (with_reducible repeat (first | apply Kd.R_alloc | apply Kd.R_drewN | apply Kd.R_drew)); exact HO_3.out⟩, ⟨by (with_reducible repeat (first | apply Kd.R_alloc | apply Kd.R_drewN | apply Kd.R_drew)); exact HO_4.out⟩, ⟨by (with_reducible repeat (first | apply Kd.R_alloc | apply Kd.R_drewN | apply Kd.R_drew)); exact HO226.out⟩, ⟨by repeat (first | (with_reducible first | exact HB.out | apply below_alloc | apply pw_below_drewN | apply below_drew1) | exact HB.out)⟩⟩
                  ·rw [if_neg c51] at H
                   exact absurd H (by simp)
                ·rw [if_neg c47] at H
                 exact absurd H (by simp)
               ·rw [if_neg c46] at H
                exact absurd H (by simp)
             ·rw [if_neg c39] at H
              exact absurd H (by simp)
            ·rw [if_neg c38] at H
             exact absurd H (by simp)
           ·replace c37 := Bool.eq_false_iff.mpr c37
            subst c37
            have H1 : (if 0 ≤ x7_1 then (if x7_1 < (t211.length : Int) then (if (x5_1.length : Int) = 0 then (if x5_1.length < 17592186044416 then (spec_l11Sorted.l0 kj25 t207 t211 (x5_1 ++ [rd t211 x7_1]) x6_1 (wrap64 (x7_1 + 1))) else (none)) else (if 0 ≤ (wrap64 ((x5_1.length : Int) - 1)) then (if (wrap64 ((x5_1.length : Int) - 1)) < (x5_1.length : Int) then (if (rd x5_1 (wrap64 ((x5_1.length : Int) - 1))) = (rd t211 x7_1) then (spec_l11Sorted.l0 kj25 t207 t211 x5_1 x6_1 (wrap64 (x7_1 + 1))) else (if x5_1.length < 17592186044416 then (spec_l11Sorted.l0 kj25 t207 t211 (x5_1 ++ [rd t211 x7_1]) x6_1 (wrap64 (x7_1 + 1))) else (none))) else (none)) else (none))) else (none)) else (none)) = some r := by rw [if_neg (show ¬ (false = true) by decide)] at H; exact H
            clear H
            have H := H1
            clear H1
            by_cases c55 : 0 ≤ x7_1
            ·rw [if_pos c55] at H
             have c55b0 : decide (0 ≤ x7_1) = true := decide_eq_true c55
             clear c55
             by_cases c56 : x7_1 < (t211.length : Int)
             ·rw [if_pos c56] at H
              have c56b0 : decide (x7_1 < (t211.length : Int)) = true := decide_eq_true c56
              clear c56
              by_cases c57 : (x5_1.length : Int) = 0
              ·rw [if_pos c57] at H
               have c57b0 : ((x5_1.length : Int) == 0) = true := beq_iff_eq.mpr c57
               have c57b1 : ((x5_1.length : Int) != 0) = false := bne_eq_false_iff_eq.mpr c57
               clear c57
               by_cases c58 : x5_1.length < 17592186044416
               ·rw [if_pos c58] at H
                have LMc58 := Aside0.mk c58
                clear c58
                obtain ⟨y228, hy228⟩ : ∃ y_ : List Int, y_ = (x5_1 ++ [rd t211 x7_1]) := ⟨_, rfl⟩
                replace H : (spec_l11Sorted.l0 kj25 t207 t211 y228 x6_1 (wrap64 (x7_1 + 1))) = some r := by first | (rw [hy228]; with_reducible exact H) | (have H2_ := (Option.bind_some _ _).symm.trans H; rw [hy228]; with_reducible exact H2_) | (have H2_ := (Option.bind_some _ _).symm.trans H; with_reducible exact H2_) | with_reducible exact H | (rw [hy228]; exact H) | exact H
                have Ny228 := Aside0.mk hy228
                clear hy228
                have H' := Aside0.mk H
                clear H
                obtain ⟨Ao59, co59, eo59⟩ := Kd.R_slice HO_4.out
                subst eo59
                have p227 : 0 ≤ (x7_1 : Int) := of_decide_eq_true (by first | (with_reducible assumption) | assumption)
                have q227 : x7_1 < (t211.length : Int) := of_decide_eq_true (by first | (with_reducible assumption) | assumption)
                obtain ⟨ad227, e227, hx227_0⟩ := Kd.at_int (Kd.R_reads' HO_4.out).2.2 x7_1 p227 q227
                cases e227
                replace p227 := eq_true p227
                replace q227 := eq_true q227
                obtain ⟨Ao60, co60, eo60⟩ := Kd.R_slice HO_5.out
                subst eo60
                repeat ((fail_if_success (first | clear z_ | done)); go_wp2_with (first | ((with_reducible refine gate_builtin (b := .append) (xs := #[.tmp 84, .tmp 86]) rfl ?_); (try (refine gate_guard (by rfl) ?_; dsimp only)); at_builtin; refine Kd.R_append (Kd.int .i64) (w0 := w) w.heap.size rfl (.tmp 84) (.tmp 86) 24 3 (.int .i64 0) 8 rfl Try.underlying24 info3 rfl (by decide) (by omega) (.slice Ao60 x5_1.length co60) x5_1 (rd t211 x7_1) [.int .i64 (rd t211 x7_1)] (fun k_ => some k_ ≠ (v208 : Value).ownBlock ∧ some k_ ≠ (.slice (some ad227) t211.length co59 : Value).ownBlock) (fun _ => False) rfl rfl ?aP (fun _ hk => hk.elim) ?aF ?aO ?aB ?aS ?aL ?_; (case aP => exact rfl); (case aB => exact (uB HB.out)); (case aF => exact (fun k_ hk => ⟨Kd.fresh' (Kd.R_lt (uR HO_3.out)) k_ hk, Kd.fresh' (Kd.R_lt (uR HO_4.out)) k_ hk⟩)); (case aO => exact (uR HO_5.out)); (case aS => exact (below_size (uB HB.out))); (case aL => have := LMc58.out; omega); intro v229 w61 ho hb hg hat; rw [← Ny228.out] at ho; have n0_ := Aside0.mk (Kd.R_after (ok := (fun k_ => some k_ ≠ (.slice (some ad227) t211.length co59 : Value).ownBlock)) (uR HO_3.out) hg hat); have n1_ := Aside0.mk (Kd.R_after (ok := (fun k_ => some k_ ≠ (v208 : Value).ownBlock)) (uR HO_4.out) hg hat); have n2_ := Aside0.mk (hb); have n3_ := Aside0.mk (ho); clear HO_3; clear HO_4; clear HB; clear HO_5; have HO_3 := n0_; have HO_4 := n1_; have HB := n2_; have HO230 := n3_; clear n0_ n1_ n2_ n3_; clear ho hb hg hat)); first | go_quiet (fail) | have z_ := True.intro | skip)
                (try clear z_)
                go_roundg kj25
                case measure => have := HK1.out; have := HJ19.out; have := HJ25.out; omega
                case rel => exact ⟨(y228), (x6_1), (wrap64 (x7_1 + 1)), (by first | rfl | (simp; done) | (simp [*]; done)), (by first | rfl | (simp; done) | (simp [*]; done)), H', ⟨by have := HK1.out; have := HJ19.out; have := HJ25.out; omega⟩, ⟨by (with_reducible repeat (first | apply Kd.R_alloc | apply Kd.R_drewN | apply Kd.R_drew)); exact HO_3.out⟩, ⟨by (with_reducible repeat (first | apply Kd.R_alloc | apply Kd.R_drewN | apply Kd.R_drew)); exact HO_4.out⟩, ⟨by (with_reducible repeat (first | apply Kd.R_alloc | apply Kd.R_drewN | apply Kd.R_drew)); exact HO230.out⟩, ⟨by repeat (first | (with_reducible first | exact HB.out | apply below_alloc | apply pw_below_drewN | apply below_drew1) | exact HB.out)⟩⟩
               ·rw [if_neg c58] at H
                exact absurd H (by simp)
              ·rw [if_neg c57] at H
               have c57b0 : ((x5_1.length : Int) == 0) = false := beq_eq_false_iff_ne.mpr c57
               have c57b1 : ((x5_1.length : Int) != 0) = true := bne_iff_ne.mpr c57
               have c57b2 : ¬ (x5_1 = []) := fun h_ => c57 (by rw [h_]; rfl)
               obtain ⟨ji62, hji62⟩ : ∃ j_ : Int, (wrap64 ((x5_1.length : Int) - 1)) = j_ := ⟨_, rfl⟩
               replace H : (if 0 ≤ (ji62) then (if (ji62) < (x5_1.length : Int) then (if (rd x5_1 (ji62)) = (rd t211 x7_1) then (spec_l11Sorted.l0 kj25 t207 t211 x5_1 x6_1 (wrap64 (x7_1 + 1))) else (if x5_1.length < 17592186044416 then (spec_l11Sorted.l0 kj25 t207 t211 (x5_1 ++ [rd t211 x7_1]) x6_1 (wrap64 (x7_1 + 1))) else (none))) else (none)) else (none)) = some r := by first | (rw [hji62] at H; exact H) | (simp only [hji62] at H ⊢; exact H)
               have hji62w : (IntKind.i64.wrap ((x5_1.length : Int) - 1)) = ji62 := (i64_w _).trans hji62
               by_cases c63 : 0 ≤ (ji62)
               ·rw [if_pos c63] at H
                have c63b0 : decide (0 ≤ (ji62)) = true := decide_eq_true c63
                clear c63
                by_cases c64 : (ji62) < (x5_1.length : Int)
                ·rw [if_pos c64] at H
                 have c64b0 : decide ((ji62) < (x5_1.length : Int)) = true := decide_eq_true c64
                 clear c64
                 by_cases c65 : (rd x5_1 (ji62)) = (rd t211 x7_1)
                 ·rw [if_pos c65] at H
                  have c65b0 : ((rd x5_1 (ji62)) == (rd t211 x7_1)) = true := beq_iff_eq.mpr c65
                  have c65b1 : ((rd x5_1 (ji62)) != (rd t211 x7_1)) = false := bne_eq_false_iff_eq.mpr c65
                  clear c65
                  have H' := Aside0.mk H
                  clear H
                  obtain ⟨Ao66, co66, eo66⟩ := Kd.R_slice HO_4.out
                  subst eo66
                  have p227 : 0 ≤ (x7_1 : Int) := of_decide_eq_true (by first | (with_reducible assumption) | assumption)
                  have q227 : x7_1 < (t211.length : Int) := of_decide_eq_true (by first | (with_reducible assumption) | assumption)
                  obtain ⟨ad227, e227, hx227_0⟩ := Kd.at_int (Kd.R_reads' HO_4.out).2.2 x7_1 p227 q227
                  cases e227
                  replace p227 := eq_true p227
                  replace q227 := eq_true q227
                  obtain ⟨Ao67, co67, eo67⟩ := Kd.R_slice HO_5.out
                  subst eo67
                  have p231 : 0 ≤ ((ji62) : Int) := of_decide_eq_true (by first | (with_reducible assumption) | assumption)
                  have q231 : (ji62) < (x5_1.length : Int) := of_decide_eq_true (by first | (with_reducible assumption) | assumption)
                  obtain ⟨ad231, e231, hx231_0⟩ := Kd.at_int (Kd.R_reads' HO_5.out).2.2 (ji62) p231 q231
                  cases e231
                  replace p231 := eq_true p231
                  replace q231 := eq_true q231
                  go_wp2
                  repeat (go_quiet (fail); try go_wp2)
                  go_roundg kj25
                  case measure => have := HK1.out; have := HJ19.out; have := HJ25.out; omega
                  case rel => exact ⟨(x5_1), (x6_1), (wrap64 (x7_1 + 1)), (by first | rfl | (simp; done) | (simp [*]; done)), (by first | rfl | (simp; done) | (simp [*]; done)), H', ⟨by have := HK1.out; have := HJ19.out; have := HJ25.out; omega⟩, ⟨by (with_reducible repeat (first | apply Kd.R_alloc | apply Kd.R_drewN | apply Kd.R_drew)); exact HO_3.out⟩, ⟨by (with_reducible repeat (first | apply Kd.R_alloc | apply Kd.R_drewN | apply Kd.R_drew)); exact HO_4.out⟩, ⟨by (with_reducible repeat (first | apply Kd.R_alloc | apply Kd.R_drewN | apply Kd.R_drew)); exact HO_5.out⟩, ⟨by repeat (first | (with_reducible first | exact HB.out | apply below_alloc | apply pw_below_drewN | apply below_drew1) | exact HB.out)⟩⟩
                 ·rw [if_neg c65] at H
                  have c65b0 : ((rd x5_1 (ji62)) == (rd t211 x7_1)) = false := beq_eq_false_iff_ne.mpr c65
                  have c65b1 : ((rd x5_1 (ji62)) != (rd t211 x7_1)) = true := bne_iff_ne.mpr c65
                  by_cases c68 : x5_1.length < 17592186044416
                  ·rw [if_pos c68] at H
                   have LMc68 := Aside0.mk c68
                   clear c68
                   obtain ⟨y232, hy232⟩ : ∃ y_ : List Int, y_ = (x5_1 ++ [rd t211 x7_1]) := ⟨_, rfl⟩
                   replace H : (spec_l11Sorted.l0 kj25 t207 t211 y232 x6_1 (wrap64 (x7_1 + 1))) = some r := by first | (rw [hy232]; with_reducible exact H) | (have H2_ := (Option.bind_some _ _).symm.trans H; rw [hy232]; with_reducible exact H2_) | (have H2_ := (Option.bind_some _ _).symm.trans H; with_reducible exact H2_) | with_reducible exact H | (rw [hy232]; exact H) | exact H
                   have Ny232 := Aside0.mk hy232
                   clear hy232
                   have H' := Aside0.mk H
                   clear H
                   obtain ⟨Ao69, co69, eo69⟩ := Kd.R_slice HO_4.out
                   subst eo69
                   have p227 : 0 ≤ (x7_1 : Int) := of_decide_eq_true (by first | (with_reducible assumption) | assumption)
                   have q227 : x7_1 < (t211.length : Int) := of_decide_eq_true (by first | (with_reducible assumption) | assumption)
                   obtain ⟨ad227, e227, hx227_0⟩ := Kd.at_int (Kd.R_reads' HO_4.out).2.2 x7_1 p227 q227
                   cases e227
                   replace p227 := eq_true p227
                   replace q227 := eq_true q227
                   obtain ⟨Ao70, co70, eo70⟩ := Kd.R_slice HO_5.out
                   subst eo70
                   have p231 : 0 ≤ ((ji62) : Int) := of_decide_eq_true (by first | (with_reducible assumption) | assumption)
                   have q231 : (ji62) < (x5_1.length : Int) := of_decide_eq_true (by first | (with_reducible assumption) | assumption)
                   obtain ⟨ad231, e231, hx231_0⟩ := Kd.at_int (Kd.R_reads' HO_5.out).2.2 (ji62) p231 q231
                   cases e231
                   replace p231 := eq_true p231
                   replace q231 := eq_true q231
                   repeat ((fail_if_success (first | clear z_ | done)); go_wp2_with (first | ((with_reducible refine gate_builtin (b := .append) (xs := #[.tmp 84, .tmp 86]) rfl ?_); (try (refine gate_guard (by rfl) ?_; dsimp only)); at_builtin; refine Kd.R_append (Kd.int .i64) (w0 := w) w.heap.size rfl (.tmp 84) (.tmp 86) 24 3 (.int .i64 0) 8 rfl Try.underlying24 info3 rfl (by decide) (by omega) (.slice (some ad231) x5_1.length co70) x5_1 (rd t211 x7_1) [.int .i64 (rd t211 x7_1)] (fun k_ => some k_ ≠ (v208 : Value).ownBlock ∧ some k_ ≠ (.slice (some ad227) t211.length co69 : Value).ownBlock) (fun _ => False) rfl rfl ?aP (fun _ hk => hk.elim) ?aF ?aO ?aB ?aS ?aL ?_; (case aP => exact rfl); (case aB => exact (uB HB.out)); (case aF => exact (fun k_ hk => ⟨Kd.fresh' (Kd.R_lt (uR HO_3.out)) k_ hk, Kd.fresh' (Kd.R_lt (uR HO_4.out)) k_ hk⟩)); (case aO => exact (uR HO_5.out)); (case aS => exact (below_size (uB HB.out))); (case aL => have := LMc68.out; omega); intro v233 w71 ho hb hg hat; rw [← Ny232.out] at ho; have n0_ := Aside0.mk (Kd.R_after (ok := (fun k_ => some k_ ≠ (.slice (some ad227) t211.length co69 : Value).ownBlock)) (uR HO_3.out) hg hat); have n1_ := Aside0.mk (Kd.R_after (ok := (fun k_ => some k_ ≠ (v208 : Value).ownBlock)) (uR HO_4.out) hg hat); have n2_ := Aside0.mk (hb); have n3_ := Aside0.mk (ho); clear HO_3; clear HO_4; clear HB; clear HO_5; have HO_3 := n0_; have HO_4 := n1_; have HB := n2_; have HO234 := n3_; clear n0_ n1_ n2_ n3_; clear ho hb hg hat)); first | go_quiet (fail) | have z_ := True.intro | skip)
                   (try clear z_)
                   go_roundg kj25
                   case measure => have := HK1.out; have := HJ19.out; have := HJ25.out; omega
                   case rel => exact ⟨(y232), (x6_1), (wrap64 (x7_1 + 1)), (by first | rfl | (simp; done) | (simp [*]; done)), (by first | rfl | (simp; done) | (simp [*]; done)), H', ⟨by have := HK1.out; have := HJ19.out; have := HJ25.out; omega⟩, ⟨by (with_reducible repeat (first | apply Kd.R_alloc | apply Kd.R_drewN | apply Kd.R_drew)); exact HO_3.out⟩, ⟨by (with_reducible repeat (first | apply Kd.R_alloc | apply Kd.R_drewN | apply Kd.R_drew)); exact HO_4.out⟩, ⟨by (with_reducible repeat (first | apply Kd.R_alloc | apply Kd.R_drewN | apply Kd.R_drew)); exact HO234.out⟩, ⟨by repeat (first | (with_reducible first | exact HB.out | apply below_alloc | apply pw_below_drewN | apply below_drew1) | exact HB.out)⟩⟩
                  ·rw [if_neg c68] at H
                   exact absurd H (by simp)
                ·rw [if_neg c64] at H
                 exact absurd H (by simp)
               ·rw [if_neg c63] at H
                exact absurd H (by simp)
             ·rw [if_neg c56] at H
              exact absurd H (by simp)
            ·rw [if_neg c55] at H
             exact absurd H (by simp)
        ·replace c25 := Bool.eq_false_iff.mpr c25
         subst c25
         have H1 : (some x5_1) = some r := by rw [if_neg (show ¬ (false = true) by decide)] at H; exact H
         clear H
         have H := H1
         clear H1
         obtain rfl := Option.some.inj H
         go_wp2
         repeat (go_quiet (fail); try go_wp2)
         go_ret
         exact ⟨_, by first | rfl | (simp [errW_none, errW_some] <;> rfl) | (simp only [← hji7]; first | rfl | (simp [errW_none, errW_some] <;> rfl)) | (simp [*, errW_none, errW_some] <;> rfl), by (with_reducible repeat (first | apply Kd.R_alloc | apply Kd.R_drewN | apply Kd.R_drew)); exact Kd.R_mono HO_5.out (fun _ hk => trivial), by repeat (first | (with_reducible first | exact HB.out | apply below_alloc | apply pw_below_drewN | apply below_drew1) | exact HB.out)⟩
   ·rw [if_neg c9] at H
    exact absurd H (by simp)
  ·rw [if_neg c8] at H
   exact absurd H (by simp)

end Go.Proofs.Ytannkhefallkhaa.Q
