-- Written by a session's own program (wip/tools/myprint.py) over the kit's printer, out of the translation. Not trusted: Lean checks it.
import Derived.Test.YtbcljfbpkmlgpaaQ0
import Derived.Test.YtbcljfbpkmlgpaaQ1
import Derived.Test.YtbcljfbpkmlgpaaQ4
import Derived.Test.YtbcljfbpkmlgpaaQ7
namespace Go.Proofs.Ytbcljfbpkmlgpaa.Q
open Go.RowKit Go.Proofs.YtbcljfbpkmlgpaaW.PrintWords Go.Proofs.YtbcljfbpkmlgpaaW.PrintLast Go.Proofs.YtbcljfbpkmlgpaaW.PrintMore
attribute [local go_sem] max2_int min2_int max_two min_two max_three min_three max_four min_four   -- for this text's walks alone
set_option linter.unusedVariables false
set_option linter.unusedSimpArgs false

/-! ### laws_heldWayS: function 31 -/
def laws_heldWayS.l0 : Nat → List (S42) → Int → Int → Option (Int)
 | 0, _, _, _ => none
 | k + 1, x0, x1, x5 => if x5 < (x0.length : Int) then (if 0 ≤ x5 then ((laws_heldIntS.f k ((rd_T42 x0 x5).f0) x1).bind fun t270 => (if t270 < 0 then (some (-1)) else (laws_heldWayS.l0 k x0 t270 (wrap64 (x5 + 1))))) else (none)) else (some x1)
def laws_heldWayS.f (k : Nat) (l0 : List (S42)) (a1 : Int) : Option (Int) := laws_heldWayS.l0 k l0 a1 0
set_option maxHeartbeats 8000000 in
set_option maxRecDepth 100000 in
theorem laws_heldWayS.calls (k : Nat) (A0 : Option Addr) (c0 : Nat) (l0 : List (S42)) (a1 : Int) (r : Int) (w : World) (hr0 : Kd.C k42 w A0 l0.length l0) (hc0 : l0.length ≤ c0) (h : laws_heldWayS.f k l0 a1 = some r) :
  Calls Try.prog 31 #[.slice A0 l0.length c0, .int .i64 a1] w fun e w' => e = .returned (.int .i64 r) ∧ Drawn0 w w' := by
 have HR0 := Aside0.mk hr0
 have HC0 := Aside0.mk hc0
 clear hr0 hc0
 have H : (laws_heldWayS.l0 k l0 a1 0) = some r := h
 clear h
 have H' := Aside0.mk H
 clear H
 go_enter Try.func31, Try.ntmps31
 go_wp2
 go_loopg [1, 5] k (fun kq v1 v5 w' => ∃ (x1_1 : Int) (x5_1 : Int), v1 = .int .i64 x1_1 ∧ v5 = .int .i64 x5_1 ∧ Aside0 (laws_heldWayS.l0 kq l0 x1_1 x5_1 = some r) ∧ Aside0 (kq ≤ k) ∧ Drawn0 w w')
 case atStart => exact ⟨(a1), (0), (by first | rfl | (simp; done) | (simp [*]; done)), (by first | rfl | (simp; done) | (simp [*]; done)), H', ⟨Nat.le_refl _⟩, by repeat (first | exact Drawn0.refl _ | apply Drawn0.step)⟩
 case round =>
  clear H'
  try clear p2
  obtain ⟨x1_1, x5_1, rfl, rfl, HA, HK1, ⟨m1, rfl⟩⟩ := hrel
  cases gk with
  | zero => exact absurd HA.out (by simp [laws_heldWayS.l0])
  | succ k1 =>
   have H := HA.out
   clear HA
   simp only [laws_heldWayS.l0] at H
   by_cases c3 : x5_1 < (l0.length : Int)
   ·rw [if_pos c3] at H
    have c3b0 : decide (x5_1 < (l0.length : Int)) = true := decide_eq_true c3
    clear c3
    by_cases c4 : 0 ≤ x5_1
    ·rw [if_pos c4] at H
     have c4b0 : decide (0 ≤ x5_1) = true := decide_eq_true c4
     clear c4
     replace H := Option.bind_eq_some_iff.mp H
     obtain ⟨t270, A50, H⟩ := H
     replace H : (if t270 < 0 then (some (-1)) else (laws_heldWayS.l0 k1 l0 t270 (wrap64 (x5_1 + 1)))) = some r := H
     have A5 := Aside0.mk A50
     clear A50
     by_cases c6 : t270 < 0
     ·rw [if_pos c6] at H
      have c6b0 : decide (t270 < 0) = true := decide_eq_true c6
      clear c6
      obtain rfl := Option.some.inj H
      have p269 : 0 ≤ (x5_1 : Int) := of_decide_eq_true (by first | (with_reducible assumption) | assumption)
      have q269 : x5_1 < (l0.length : Int) := of_decide_eq_true (by first | (with_reducible assumption) | assumption)
      obtain ⟨ad269, A269_0, c269_0, e269, hx269_0, hl269_0, hi269_0⟩ := at_T42 HR0.out x5_1 p269 q269
      cases e269
      have HR269_0 := Aside0.mk hi269_0
      have HC269_0 := Aside0.mk hl269_0
      clear hi269_0 hl269_0
      replace p269 := eq_true p269
      replace q269 := eq_true q269
      go_wp2_with (first | ((with_reducible refine gate_callee (f := 36) rfl ?_); refine goesL_ (some 18) rfl rfl Try.func36 (by kernel_rfl) rfl #[.slice A269_0 ((rd_T42 l0 x5_1).f0).length c269_0, .int .i64 x1_1] rfl (by (try simp only [List.map_toArray, List.map_cons, List.map_nil]); first | done | rfl | (simp only [List.length_drop, List.length_take]; rfl)) ?_; (with_reducible refine (laws_heldIntS.calls k1 _ _ ((rd_T42 l0 x5_1).f0) x1_1 t270 _ ?side1 ?side2 A5.out).mono ?_); (case side1 => exact uC HR269_0.out); (case side2 => exact HC269_0.out); rintro e w' ⟨rfl, ⟨nd, rfl⟩⟩; refine ⟨_, rfl, ?_⟩))
      go_ret
      exact ⟨by first | rfl | (simp; done) | (simp [*]; done), by repeat (first | exact Drawn0.refl _ | apply Drawn0.step)⟩
     ·rw [if_neg c6] at H
      have c6b0 : decide (t270 < 0) = false := decide_eq_false c6
      clear c6
      have H' := Aside0.mk H
      clear H
      have p269 : 0 ≤ (x5_1 : Int) := of_decide_eq_true (by first | (with_reducible assumption) | assumption)
      have q269 : x5_1 < (l0.length : Int) := of_decide_eq_true (by first | (with_reducible assumption) | assumption)
      obtain ⟨ad269, A269_0, c269_0, e269, hx269_0, hl269_0, hi269_0⟩ := at_T42 HR0.out x5_1 p269 q269
      cases e269
      have HR269_0 := Aside0.mk hi269_0
      have HC269_0 := Aside0.mk hl269_0
      clear hi269_0 hl269_0
      replace p269 := eq_true p269
      replace q269 := eq_true q269
      go_wp2_with (first | ((with_reducible refine gate_callee (f := 36) rfl ?_); refine goesL_ (some 18) rfl rfl Try.func36 (by kernel_rfl) rfl #[.slice A269_0 ((rd_T42 l0 x5_1).f0).length c269_0, .int .i64 x1_1] rfl (by (try simp only [List.map_toArray, List.map_cons, List.map_nil]); first | done | rfl | (simp only [List.length_drop, List.length_take]; rfl)) ?_; (with_reducible refine (laws_heldIntS.calls k1 _ _ ((rd_T42 l0 x5_1).f0) x1_1 t270 _ ?side1 ?side2 A5.out).mono ?_); (case side1 => exact uC HR269_0.out); (case side2 => exact HC269_0.out); rintro e w' ⟨rfl, ⟨nd, rfl⟩⟩; refine ⟨_, rfl, ?_⟩))
      go_roundg k1
      case measure => have := HK1.out; omega
      case rel => exact ⟨(t270), (wrap64 (x5_1 + 1)), (by first | rfl | (simp; done) | (simp [*]; done)), (by first | rfl | (simp; done) | (simp [*]; done)), H', ⟨by have := HK1.out; omega⟩, by repeat (first | exact Drawn0.refl _ | apply Drawn0.step)⟩
    ·rw [if_neg c4] at H
     exact absurd H (by simp)
   ·rw [if_neg c3] at H
    have c3b0 : decide (x5_1 < (l0.length : Int)) = false := decide_eq_false c3
    clear c3
    obtain rfl := Option.some.inj H
    go_wp2
    go_ret
    exact ⟨by first | rfl | (simp; done) | (simp [*]; done), by repeat (first | exact Drawn0.refl _ | apply Drawn0.step)⟩

/-! ### laws_FnExactUncrossed: function 9 -/
/-! ### the law FnExactUncrossed: three rows of rows, told apart by their places in memory -/
theorem place1 {α : Type} {d : Kd α} {e base b0 : Nat} {ok ok2 : Nat → Prop} {u v : Value} {xs ys : List α} {W w1 : World} (hN : Kd.N d e W base ok u xs) (hS : Kd.S d e w1 W.heap.size ok2 v ys) (hb : Below W.heap.size W w1) (hle : b0 ≤ W.heap.size) :
    ∃ m : Nat, Kd.N d e w1 base (fun k => k < m) u xs ∧ Kd.S d e w1 b0 (fun k => m ≤ k) v ys :=
  ⟨W.heap.size, Kd.N_mono (Kd.N_old hN hb) (fun _ hk => hk.2), Kd.S_lower (Kd.S_mono (Kd.S_bound hS) (fun _ hk => hk.2.1)) hle⟩
theorem place2 {α : Type} {d : Kd α} {e base b0 b1 m : Nat} {ok2 : Nat → Prop} {u v g : Value} {xs ys zs : List α} {W w1 : World} (hN : Kd.N d e W base (fun k => k < m) u xs) (hS : Kd.S d e W b1 (fun k => m ≤ k) v ys) (hG : Kd.S d e w1 W.heap.size ok2 g zs) (hb : Below W.heap.size W w1) (hle : b0 ≤ W.heap.size) :
    ∃ n : Nat, Kd.N d e w1 base (fun k => k < m ∧ k < n) u xs ∧ Kd.S d e w1 b1 (fun k => m ≤ k ∧ k < n) v ys ∧ Kd.S d e w1 b0 (fun k => n ≤ k) g zs :=
  ⟨W.heap.size, Kd.N_old hN hb, Kd.S_below (Kd.S_mono (Kd.S_bound hS) (fun _ hk => ⟨hk.1, hk.2.2.1⟩)) hb, Kd.S_lower (Kd.S_mono (Kd.S_bound hG) (fun _ hk => hk.2.1)) hle⟩
def laws_FnExactUncrossed.f (k : Nat) (l0 : List (S41)) : Option Bool :=
  (laws_szWayS.f k l0 1048576).bind fun sz => if sz < 0 then some true else
  (laws_toWayS.f k l0).bind fun b0 => (spec_Uncrossed.f k b0).bind fun w_ =>
  (laws_toWayS.f k l0).bind fun x0 => (impl_Uncrossed.f k x0).bind fun g_ =>
  (laws_eqWayS.f k g_.1 w_.1).bind fun e1 => if e1 = true then (if g_.2 = w_.2 then
  (laws_toWayS.f k l0).bind fun b1 => (laws_eqWayS.f k x0 b1).bind fun e2 => if e2 = true then
  (laws_markWayS.f x0 1).bind fun mk => if mk.1 < 0 then some false else
  (laws_eqWayS.f k g_.1 w_.1).bind fun e3 => if e3 = true then
  (laws_markWayS.f g_.1 1).bind fun mg => (laws_heldWayS.f k mg.2 1).bind fun q => if q < 0 then some false else if q = mg.1 then
  (laws_toWayS.f k l0).bind fun b2 => (impl_Uncrossed.f k b2).bind fun h_ => (laws_eqWayS.f k h_.1 w_.1).bind fun e4 => if e4 = true then (if h_.2 = w_.2 then
  (laws_heldWayS.f k mg.2 1).bind fun q2 => if q2 < 0 then some false else if q2 = mg.1 then some true else some false
  else some false) else some false
  else some false
  else some false
  else some false
  else some false) else some false
set_option maxHeartbeats 8000000 in
set_option maxRecDepth 100000 in
theorem laws_FnExactUncrossed.calls (k : Nat) (A0 : Option Addr) (c0 : Nat) (l0 : List (S41)) (r : Bool) (w : World) (hr0 : Kd.C k41 w A0 l0.length l0) (hc0 : l0.length ≤ c0) (hr_ : r = true) (h : laws_FnExactUncrossed.f k l0 = some r) :
    Calls Try.prog 9 #[.slice A0 l0.length c0] w fun e w' => e = .returned (.bool r) ∧ Below w.heap.size w w' := by
  subst hr_
  have HR0 := Aside0.mk hr0
  have HC0 := Aside0.mk hc0
  clear hr0 hc0
  have HB := Aside0.mk (Below.refl w.heap.size w)
  unfold laws_FnExactUncrossed.f at h
  obtain ⟨sz, hsz, h⟩ := Option.bind_eq_some_iff.mp h
  have A1 := Aside0.mk hsz
  clear hsz
  by_cases c1 : sz < 0
  · have c1b : decide (sz < 0) = true := decide_eq_true c1
    clear c1 h
    go_enter Try.func9, Try.ntmps9
    go_wp2_with (go_at_call 13; (with_reducible refine (laws_szWayS.calls k _ _ l0 1048576 sz _ ?side1 ?side2 A1.out).mono ?_); (case side1 => exact uC HR0.out); (case side2 => exact HC0.out); rintro e w1 ⟨rfl, hb⟩; have n_ := Aside0.mk (below_step (uB HB.out) hb); clear HB hb; have HB := n_; clear n_)
    go_ret
    exact ⟨rfl, uB HB.out⟩
  · have c1b : decide (sz < 0) = false := decide_eq_false c1
    rw [if_neg c1] at h
    clear c1
    obtain ⟨b0, h2, h⟩ := Option.bind_eq_some_iff.mp h
    obtain ⟨⟨w0, f0⟩, h3, h⟩ := Option.bind_eq_some_iff.mp h
    obtain ⟨x0, h4, h⟩ := Option.bind_eq_some_iff.mp h
    obtain ⟨⟨g0, f1⟩, h5, h⟩ := Option.bind_eq_some_iff.mp h
    obtain ⟨e1, h6, h⟩ := Option.bind_eq_some_iff.mp h
    dsimp only at h h6
    have d1 : e1 = true := Classical.byContradiction fun q => by rw [if_neg q] at h; cases h
    rw [if_pos d1] at h
    subst d1
    have d2 : f1 = f0 := Classical.byContradiction fun q => by rw [if_neg q] at h; cases h
    rw [if_pos d2] at h
    obtain ⟨b1, h7, h⟩ := Option.bind_eq_some_iff.mp h
    obtain ⟨e2, h8, h⟩ := Option.bind_eq_some_iff.mp h
    have d3 : e2 = true := Classical.byContradiction fun q => by rw [if_neg q] at h; cases h
    rw [if_pos d3] at h
    subst d3
    obtain ⟨⟨mk1, mk2⟩, h9, h⟩ := Option.bind_eq_some_iff.mp h
    dsimp only at h
    have d4 : ¬ mk1 < 0 := fun q => by rw [if_pos q] at h; cases h
    rw [if_neg d4] at h
    obtain ⟨e3, h10, h⟩ := Option.bind_eq_some_iff.mp h
    have d5 : e3 = true := Classical.byContradiction fun q => by rw [if_neg q] at h; cases h
    rw [if_pos d5] at h
    subst d5
    obtain ⟨⟨mg1, mg2⟩, h11, h⟩ := Option.bind_eq_some_iff.mp h
    obtain ⟨q1, h12, h⟩ := Option.bind_eq_some_iff.mp h
    dsimp only at h h12
    have d6 : ¬ q1 < 0 := fun q => by rw [if_pos q] at h; cases h
    rw [if_neg d6] at h
    have d7 : q1 = mg1 := Classical.byContradiction fun q => by rw [if_neg q] at h; cases h
    rw [if_pos d7] at h
    obtain ⟨b2, h13, h⟩ := Option.bind_eq_some_iff.mp h
    obtain ⟨⟨hh0, f2⟩, h14, h⟩ := Option.bind_eq_some_iff.mp h
    obtain ⟨e4, h15, h⟩ := Option.bind_eq_some_iff.mp h
    dsimp only at h h15
    have d8 : e4 = true := Classical.byContradiction fun q => by rw [if_neg q] at h; cases h
    rw [if_pos d8] at h
    subst d8
    have d9 : f2 = f0 := Classical.byContradiction fun q => by rw [if_neg q] at h; cases h
    rw [if_pos d9] at h
    obtain ⟨q2, h16, h⟩ := Option.bind_eq_some_iff.mp h
    have d10 : ¬ q2 < 0 := fun q => by rw [if_pos q] at h; cases h
    rw [if_neg d10] at h
    have d11 : q2 = mg1 := Classical.byContradiction fun q => by rw [if_neg q] at h; cases h
    clear h
    have t2 : (f1 != f0) = false := bne_eq_false_iff_eq.mpr d2
    have t2' : (f1 == f0) = true := beq_iff_eq.mpr d2
    have t4 : decide (mk1 < 0) = false := decide_eq_false d4
    have t6 : decide (q1 < 0) = false := decide_eq_false d6
    have t7 : (q1 != mg1) = false := bne_eq_false_iff_eq.mpr d7
    have t7' : (q1 == mg1) = true := beq_iff_eq.mpr d7
    have t9 : (f2 != f0) = false := bne_eq_false_iff_eq.mpr d9
    have t9' : (f2 == f0) = true := beq_iff_eq.mpr d9
    have t10 : decide (q2 < 0) = false := decide_eq_false d10
    have t11 : (q2 != mg1) = false := bne_eq_false_iff_eq.mpr d11
    have t11' : (q2 == mg1) = true := beq_iff_eq.mpr d11
    clear d2 d4 d6 d7 d9 d10 d11
    have A2 := Aside0.mk h2
    have A3 := Aside0.mk h3
    have A4 := Aside0.mk h4
    have A5 := Aside0.mk h5
    have A6 := Aside0.mk h6
    have A7 := Aside0.mk h7
    have A8 := Aside0.mk h8
    have A9 := Aside0.mk h9
    have A10 := Aside0.mk h10
    have A11 := Aside0.mk h11
    have A12 := Aside0.mk h12
    have A13 := Aside0.mk h13
    have A14 := Aside0.mk h14
    have A15 := Aside0.mk h15
    have A16 := Aside0.mk h16
    clear h2 h3 h4 h5 h6 h7 h8 h9 h10 h11 h12 h13 h14 h15 h16
    go_enter Try.func9, Try.ntmps9
    go_wp2_with (go_at_call 13; (with_reducible refine (laws_szWayS.calls k _ _ l0 1048576 sz _ ?side1 ?side2 A1.out).mono ?_); (case side1 => exact uC HR0.out); (case side2 => exact HC0.out); rintro e w1 ⟨rfl, hb⟩; have n_ := Aside0.mk (below_step (uB HB.out) hb); clear HB hb A1; have HB := n_; clear n_)
    go_wp2_with (go_at_call 15; (with_reducible refine (laws_toWayS.calls k _ _ l0 b0 _ ?side1 ?side2 A2.out).mono ?_); (case side1 => exact Kd.C_below HR0.out (uB HB.out)); (case side2 => exact HC0.out); rintro e w2 ⟨vb0, rfl, ho, hb⟩; have n_ := Aside0.mk (below_step (uB HB.out) hb); clear HB hb A2; have HB := n_; clear n_; have HO := Aside0.mk ho; clear ho; obtain ⟨Ab0, cb0, eb0⟩ := Kd.S_slice HO.out; subst eb0)
    go_wp2_with (go_at_call 28; (with_reducible refine (spec_Uncrossed.calls k _ _ b0 w0 f0 _ ?side1 ?side2 A3.out).mono ?_); (case side1 => exact uC (Kd.S_reads' HO.out).2.2); (case side2 => exact (Kd.S_reads' HO.out).2.1); rintro e w3 ⟨vw0, rfl, ho, hb⟩; have n_ := Aside0.mk (below_step (uB HB.out) hb); clear HB hb A3 HO; have HB := n_; clear n_; have HW := Aside0.mk ho; clear ho)
    go_wp2_with (go_at_call 15; (with_reducible refine (laws_toWayS.calls k _ _ l0 x0 _ ?side1 ?side2 A4.out).mono ?_); (case side1 => exact Kd.C_below HR0.out (uB HB.out)); (case side2 => exact HC0.out); rintro e w4 ⟨vx0, rfl, ho, hb⟩; obtain ⟨m1, hp1, hp2⟩ := place1 (uN HW.out) ho hb (below_size (uB HB.out)); have n_ := Aside0.mk (below_step (uB HB.out) hb); clear HB hb A4 HW ho; have HB := n_; clear n_; have HW := Aside0.mk hp1; have HX := Aside0.mk hp2; clear hp1 hp2; obtain ⟨Ax0, cx0, ex0⟩ := Kd.S_slice HX.out; subst ex0)
    go_wp2_with (go_at_call 29; (with_reducible refine (impl_Uncrossed.calls k _ _ x0 g0 f1 _ ?side1 ?side2 A5.out).mono ?_); (case side1 => exact uC (Kd.S_reads' HX.out).2.2); (case side2 => exact (Kd.S_reads' HX.out).2.1); rintro e w5 ⟨vg0, rfl, ho, hb⟩; obtain ⟨m2, hp1, hp2, hp3⟩ := place2 (uN HW.out) (uS HX.out) ho hb (below_size (uB HB.out)); have n_ := Aside0.mk (below_step (uB HB.out) hb); clear HB hb A5 HW HX ho; have HB := n_; clear n_; have HW := Aside0.mk hp1; have HX := Aside0.mk hp2; have HG := Aside0.mk hp3; clear hp1 hp2 hp3; obtain ⟨Ag0, cg0, eg0⟩ := Kd.S_slice HG.out; subst eg0; obtain ⟨Aw0, cw0, ew0⟩ := Kd.N_slice HW.out; subst ew0)
    go_wp2_with (go_at_call 17; (with_reducible refine (laws_eqWayS.calls k _ _ g0 _ _ w0 true _ ?side1 ?side2 ?side3 ?side4 A6.out).mono ?_); (case side1 => exact uC (Kd.S_reads' HG.out).2.2); (case side2 => exact (Kd.S_reads' HG.out).2.1); (case side3 => exact uC (Kd.N_reads' HW.out).2.2); (case side4 => exact (Kd.N_reads' HW.out).2.1); rintro e w6 ⟨rfl, hb⟩; have n0_ := Aside0.mk (Kd.N_below (uN HW.out) hb); have n1_ := Aside0.mk (Kd.S_below (uS HX.out) hb); have n2_ := Aside0.mk (Kd.S_below (uS HG.out) hb); have n_ := Aside0.mk (below_step (uB HB.out) hb); clear HB hb A6 HW HX HG; have HB := n_; have HW := n0_; have HX := n1_; have HG := n2_; clear n_ n0_ n1_ n2_)
    go_wp2_with (go_at_call 15; (with_reducible refine (laws_toWayS.calls k _ _ l0 b1 _ ?side1 ?side2 A7.out).mono ?_); (case side1 => exact Kd.C_below HR0.out (uB HB.out)); (case side2 => exact HC0.out); rintro e w7 ⟨vb1, rfl, ho, hb⟩; have n0_ := Aside0.mk (Kd.N_below (uN HW.out) hb); have n1_ := Aside0.mk (Kd.S_below (uS HX.out) hb); have n2_ := Aside0.mk (Kd.S_below (uS HG.out) hb); have n_ := Aside0.mk (below_step (uB HB.out) hb); clear HB hb A7 HW HX HG; have HB := n_; have HW := n0_; have HX := n1_; have HG := n2_; clear n_ n0_ n1_ n2_; have HO := Aside0.mk ho; clear ho; obtain ⟨Ab1, cb1, eb1⟩ := Kd.S_slice HO.out; subst eb1)
    go_wp2_with (go_at_call 17; (with_reducible refine (laws_eqWayS.calls k _ _ x0 _ _ b1 true _ ?side1 ?side2 ?side3 ?side4 A8.out).mono ?_); (case side1 => exact uC (Kd.S_reads' HX.out).2.2); (case side2 => exact (Kd.S_reads' HX.out).2.1); (case side3 => exact uC (Kd.S_reads' HO.out).2.2); (case side4 => exact (Kd.S_reads' HO.out).2.1); rintro e w8 ⟨rfl, hb⟩; have n0_ := Aside0.mk (Kd.N_below (uN HW.out) hb); have n1_ := Aside0.mk (Kd.S_below (uS HX.out) hb); have n2_ := Aside0.mk (Kd.S_below (uS HG.out) hb); have n_ := Aside0.mk (below_step (uB HB.out) hb); clear HB hb A8 HW HX HG HO; have HB := n_; have HW := n0_; have HX := n1_; have HG := n2_; clear n_ n0_ n1_ n2_)
    go_wp2_with (go_at_call 30; (with_reducible refine (laws_markWayS.calls (fun k_ => m1 ≤ k_ ∧ k_ < m2) _ x0 1 mk1 mk2 w _ ?side1 ?side2 A9.out).mono ?_); (case side1 => exact uB HB.out); (case side2 => exact uS HX.out); rintro e w9 ⟨rfl, hy, hb, hk⟩; have n0_ := Aside0.mk (Kd.N_kept (uN HW.out) hk (fun k ho hs => Nat.not_lt.mpr hs.1 ho.1)); have n2_ := Aside0.mk (Kd.S_kept (uS HG.out) hk (fun k ho hs => Nat.not_lt.mpr ho hs.2)); have n_ := Aside0.mk hb; clear HB hb A9 HW HX HG hy hk; have HB := n_; have HW := n0_; have HG := n2_; clear n_ n0_ n2_)
    go_wp2_with (go_at_call 17; (with_reducible refine (laws_eqWayS.calls k _ _ g0 _ _ w0 true _ ?side1 ?side2 ?side3 ?side4 A10.out).mono ?_); (case side1 => exact uC (Kd.S_reads' HG.out).2.2); (case side2 => exact (Kd.S_reads' HG.out).2.1); (case side3 => exact uC (Kd.N_reads' HW.out).2.2); (case side4 => exact (Kd.N_reads' HW.out).2.1); rintro e w10 ⟨rfl, hb⟩; have n0_ := Aside0.mk (Kd.N_below (uN HW.out) hb); have n2_ := Aside0.mk (Kd.S_below (uS HG.out) hb); have n_ := Aside0.mk (below_step (uB HB.out) hb); clear HB hb A10 HW HG; have HB := n_; have HW := n0_; have HG := n2_; clear n_ n0_ n2_)
    go_wp2_with (go_at_call 30; (with_reducible refine (laws_markWayS.calls (fun k_ => m2 ≤ k_) _ g0 1 mg1 mg2 w _ ?side1 ?side2 A11.out).mono ?_); (case side1 => exact uB HB.out); (case side2 => exact uS HG.out); rintro e w11 ⟨rfl, hy, hb, hk⟩; have n0_ := Aside0.mk (Kd.N_kept (uN HW.out) hk (fun k ho hs => Nat.not_lt.mpr hs ho.2)); have n_ := Aside0.mk hb; clear HB hb A11 HW HG hk; have HB := n_; have HW := n0_; clear n_ n0_; have hlen := (Kd.S_reads' hy).1; rw [hlen] at hy; rw [hlen]; have HG := Aside0.mk hy; clear hy)
    go_wp2_with (go_at_call 31; (with_reducible refine (laws_heldWayS.calls k _ _ mg2 1 q1 _ ?side1 ?side2 A12.out).mono ?_); (case side1 => exact uC (Kd.S_reads' HG.out).2.2); (case side2 => exact (Kd.S_reads' HG.out).2.1); rintro e w12 ⟨rfl, nd, rfl⟩; clear A12)
    go_wp2_with (go_at_call 15; (with_reducible refine (laws_toWayS.calls k _ _ l0 b2 _ ?side1 ?side2 A13.out).mono ?_); (case side1 => exact Kd.C_below HR0.out (uB HB.out)); (case side2 => exact HC0.out); rintro e w13 ⟨vb2, rfl, ho, hb⟩; have n0_ := Aside0.mk (Kd.N_below (uN HW.out) hb); have n2_ := Aside0.mk (Kd.S_below (uS HG.out) hb); have n_ := Aside0.mk (below_step (uB HB.out) hb); clear HB hb A13 HW HG; have HB := n_; have HW := n0_; have HG := n2_; clear n_ n0_ n2_; have HO := Aside0.mk ho; clear ho; obtain ⟨Ab2, cb2, eb2⟩ := Kd.S_slice HO.out; subst eb2)
    go_wp2_with (go_at_call 29; (with_reducible refine (impl_Uncrossed.calls k _ _ b2 hh0 f2 _ ?side1 ?side2 A14.out).mono ?_); (case side1 => exact uC (Kd.S_reads' HO.out).2.2); (case side2 => exact (Kd.S_reads' HO.out).2.1); rintro e w14 ⟨vh0, rfl, ho, hb⟩; have n0_ := Aside0.mk (Kd.N_below (uN HW.out) hb); have n2_ := Aside0.mk (Kd.S_below (uS HG.out) hb); have n_ := Aside0.mk (below_step (uB HB.out) hb); clear HB hb A14 HW HG HO; have HB := n_; have HW := n0_; have HG := n2_; clear n_ n0_ n2_; have HH := Aside0.mk ho; clear ho; obtain ⟨Ah0, ch0, eh0⟩ := Kd.S_slice HH.out; subst eh0)
    go_wp2_with (go_at_call 17; (with_reducible refine (laws_eqWayS.calls k _ _ hh0 _ _ w0 true _ ?side1 ?side2 ?side3 ?side4 A15.out).mono ?_); (case side1 => exact uC (Kd.S_reads' HH.out).2.2); (case side2 => exact (Kd.S_reads' HH.out).2.1); (case side3 => exact uC (Kd.N_reads' HW.out).2.2); (case side4 => exact (Kd.N_reads' HW.out).2.1); rintro e w15 ⟨rfl, hb⟩; have n2_ := Aside0.mk (Kd.S_below (uS HG.out) hb); have n_ := Aside0.mk (below_step (uB HB.out) hb); clear HB hb A15 HW HG HH; have HB := n_; have HG := n2_; clear n_ n2_)
    go_wp2_with (go_at_call 31; (with_reducible refine (laws_heldWayS.calls k _ _ mg2 1 q2 _ ?side1 ?side2 A16.out).mono ?_); (case side1 => exact uC (Kd.S_reads' HG.out).2.2); (case side2 => exact (Kd.S_reads' HG.out).2.1); rintro e w16 ⟨rfl, nd2, rfl⟩; clear A16)
    go_ret
    exact ⟨rfl, uB HB.out⟩


/-- THE ONE PURE STATEMENT of laws_FnExactUncrossed. -/
def laws_FnExactUncrossed.Pure : Prop := ∀ (l0 : List (S41)), l0.length ≤ 9223372036854775807 → (∀ x2_ ∈ l0, (x2_.f0.length ≤ 9223372036854775807 ∧ ∀ x6_ ∈ x2_.f0, (Lit.int .i64 x6_).wf = true)) → ∃ k, laws_FnExactUncrossed.f k l0 = some true

end Go.Proofs.Ytbcljfbpkmlgpaa.Q
