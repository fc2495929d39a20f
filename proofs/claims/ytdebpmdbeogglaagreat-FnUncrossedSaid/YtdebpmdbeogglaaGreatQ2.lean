-- Written by a session's own program (wip/tools/myprint.py) over the kit's printer, out of the translation. Not trusted: Lean checks it.
import Derived.Test.YtdebpmdbeogglaaGreatQ0
import Derived.Test.YtdebpmdbeogglaaGreatQ1
-- squeezed
-- renamed
-- squeezed4
namespace Go.Proofs.YtdebpmdbeogglaaGreat.Q
open Go.RowKit Go.Proofs.YtdebpmdbeogglaaGreatW.PrintWords Go.Proofs.YtdebpmdbeogglaaGreatW.PrintLast Go.Proofs.YtdebpmdbeogglaaGreatW.PrintMore
attribute [local go_sem] max2_int min2_int max_two min_two max_three min_three max_four min_four   -- for this text's walks alone
set_option linter.unusedVariables false
set_option linter.unusedSimpArgs false

/-! ### spec_FreeCells: function 81 -/
mutual
def spec_FreeCells.l0 : Nat → List Int → Int → Int → Int → ByteArray → Option (List Int)
 | 0, _, _, _, _, _ => none
 | k + 1, x3, x4, n0, o0, m0 => if x4 < (m0.size : Int) then (spec_FreeCells.j1 k x3 x4 (decide (x4 < 64)) n0 o0 m0) else (spec_FreeCells.j1 k x3 x4 false n0 o0 m0)
def spec_FreeCells.j1 : Nat → List Int → Int → Bool → Int → Int → ByteArray → Option (List Int)
 | 0, _, _, _, _, _, _ => none
 | k + 1, x3, x4, A0, n0, o0, m0 => if A0 = true then ((spec_FreeAt.f k n0 o0 m0 x4).bind fun u0 => (if u0 = true then (if x3.length < 17592186044416 then (spec_FreeCells.l0 k (x3 ++ [x4]) (wrap64 (x4 + 1)) n0 o0 m0) else (none)) else (spec_FreeCells.l0 k x3 (wrap64 (x4 + 1)) n0 o0 m0))) else (some x3)
end
def spec_FreeCells.f (k : Nat) (c0 : Int) (d0 : Int) (b0 : ByteArray) : Option (List Int) := spec_FreeCells.l0 k (([] : List Int)) 0 c0 d0 b0
set_option maxHeartbeats 8000000 in
set_option maxRecDepth 100000 in
theorem spec_FreeCells.calls (k : Nat) (c0 : Int) (d0 : Int) (b0 : ByteArray) (r : List Int) (w : World) (h : spec_FreeCells.f k c0 d0 b0 = some r) :
  Calls Tryz.prog 81 #[.agg #[.int .i64 c0, .int .i64 d0, .string b0]] w fun e w' => ∃ v0_ : Value, e = .returned (v0_) ∧ Kd.R (Kd.int .i64) 3 w' w.heap.size (fun _ => True) v0_ r ∧ Below w.heap.size w w' := by
 have hu25 := Tryz.underlying25; have HB := B_ (A__ w.heap.size w); have H : (spec_FreeCells.l0 k (([] : List Int)) 0 c0 d0 b0) = some r := h; clear h; obtain ⟨x0, hy_⟩ : ∃ y_ : List Int, y_ = (([] : List Int)) := ⟨_, rfl⟩; replace H : (spec_FreeCells.l0 k x0 0 c0 d0 b0) = some r := hz_
 have y0 := B_ hy_; clear hy_; have H' := B_ H; clear H; go_enter Tryz.func81, Tryz.ntmps81; go_wp2_with (first | ((with_reducible refine Y_ (N := 1) rfl ?_); refine be_ (N := 1) (cs := #[.int .i64 c0, .int .i64 d0, .string b0]) (t := 25) ?_; intro v0 hg w2 hbox hb; have a0 := B_ (hbox); have M0 := B_ ((by rw [hg]; exact (H_ (uB HB.out)) : w.heap.size ≤ v0)); have N0 := ge_ hg HB; replace HB := hB_ HB hb; clear hb hbox hg) | ((with_reducible refine Y_ (N := 5) rfl ?_); refine Kd.R_lit (Kd.int .i64) _ 3 ?hg (N := 5) ?hd (xs := ([] : List Int)) (inner := []) (ok := fun _ => True) (okp := fun _ => True) ?hr ?hp (fun _ hk => hk) trivial (A__ _ _) (N_ _) (by simp) ?_; (case hd => rfl); (case hg => rfl); (case hr => first | (go_simp; done) | (go_simp; rfl)); (case hp => exact (Reps.none _ _)); intro v150 w3 q0 hb hg_ hnew_; clear hg_ hnew_; (first | rw [← y0.out] at q0 | (simp only [Int.reduceToNat] at q0; rw [← y0.out] at q0)); have C0 := B_ (Kd.R_lower q0 (H_ (uB HB.out))); replace a0 := kb_ a0 hb; replace HB := hB_ HB hb; clear hb q0))
 go_loopg [3, 4] k (fun kq v3 v4 w' => ∃ (j0 : List Int) (e0 : Int), v4 = .int .i64 e0 ∧ Aside0 (spec_FreeCells.l0 kq j0 e0 c0 d0 b0 = some r) ∧ Aside0 (kq ≤ k) ∧ Aside0 (Kd.R (Kd.int .i64) 3 w' w.heap.size (fun _ => True) v3 j0) ∧ Aside0 (w'.heap[v0]? = some (.cells #[.int .i64 c0, .int .i64 d0, .string b0] 25 (0, 0))) ∧ Aside0 (Below w.heap.size w w'))
 case atStart => exact ⟨(x0), (0), ev_, H', ⟨N_ _⟩, ⟨uR C0.out⟩, ⟨uK a0.out⟩, ⟨uB HB.out⟩⟩
 case round =>
  clear H'; (try clear p2); obtain ⟨j0, e0, rfl, HA, HK1, g0, a0, HB⟩ := hrel
  cases gk with
  | zero => exact absurd HA.out (by simp [spec_FreeCells.l0])
  | succ k1 =>
   have H := HA.out; clear HA; simp only [spec_FreeCells.l0] at H; have HC5 := B_ H; clear H; go_upto_region 3 with (fail)
   go_cut [14] (fun v14 wc => ∃ (kq : Nat) (r0 : Bool), v14 = .bool r0 ∧ Aside0 (spec_FreeCells.j1 kq j0 e0 r0 c0 d0 b0 = some r) ∧ Aside0 (kq ≤ k1) ∧ Aside0 (Kd.R (Kd.int .i64) 3 wc w.heap.size (fun _ => True) u3 j0) ∧ Aside0 (wc.heap[v0]? = some (.cells #[.int .i64 c0, .int .i64 d0, .string b0] 25 (0, 0))) ∧ Aside0 (Below w.heap.size w wc))
   case first =>
    have H := HC5.out; clear HC5; by_cases c6 : e0 < (b0.size : Int)
    ·rw [G_ c6] at H; have p0 := C_ c6; clear c6; (first | rw [p0] | (simp only [i64_w, i32_w]; rw [p0]) | skip); have H' := B_ H; clear H; have D0 := bx3 a0.out; go_wp2; go_meet
     case rel => exact ⟨_, (decide (e0 < 64)), ev_, H', ⟨by have := HK1.out; first | omega | exact N_ _⟩, ⟨uR g0.out⟩, ⟨uK a0.out⟩, ⟨uB HB.out⟩⟩
    ·rw [I_ c6] at H; have p0 := K_ c6; clear c6; (first | rw [p0] | (simp only [i64_w, i32_w]; rw [p0]) | skip); have H' := B_ H; clear H; have E0 := bx3 a0.out; go_wp2; go_meet
     case rel => exact ⟨_, (false), ev_, H', ⟨by have := HK1.out; first | omega | exact N_ _⟩, ⟨uR g0.out⟩, ⟨uK a0.out⟩, ⟨uB HB.out⟩⟩
   case rest =>
    clear HC5; (try clear p2); (try clear c6); (try clear p0); (try clear c8); (try clear D0); (try clear E0); obtain ⟨kq, r0, rfl, HA, HJ4, g0, a0, HB⟩ := hcut
    cases kq with
    | zero => exact absurd HA.out (by simp [spec_FreeCells.j1])
    | succ kj4 =>
     have H := HA.out; clear HA; simp only [spec_FreeCells.j1] at H; by_cases c9 : r0 = true
     ·subst c9; rw [G_ rfl] at H; obtain ⟨u0, A10, H⟩ := ob_ H; by_cases s0 : u0 = true
      ·subst s0; rw [G_ rfl] at H; by_cases t0 : j0.length < 17592186044416
       ·rw [G_ t0] at H; have G0 := B_ t0; clear t0; obtain ⟨z0, hy_⟩ : ∃ y_ : List Int, y_ = (j0 ++ [e0]) := ⟨_, rfl⟩; replace H : (spec_FreeCells.l0 kj4 z0 (wrap64 (e0 + 1)) c0 d0 b0) = some r := hz_
        have J0 := B_ hy_; clear hy_; have H' := B_ H; clear H; have O0 := bx3 a0.out; go_wp2_with (first | ((with_reducible refine J_ (f := 83) rfl ?_); refine gL_ (some 19) Tryz.func83 #[.agg #[.int .i64 c0, .int .i64 d0, .string b0], .int .i64 e0] ?_; (with_reducible refine (spec_FreeAt.calls kj4 c0 d0 b0 e0 true _ A10.out).mono ?_); rintro e P0 ⟨rfl, hb⟩; refine ⟨_, rfl, ?_⟩; replace g0 := rb_ g0 hb; replace a0 := kb_ a0 hb; replace HB := hB_ HB hb; (try clear hb)) | ((with_reducible refine gate_builtin (b := .append) (xs := #[.tmp 20, .tmp 22]) rfl ?_); at_builtin; refine Kd.R_append (Kd.int .i64) (w0 := w) w.heap.size rfl (.tmp 20) (.tmp 22) 26 3 (.int .i64 0) 8 rfl Tryz.underlying26 info3 rfl (by decide) (by omega) u3 j0 e0 [.int .i64 e0] (fun _ => True) (fun _ => False) rfl rfl ?aP (fun _ hk => hk.elim) ?aF ?aO ?aB ?aS ?aL ?_; (case aP => exact rfl); (case aB => exact (uB HB.out)); (case aF => exact (fun _ _ => trivial)); (case aO => exact (uR g0.out)); (case aS => exact (H_ (uB HB.out))); (case aL => have := G0.out; omega); intro v154 Q0 ho hb hg hat; rw [← J0.out] at ho; replace a0 := B_ (blk_grown (uK a0.out) hg (Kd.R_ne g0.out a0.out (by decide))); replace HB := B_ (hb); have L0 := B_ (ho); clear g0; clear ho hb hg hat))
        go_roundg kj4
        case measure => have := HK1.out; have := HJ4.out; omega
        case rel => exact ⟨(z0), (wrap64 (e0 + 1)), ev_, H', ⟨by have := HK1.out; have := HJ4.out; omega⟩, ⟨uR L0.out⟩, ⟨uK a0.out⟩, ⟨uB HB.out⟩⟩
       ·rw [I_ t0] at H; exact absurd H (by simp)
      ·replace s0 := L_ s0; subst s0; rw [I_ (show ¬ (false = true) by decide)] at H; have H' := B_ H; clear H; have R0 := bx3 a0.out; go_wp2_with (first | ((with_reducible refine J_ (f := 83) rfl ?_); refine gL_ (some 19) Tryz.func83 #[.agg #[.int .i64 c0, .int .i64 d0, .string b0], .int .i64 e0] ?_; (with_reducible refine (spec_FreeAt.calls kj4 c0 d0 b0 e0 false _ A10.out).mono ?_); rintro e U0 ⟨rfl, hb⟩; refine ⟨_, rfl, ?_⟩; replace g0 := rb_ g0 hb; replace a0 := kb_ a0 hb; replace HB := hB_ HB hb; (try clear hb)))
       go_roundg kj4
       case measure => have := HK1.out; have := HJ4.out; omega
       case rel => exact ⟨(j0), (wrap64 (e0 + 1)), ev_, H', ⟨by have := HK1.out; have := HJ4.out; omega⟩, ⟨uR g0.out⟩, ⟨uK a0.out⟩, ⟨uB HB.out⟩⟩
     ·replace c9 := L_ c9; subst c9; rw [I_ (show ¬ (false = true) by decide)] at H; obtain rfl := F_ H; go_wp2; go_ret; exact ⟨_, ew_, by (with_reducible repeat (first | apply Kd.R_alloc | apply Kd.R_drewN | apply Kd.R_drew)); exact g0.out, uB HB.out⟩

/-! ### spec_l03Has: function 82 -/
def spec_l03Has.l0 : Nat → List Int → Int → Int → Option (Bool)
 | 0, _, _, _ => none
 | k + 1, x0, x1, x5 => if x5 < (x0.length : Int) then (if 0 ≤ x5 then (if (rd x0 x5) = x1 then (some true) else (spec_l03Has.l0 k x0 x1 (wrap64 (x5 + 1)))) else (none)) else (some false)
def spec_l03Has.f (k : Nat) (l0 : List Int) (a1 : Int) : Option (Bool) := spec_l03Has.l0 k l0 a1 0
set_option maxHeartbeats 8000000 in
set_option maxRecDepth 100000 in
theorem spec_l03Has.calls (k : Nat) (A0 : Option Addr) (c0 : Nat) (l0 : List Int) (a1 : Int) (r : Bool) (w : World) (hr0 : Kd.C (Kd.int .i64) w A0 l0.length l0) (hc0 : l0.length ≤ c0) (h : spec_l03Has.f k l0 a1 = some r) :
  Calls Tryz.prog 82 #[.slice A0 l0.length c0, .int .i64 a1] w fun e w' => e = .returned (.bool r) ∧ Drawn0 w w' := by
 have g0 := B_ hr0; have HC0 := B_ hc0; clear hr0 hc0; have H : (spec_l03Has.l0 k l0 a1 0) = some r := h; clear h; have H' := B_ H; clear H; go_enter Tryz.func82, Tryz.ntmps82; go_wp2; go_loopg [5] k (fun kq v5 w' => ∃ (a0 : Int), v5 = .int .i64 a0 ∧ Aside0 (spec_l03Has.l0 kq l0 a1 a0 = some r) ∧ Aside0 (kq ≤ k) ∧ Drawn0 w w')
 case atStart => exact ⟨(0), ev_, H', ⟨N_ _⟩, by repeat (first | exact R_ _ | apply Q_)⟩
 case round =>
  clear H'; (try clear p2); obtain ⟨a0, rfl, HA, HK1, ⟨m1, rfl⟩⟩ := hrel
  cases gk with
  | zero => exact absurd HA.out (by simp [spec_l03Has.l0])
  | succ k1 =>
   have H := HA.out; clear HA; simp only [spec_l03Has.l0] at H; by_cases c3 : a0 < (l0.length : Int)
   ·rw [G_ c3] at H; have j0 := C_ c3; clear c3; by_cases c4 : 0 ≤ a0
    ·rw [G_ c4] at H; have q0 := C_ c4; clear c4; by_cases c5 : (rd l0 a0) = a1
     ·rw [G_ c5] at H; have m0 := D__ c5; have n0 := T_ c5; clear c5; obtain rfl := F_ H; have b0 : 0 ≤ (a0 : Int) := od_; have d0 : a0 < (l0.length : Int) := od_; obtain ⟨o0, e0, p0⟩ := U_ g0.out a0 b0 d0
      cases e0; replace b0 := E_ b0; replace d0 := E_ d0; go_wp2; go_ret; exact ⟨by first | rfl | (simp; done) | (simp [*]; done), by repeat (first | exact R_ _ | apply Q_)⟩
     ·rw [I_ c5] at H; have m0 := P_ c5; have n0 := B__ c5; have H' := B_ H; clear H; have b0 : 0 ≤ (a0 : Int) := od_; have d0 : a0 < (l0.length : Int) := od_; obtain ⟨o0, e0, p0⟩ := U_ g0.out a0 b0 d0
      cases e0; replace b0 := E_ b0; replace d0 := E_ d0; go_wp2; go_roundg k1
      case measure => have := HK1.out; omega
      case rel => exact ⟨(wrap64 (a0 + 1)), ev_, H', ⟨by have := HK1.out; omega⟩, by repeat (first | exact R_ _ | apply Q_)⟩
    ·rw [I_ c4] at H; exact absurd H (by simp)
   ·rw [I_ c3] at H; have j0 := K_ c3; clear c3; obtain rfl := F_ H; go_wp2; go_ret; exact ⟨by first | rfl | (simp; done) | (simp [*]; done), by repeat (first | exact R_ _ | apply Q_)⟩

/-! ### spec_l04Some: function 66 -/
mutual
def spec_l04Some.j1 : Nat → List Int → List Int → List Int → Int → Int → Option (List Int × Int × Int)
 | 0, _, _, _, _, _ => none
 | k + 1, x7, x8, x0, y0, z0 => spec_l04Some.l1 k x7 x8 (([] : List Int)) 0 x0 y0 z0
def spec_l04Some.l1 : Nat → List Int → List Int → List Int → Int → List Int → Int → Int → Option (List Int × Int × Int)
 | 0, _, _, _, _, _, _, _ => none
 | k + 1, x7, x8, d1, Q0, x0, y0, z0 => if Q0 < (x7.length : Int) then (if 0 ≤ Q0 then ((spec_l03Has.f k x8 (rd x7 Q0)).bind fun e1 => (if e1 = true then (if d1.length < 17592186044416 then (spec_l04Some.l1 k x7 x8 (d1 ++ [rd x7 Q0]) (wrap64 (Q0 + 1)) x0 y0 z0) else (none)) else (spec_l04Some.l1 k x7 x8 d1 (wrap64 (Q0 + 1)) x0 y0 z0))) else (none)) else (some (d1, y0, z0))
def spec_l04Some.l0 : Nat → Int → List Int → List Int → Int → List Int → Int → Int → Option (List Int × Int × Int)
 | 0, _, _, _, _, _, _, _ => none
 | k + 1, x2, x7, x8, x9, x0, y0, z0 => if x9 < x2 then (if (x7.length : Int) > 0 then ((spec_l01Below.f x0 y0 z0 (x7.length : Int)).bind fun Z0 => (if 0 ≤ Z0.1 then (if Z0.1 < (x7.length : Int) then (if x8.length < 17592186044416 then (spec_l04Some.l0 k x2 x7 (x8 ++ [rd x7 Z0.1]) (wrap64 (x9 + 1)) x0 Z0.2.1 Z0.2.2) else (none)) else (none)) else (none))) else (spec_l04Some.j1 k x7 x8 x0 y0 z0)) else (spec_l04Some.j1 k x7 x8 x0 y0 z0)
end
def spec_l04Some.f (k : Nat) (d0 : List Int) (t0 : Int) (u0 : Int) (n0 : Int) (o0 : Int) (p0 : ByteArray) (a2 : Int) : Option (List Int × Int × Int) := (spec_FreeCells.f k n0 o0 p0).bind fun a0 => (spec_l04Some.l0 k a2 a0 (([] : List Int)) 0 d0 t0 u0)
set_option maxHeartbeats 8000000 in
set_option maxRecDepth 100000 in
theorem spec_l04Some.calls (k : Nat) (g : Nat) (d0 : List Int) (t0 : Int) (u0 : Int) (n0 : Int) (o0 : Int) (p0 : ByteArray) (a2 : Int) (r1 : List Int) (r2 : Int) (r3 : Int) (w0 w : World) (hI : IsS66 w0 w g d0 t0 u0) (hB : Below w0.heap.size w0 w) (h : spec_l04Some.f k d0 t0 u0 n0 o0 p0 a2 = some (r1, r2, r3)) :
  Calls Tryz.prog 66 #[.pointer (some ⟨g, 0, none⟩), .agg #[.int .i64 n0, .int .i64 o0, .string p0], .int .i64 a2] w fun e w' => ∃ v0_ : Value, e = .returned (v0_) ∧ Kd.R (Kd.int .i64) 3 w' w.heap.size (fun _ => True) v0_ r1 ∧ IsS66 w0 w' g d0 r2 r3 ∧ Below w0.heap.size w0 w' ∧ KeepBut w w' g none := by
 have hu25 := Tryz.underlying25; have HI0 := B_ hI; have HK := B_ (KeepBut.refl w g none); have HL := B_ hB.size; clear hI; have HW0 := B_ hB.size; have HB := B_ hB; clear hB; have H : ((spec_FreeCells.f k n0 o0 p0).bind fun a0 => (spec_l04Some.l0 k a2 a0 (([] : List Int)) 0 d0 t0 u0)) = some (r1, r2, r3) := h; clear h; replace H := M_ H; obtain ⟨a0, A40, H⟩ := H; replace H : (spec_l04Some.l0 k a2 a0 (([] : List Int)) 0 d0 t0 u0) = some (r1, r2, r3) := H; have A4 := B_ A40; clear A40; obtain ⟨G1, hy_⟩ : ∃ y_ : List Int, y_ = (([] : List Int)) := ⟨_, rfl⟩; replace H : (spec_l04Some.l0 k a2 a0 G1 0 d0 t0 u0) = some (r1, r2, r3) := hz_
 have J1 := B_ hy_; clear hy_; have HC5 := B_ H; clear H; go_enter Tryz.func66, Tryz.ntmps66; go_upto_block 0 with (first | ((with_reducible refine Y_ (N := 4) rfl ?_); (try (refine gate_guard (by rfl) ?_; dsimp only)); refine be_ (N := 4) (cs := #[.int .i64 n0, .int .i64 o0, .string p0]) (t := 25) ?_; intro A0 hg w6 hbox hb; replace HB := B_ (below_step (bi_ w0) hb); have g0 := B_ (hbox); have N2 := B_ ((by rw [hg]; exact (keep_size (w := w) (g := g) (row := none) (kw_ w)) : w.heap.size ≤ A0)); have O2 := B_ ((Nat.le_trans HW0.out (by rw [hg]; exact (keep_size (w := w) (g := g) (row := none) (kw_ w)) : w.heap.size ≤ A0) : w0.heap.size ≤ A0)); replace HK := B_ (Z_ (kw_ w) (KeepBut.of_below hb g none) (.inl rfl)); have b2 := B_ ((by rw [hg]; exact Nat.ne_of_lt (IsS66.lt (show IsS66 w0 _ g d0 t0 u0 from iw_ g)) : g ≠ A0)); have L1 := B_ ((by rw [hg]; exact Nat.ne_of_gt (IsS66.lt (show IsS66 w0 _ g d0 t0 u0 from iw_ g)) : A0 ≠ g)); replace HI0 := B_ (IsS66.below (iw_ g) hb); clear hb hbox hg; have P2 := L1.out; have Q2 := b2.out; have v1 := bx3 g0.out) | ((with_reducible refine J_ (f := 81) rfl ?_); refine gL_ (some 13) Tryz.func81 #[.agg #[.int .i64 n0, .int .i64 o0, .string p0]] ?_; (with_reducible refine (spec_FreeCells.calls k n0 o0 p0 a0 _ A4.out).mono ?_); rintro e w9 ⟨v159, rfl, M1, hb⟩; refine ⟨_, rfl, ?_⟩; have g1 := B_ (Kd.R_lower M1 (keep_size (w := w) (g := g) (row := none) (kw_ w))); replace g0 := kb_ g0 hb; replace HK := B_ (Z_ (kw_ w) (KeepBut.of_below hb g none) (.inl rfl)); replace HB := B_ (below_step (bi_ w0) hb); replace HI0 := B_ (IsS66.below (iw_ g) hb); (try clear hb M1)) | ((with_reducible refine Y_ (N := 14) rfl ?_); (try (refine gate_guard (by rfl) ?_; dsimp only)); refine Kd.R_lit (Kd.int .i64) _ 3 ?hg (N := 14) ?hd (xs := ([] : List Int)) (inner := []) (ok := fun _ => True) (okp := fun _ => True) ?hr ?hp (fun _ hk => hk) trivial (A__ _ _) (N_ _) (by simp) ?_; (case hd => rfl); (case hg => rfl); (case hr => first | (go_simp; done) | (go_simp; rfl)); (case hp => exact (Reps.none _ _)); intro v162 R2 R0 hb hg_ hnew_; clear hg_ hnew_; (first | rw [← J1.out] at R0 | (simp only [Int.reduceToNat] at R0; rw [← J1.out] at R0)); have c2 := B_ (Kd.R_lower (Kd.R_new' R0 (Kd.R_lt (uR g1.out))) (keep_size (w := w) (g := g) (row := none) (kw_ w))); replace g1 := B_ (Kd.R_elder' (uR g1.out) (Kd.R_base R0) hb); replace g0 := kb_ g0 hb; replace HK := B_ (Z_ (kw_ w) (KeepBut.of_below hb g none) (.inl rfl)); replace HB := B_ (below_step (bi_ w0) hb); replace HI0 := B_ (IsS66.below (iw_ g) hb); clear hb R0))
 (try simp only [Act.put, List.setIfInBounds_toArray, List.set_cons_zero, List.set_cons_succ]); go_cut [8] (fun v8 wc => ∃ (kq : Nat) (j0 : List Int) (r0 : Int) (s0 : Int), Aside0 (spec_l04Some.j1 kq a0 j0 d0 r0 s0 = some (r1, r2, r3)) ∧ Aside0 (kq ≤ k) ∧ Aside0 (Kd.R (Kd.int .i64) 3 wc w.heap.size (fun k_ => some k_ ≠ (v8 : Value).ownBlock) v159 a0) ∧ Aside0 (Kd.R (Kd.int .i64) 3 wc w.heap.size (fun k_ => some k_ ≠ (v159 : Value).ownBlock) v8 j0) ∧ Aside0 (wc.heap[A0]? = some (.cells #[.int .i64 n0, .int .i64 o0, .string p0] 25 (0, 0))) ∧ Aside0 (IsS66 w0 wc g d0 r0 s0) ∧ Aside0 (KeepBut w wc g none) ∧ Aside0 (Below w0.heap.size w0 wc))
 case first =>
  have H := HC5.out; clear HC5; have H' := B_ H; clear H; go_wp2; go_loopg [8, 9] k (fun kq v8 v9 w' => ∃ (v0 : List Int) (J0 : Int) (C0 : Int) (D0 : Int), v9 = .int .i64 J0 ∧ Aside0 (spec_l04Some.l0 kq a2 a0 v0 J0 d0 C0 D0 = some (r1, r2, r3)) ∧ Aside0 (kq ≤ k) ∧ Aside0 (Kd.R (Kd.int .i64) 3 w' w.heap.size (fun k_ => some k_ ≠ (v8 : Value).ownBlock) v159 a0) ∧ Aside0 (Kd.R (Kd.int .i64) 3 w' w.heap.size (fun k_ => some k_ ≠ (v159 : Value).ownBlock) v8 v0) ∧ Aside0 (w'.heap[A0]? = some (.cells #[.int .i64 n0, .int .i64 o0, .string p0] 25 (0, 0))) ∧ Aside0 (IsS66 w0 w' g d0 C0 D0) ∧ Aside0 (KeepBut w w' g none) ∧ Aside0 (Below w0.heap.size w0 w'))
  case atStart => exact ⟨(G1), (0), (t0), (u0), ev_, H', ⟨N_ _⟩, ⟨uR (O_ g1.out (fun _ hk => hk.2))⟩, ⟨uR (O_ c2.out (fun _ hk => hk.2))⟩, ⟨uK g0.out⟩, ⟨iw_ g⟩, ⟨kw_ w⟩, ⟨bi_ w0⟩⟩
  case round =>
   clear H'; (try clear p2); (try clear c6); (try clear c7); (try clear c8); (try clear v1); obtain ⟨v0, J0, C0, D0, rfl, HA, HK1, c0, e0, g0, HI0, HK, HB⟩ := hrel
   cases gk with
   | zero => exact absurd HA.out (by simp [spec_l04Some.l0])
   | succ k1 =>
    have H := HA.out; clear HA; simp only [spec_l04Some.l0] at H; by_cases E0 : J0 < a2
    ·rw [G_ E0] at H; have L0 := C_ E0; clear E0; (first | rw [L0] | (simp only [i64_w, i32_w]; rw [L0]) | skip); by_cases G0 : (a0.length : Int) > 0
     ·rw [G_ G0] at H; have x1 := C_ G0; have y1 : decide (0 < a0.length) = true := C_ (by omega); clear G0; replace H := M_ H; obtain ⟨⟨q0, m1, n1⟩, A140, H⟩ := H; replace H : (if 0 ≤ q0 then (if q0 < (a0.length : Int) then (if v0.length < 17592186044416 then (spec_l04Some.l0 k1 a2 a0 (v0 ++ [rd a0 q0]) (wrap64 (J0 + 1)) d0 m1 n1) else (none)) else (none)) else (none)) = some (r1, r2, r3) := H; have A14 := B_ A140; clear A140; by_cases U0 : 0 ≤ q0
      ·rw [G_ U0] at H; have N1 := C_ U0; clear U0; by_cases V0 : q0 < (a0.length : Int)
       ·rw [G_ V0] at H; have O1 := C_ V0; clear V0; by_cases X0 : v0.length < 17592186044416
        ·rw [G_ X0] at H; have d2 := B_ X0; clear X0; obtain ⟨P1, hy_⟩ : ∃ y_ : List Int, y_ = (v0 ++ [rd a0 q0]) := ⟨_, rfl⟩; replace H : (spec_l04Some.l0 k1 a2 a0 P1 (wrap64 (J0 + 1)) d0 m1 n1) = some (r1, r2, r3) := hz_
         have e2 := B_ hy_; clear hy_; have H' := B_ H; clear H; obtain ⟨U2, g2, j2⟩ := Kd.R_slice c0.out; subst j2; go_wp2_with (first | ((with_reducible refine J_ (f := 45) rfl ?_); refine gL_ (some 30) Tryz.func45 #[.pointer (some ⟨g, 0, none⟩), .int .i64 (a0.length : Int)] ?_; (with_reducible refine (spec_l01Below.calls g d0 C0 D0 (a0.length : Int) q0 m1 n1 w0 _ ?side1 ?side2 A14.out).mono ?_); (case side1 => exact iw_ g); (case side2 => exact bi_ w0); rintro e V2 ⟨rfl, hi, hb, hk⟩; refine ⟨_, rfl, ?_⟩; replace c0 := B_ (O_ (Kd.R_keep (IsS66.apart (show IsS66 w0 _ g d0 C0 D0 from iw_ g) (uR c0.out) (by decide)) hk (fun _ h => h.2)) (fun _ h => h.1)); replace e0 := B_ (O_ (Kd.R_keep (IsS66.apart (show IsS66 w0 _ g d0 C0 D0 from iw_ g) (uR e0.out) (by decide)) hk (fun _ h => h.2)) (fun _ h => h.1)); replace g0 := B_ (KeepBut.blk hk (g' := A0) (o := .cells #[.int .i64 n0, .int .i64 o0, .string p0] 25 (0, 0)) (uK g0.out) L1.out (by simp)); replace HK := B_ (Z_ (kw_ w) hk (.inl rfl)); replace HB := B_ (hb); replace HI0 := B_ (hi); (try clear hb hk hi); have a1 : 0 ≤ (q0 : Int) := od_; have b1 : q0 < (a0.length : Int) := od_; obtain ⟨l2, m2, Q1⟩ := U_ (S_ c0.out).2.2 q0 a1 b1; cases m2; replace a1 := E_ a1; replace b1 := E_ b1) | ((with_reducible refine gate_builtin (b := .append) (xs := #[.tmp 25, .tmp 33]) rfl ?_); (try (refine gate_guard (by rfl) ?_; dsimp only)); at_builtin; refine Kd.R_append (Kd.int .i64) w.heap.size rfl (.tmp 25) (.tmp 33) 26 3 (.int .i64 0) 8 rfl Tryz.underlying26 info3 rfl (by decide) (by omega) u8 v0 (rd a0 q0) [.int .i64 (rd a0 q0)] (fun k_ => some k_ ≠ (.slice (some l2) a0.length g2 : Value).ownBlock) (fun _ => False) rfl rfl ?aP (fun _ hk => hk.elim) ?aF ?aO (A__ _ _) ?aS ?aL ?_; (case aP => exact rfl); (case aF => exact (fun k_ hk => Kd.fresh' (Kd.R_lt (uR c0.out)) k_ hk)); (case aO => exact (uR e0.out)); (case aS => exact (keep_size (w := w) (g := g) (row := none) (kw_ w))); (case aL => have := d2.out; omega); intro v169 X2 ho hb hg hat; rw [← e2.out] at ho; replace c0 := B_ (Kd.R_after (ok := (fun _ => True)) (uR (O_ c0.out (fun _ hk => ⟨trivial, hk⟩))) hg hat); replace g0 := B_ (blk_grown (uK g0.out) hg (Kd.R_ne e0.out g0.out (by decide))); replace HB := B_ (below_weaken (bi_ w0) HL.out hb); replace HI0 := B_ (IsS66.grown (iw_ g) hg (IsS66.own_ne HI0.out e0.out (by decide))); replace HK := B_ (Z_ (kw_ w) (KeepBut.of_grown hg g) (Kd.R_base2 e0.out)); have n2 := B_ (ho); clear e0; clear ho hb hg hat))
         go_roundg k1
         case measure => have := HK1.out; omega
         case rel => exact ⟨(P1), (wrap64 (J0 + 1)), (m1), (n1), ev_, H', ⟨by have := HK1.out; omega⟩, ⟨uR (O_ c0.out (fun _ hk => hk.2))⟩, ⟨uR n2.out⟩, ⟨uK g0.out⟩, ⟨iw_ g⟩, ⟨kw_ w⟩, ⟨bi_ w0⟩⟩
        ·rw [I_ X0] at H; exact absurd H (by simp)
       ·rw [I_ V0] at H; exact absurd H (by simp)
      ·rw [I_ U0] at H; exact absurd H (by simp)
     ·rw [I_ G0] at H; have x1 := K_ G0; have y1 : decide (0 < a0.length) = false := K_ (by omega); clear G0; have H' := B_ H; clear H; obtain ⟨Y2, Z2, o2⟩ := Kd.R_slice c0.out; subst o2; go_wp2; go_meet
      case rel => exact ⟨_, (v0), (C0), (D0), H', ⟨by have := HK1.out; first | omega | exact N_ _⟩, ⟨uR c0.out⟩, ⟨uR e0.out⟩, ⟨uK g0.out⟩, ⟨iw_ g⟩, ⟨kw_ w⟩, ⟨bi_ w0⟩⟩
    ·rw [I_ E0] at H; have L0 := K_ E0; clear E0; (first | rw [L0] | (simp only [i64_w, i32_w]; rw [L0]) | skip); have H' := B_ H; clear H; go_wp2; go_meet
     case rel => exact ⟨_, (v0), (C0), (D0), H', ⟨by have := HK1.out; first | omega | exact N_ _⟩, ⟨uR c0.out⟩, ⟨uR e0.out⟩, ⟨uK g0.out⟩, ⟨iw_ g⟩, ⟨kw_ w⟩, ⟨bi_ w0⟩⟩
 case rest =>
  clear HC5; (try clear c1); (try clear p1); (try clear q1); (try clear hx1); (try clear p2); (try clear c4); (try clear c6); (try clear p6); (try clear c7); (try clear c8); (try clear E0); (try clear L0); (try clear G0); (try clear x1); (try clear y1); (try clear U0); (try clear N1); (try clear V0); (try clear O1); (try clear R1); (try clear U1); (try clear hx16); (try clear X0); (try clear v1); (try clear Q1); (try clear a1); (try clear b1); obtain ⟨kq, j0, r0, s0, HA, HJ4, c0, e0, g0, HI0, HK, HB⟩ := hcut
  cases kq with
  | zero => exact absurd HA.out (by simp [spec_l04Some.j1])
  | succ kj4 =>
   have H := HA.out; clear HA; simp only [spec_l04Some.j1] at H; obtain ⟨V1, hy_⟩ : ∃ y_ : List Int, y_ = (([] : List Int)) := ⟨_, rfl⟩; replace H : (spec_l04Some.l1 kj4 a0 j0 V1 0 d0 r0 s0) = some (r1, r2, r3) := hz_
   have X1 := B_ hy_; clear hy_; have H' := B_ H; clear H; go_wp2_with (first | ((with_reducible refine Y_ (N := 35) rfl ?_); (try (refine gate_guard (by rfl) ?_; dsimp only)); refine Kd.R_lit (Kd.int .i64) _ 3 ?hg (N := 35) ?hd (xs := ([] : List Int)) (inner := []) (ok := fun _ => True) (okp := fun _ => True) ?hr ?hp (fun _ hk => hk) trivial (A__ _ _) (N_ _) (by simp) ?_; (case hd => rfl); (case hg => rfl); (case hr => first | (go_simp; done) | (go_simp; rfl)); (case hp => exact (Reps.none _ _)); intro v172 a3 M0 hb hg_ hnew_; clear hg_ hnew_; (first | rw [← X1.out] at M0 | (simp only [Int.reduceToNat] at M0; rw [← X1.out] at M0)); have q2 := B_ (Kd.R_lower (Kd.R_new' (Kd.R_new' M0 (Kd.R_lt (uR c0.out))) (Kd.R_lt (uR e0.out))) (keep_size (w := w) (g := g) (row := none) (kw_ w))); replace c0 := B_ (Kd.R_elder' (uR c0.out) (Kd.R_base M0) hb); replace e0 := B_ (Kd.R_elder' (uR e0.out) (Kd.R_base M0) hb); replace g0 := kb_ g0 hb; replace HK := B_ (Z_ (kw_ w) (KeepBut.of_below hb g none) (.inl rfl)); replace HB := B_ (below_step (bi_ w0) hb); replace HI0 := B_ (IsS66.below (iw_ g) hb); clear hb M0))
   go_loopg [10, 11] kj4 (fun kq v10 v11 w' => ∃ (m0 : List Int) (b0 : Int), v11 = .int .i64 b0 ∧ Aside0 (spec_l04Some.l1 kq a0 j0 m0 b0 d0 r0 s0 = some (r1, r2, r3)) ∧ Aside0 (kq ≤ kj4) ∧ Aside0 (Kd.R (Kd.int .i64) 3 w' w.heap.size (fun k_ => some k_ ≠ (u8 : Value).ownBlock ∧ some k_ ≠ (v10 : Value).ownBlock) v159 a0) ∧ Aside0 (Kd.R (Kd.int .i64) 3 w' w.heap.size (fun k_ => some k_ ≠ (v159 : Value).ownBlock ∧ some k_ ≠ (v10 : Value).ownBlock) u8 j0) ∧ Aside0 (Kd.R (Kd.int .i64) 3 w' w.heap.size (fun k_ => some k_ ≠ (v159 : Value).ownBlock ∧ some k_ ≠ (u8 : Value).ownBlock) v10 m0) ∧ Aside0 (w'.heap[A0]? = some (.cells #[.int .i64 n0, .int .i64 o0, .string p0] 25 (0, 0))) ∧ Aside0 (IsS66 w0 w' g d0 r0 s0) ∧ Aside0 (KeepBut w w' g none) ∧ Aside0 (Below w0.heap.size w0 w'))
   case atStart => exact ⟨(V1), (0), ev_, H', ⟨N_ _⟩, ⟨uR c0.out⟩, ⟨uR e0.out⟩, ⟨uR (O_ q2.out (fun _ hk => ⟨hk.1.2, hk.2⟩))⟩, ⟨uK g0.out⟩, ⟨iw_ g⟩, ⟨kw_ w⟩, ⟨bi_ w0⟩⟩
   case round =>
    clear H'; (try clear c1); (try clear p1); (try clear q1); (try clear hx1); (try clear p2); (try clear c4); (try clear c6); (try clear p6); (try clear c7); (try clear c8); (try clear E0); (try clear L0); (try clear G0); (try clear x1); (try clear y1); (try clear U0); (try clear N1); (try clear V0); (try clear O1); (try clear R1); (try clear U1); (try clear hx16); (try clear X0); (try clear v1); (try clear Q1); (try clear a1); (try clear b1); obtain ⟨m0, b0, rfl, HA, HK2, c0, e0, N0, g0, HI0, HK, HB⟩ := hrel
    cases gk with
    | zero => exact absurd HA.out (by simp [spec_l04Some.l1])
    | succ k2 =>
     have H := HA.out; clear HA; simp only [spec_l04Some.l1] at H; by_cases Y0 : b0 < (a0.length : Int)
     ·rw [G_ Y0] at H; have s2 := C_ Y0; clear Y0; by_cases o1 : 0 ≤ b0
      ·rw [G_ o1] at H; have b3 := C_ o1; clear o1; replace H := M_ H; obtain ⟨e1, A260, H⟩ := H; replace H : (if e1 = true then (if m0.length < 17592186044416 then (spec_l04Some.l1 k2 a0 j0 (m0 ++ [rd a0 b0]) (wrap64 (b0 + 1)) d0 r0 s0) else (none)) else (spec_l04Some.l1 k2 a0 j0 m0 (wrap64 (b0 + 1)) d0 r0 s0)) = some (r1, r2, r3) := H; have A26 := B_ A260; clear A260; by_cases s1 : e1 = true
       ·subst s1; have H1 : (if m0.length < 17592186044416 then (spec_l04Some.l1 k2 a0 j0 (m0 ++ [rd a0 b0]) (wrap64 (b0 + 1)) d0 r0 s0) else (none)) = some (r1, r2, r3) := by rw [G_ rfl] at H; exact H
        clear H; have H := H1; clear H1; by_cases t1 : m0.length < 17592186044416
        ·rw [G_ t1] at H; have t2 := B_ t1; clear t1; obtain ⟨Y1, hy_⟩ : ∃ y_ : List Int, y_ = (m0 ++ [rd a0 b0]) := ⟨_, rfl⟩; replace H : (spec_l04Some.l1 k2 a0 j0 Y1 (wrap64 (b0 + 1)) d0 r0 s0) = some (r1, r2, r3) := hz_
         have u2 := B_ hy_; clear hy_; have H' := B_ H; clear H; obtain ⟨c3, Z1, v2⟩ := Kd.R_slice c0.out; subst v2; have O0 : 0 ≤ (b0 : Int) := od_; have P0 : b0 < (a0.length : Int) := od_; obtain ⟨u1, z1, y2⟩ := U_ (S_ c0.out).2.2 b0 O0 P0
         cases z1; replace O0 := E_ O0; replace P0 := E_ P0; obtain ⟨A1, C1, z2⟩ := Kd.R_slice e0.out; subst z2; go_wp2_with (first | ((with_reducible refine J_ (f := 82) rfl ?_); refine gL_ (some 47) Tryz.func82 #[.slice A1 j0.length C1, .int .i64 (rd a0 b0)] ?_; (with_reducible refine (spec_l03Has.calls k2 _ _ j0 (rd a0 b0) true _ ?side1 ?side2 A26.out).mono ?_); (case side1 => exact uC (S_ e0.out).2.2); (case side2 => exact (S_ e0.out).2.1); rintro e w' ⟨rfl, ⟨nd, rfl⟩⟩; refine ⟨_, rfl, ?_⟩; have D1 : 0 ≤ (b0 : Int) := od_; have E1 : b0 < (a0.length : Int) := od_; obtain ⟨A2, C2, d3⟩ := U_ (S_ c0.out).2.2 b0 D1 E1; obtain rfl : u1 = A2 := (by injection C2); replace D1 := E_ D1; replace E1 := E_ E1) | ((with_reducible refine gate_builtin (b := .append) (xs := #[.tmp 48, .tmp 53]) rfl ?_); (try (refine gate_guard (by rfl) ?_; dsimp only)); at_builtin; refine Kd.R_append (Kd.int .i64) w.heap.size rfl (.tmp 48) (.tmp 53) 26 3 (.int .i64 0) 8 rfl Tryz.underlying26 info3 rfl (by decide) (by omega) u10 m0 (rd a0 b0) [.int .i64 (rd a0 b0)] (fun k_ => some k_ ≠ (.slice (some u1) a0.length Z1 : Value).ownBlock ∧ some k_ ≠ (.slice A1 j0.length C1 : Value).ownBlock) (fun _ => False) rfl rfl ?aP (fun _ hk => hk.elim) ?aF ?aO (A__ _ _) ?aS ?aL ?_; (case aP => exact rfl); (case aF => exact (fun k_ hk => ⟨Kd.fresh' (Kd.R_lt (uR c0.out)) k_ hk, Kd.fresh' (Kd.R_lt (uR e0.out)) k_ hk⟩)); (case aO => exact (uR N0.out)); (case aS => exact (keep_size (w := w) (g := g) (row := none) (kw_ w))); (case aL => have := t2.out; omega); intro v178 e3 ho hb hg hat; rw [← u2.out] at ho; replace c0 := B_ (Kd.R_after (ok := (fun k_ => some k_ ≠ (.slice A1 j0.length C1 : Value).ownBlock)) (uR c0.out) hg hat); replace e0 := B_ (Kd.R_after (ok := (fun k_ => some k_ ≠ (.slice (some u1) a0.length Z1 : Value).ownBlock)) (uR e0.out) hg hat); replace g0 := B_ (blk_grown (uK g0.out) hg (Kd.R_ne N0.out g0.out (by decide))); replace HB := B_ (below_weaken (bi_ w0) HL.out hb); replace HI0 := B_ (IsS66.grown (iw_ g) hg (IsS66.own_ne HI0.out N0.out (by decide))); replace HK := B_ (Z_ (kw_ w) (KeepBut.of_grown hg g) (Kd.R_base2 N0.out)); have D2 := B_ (ho); clear N0; clear ho hb hg hat))
         go_roundg k2
         case measure => have := HJ4.out; have := HK2.out; omega
         case rel => exact ⟨(Y1), (wrap64 (b0 + 1)), ev_, H', ⟨by have := HJ4.out; have := HK2.out; omega⟩, ⟨uR c0.out⟩, ⟨uR e0.out⟩, ⟨uR D2.out⟩, ⟨uK g0.out⟩, ⟨iw_ g⟩, ⟨kw_ w⟩, ⟨bi_ w0⟩⟩
        ·rw [I_ t1] at H; exact absurd H (by simp)
       ·replace s1 := L_ s1; subst s1; have H1 : (spec_l04Some.l1 k2 a0 j0 m0 (wrap64 (b0 + 1)) d0 r0 s0) = some (r1, r2, r3) := by rw [I_ (show ¬ (false = true) by decide)] at H; exact H
        clear H; have H := H1; clear H1; have H' := B_ H; clear H; obtain ⟨g3, j3, E2⟩ := Kd.R_slice c0.out; subst E2; have O0 : 0 ≤ (b0 : Int) := od_; have P0 : b0 < (a0.length : Int) := od_; obtain ⟨u1, z1, y2⟩ := U_ (S_ c0.out).2.2 b0 O0 P0
        cases z1; replace O0 := E_ O0; replace P0 := E_ P0; obtain ⟨G2, J2, L2⟩ := Kd.R_slice e0.out; subst L2; go_wp2_with (first | ((with_reducible refine J_ (f := 82) rfl ?_); refine gL_ (some 47) Tryz.func82 #[.slice G2 j0.length J2, .int .i64 (rd a0 b0)] ?_; (with_reducible refine (spec_l03Has.calls k2 _ _ j0 (rd a0 b0) false _ ?side1 ?side2 A26.out).mono ?_); (case side1 => exact uC (S_ e0.out).2.2); (case side2 => exact (S_ e0.out).2.1); rintro e w' ⟨rfl, ⟨nd, rfl⟩⟩; refine ⟨_, rfl, ?_⟩))
        go_roundg k2
        case measure => have := HJ4.out; have := HK2.out; omega
        case rel => exact ⟨(m0), (wrap64 (b0 + 1)), ev_, H', ⟨by have := HJ4.out; have := HK2.out; omega⟩, ⟨uR c0.out⟩, ⟨uR e0.out⟩, ⟨uR N0.out⟩, ⟨uK g0.out⟩, ⟨iw_ g⟩, ⟨kw_ w⟩, ⟨bi_ w0⟩⟩
      ·rw [I_ o1] at H; exact absurd H (by simp)
     ·rw [I_ Y0] at H; have s2 := K_ Y0; clear Y0; simp only [Option.some.injEq, Prod.mk.injEq] at H; obtain ⟨rfl, rfl, rfl⟩ := H; obtain ⟨l3, m3, M2⟩ := Kd.R_slice c0.out; subst M2; go_wp2; go_ret; exact ⟨_, ew_, by (with_reducible repeat (first | apply Kd.R_alloc | apply Kd.R_drewN | apply Kd.R_drew)); exact O_ N0.out (fun _ hk => trivial), iw_ g, bi_ w0, kw_ w⟩

end Go.Proofs.YtdebpmdbeogglaaGreat.Q
