-- Written by a session's own program (wip/tools/myprint.py) over the kit's printer, out of the translation. Not trusted: Lean checks it.
import Derived.Test.YtdebpmdbeogglaaGreatQ0
import Derived.Test.YtdebpmdbeogglaaGreatQ7
import Derived.Test.YtdebpmdbeogglaaGreatQ14
-- squeezed
-- renamed
-- squeezed4
namespace Go.Proofs.YtdebpmdbeogglaaGreat.Q
open Go.RowKit Go.Proofs.YtdebpmdbeogglaaGreatW.PrintWords Go.Proofs.YtdebpmdbeogglaaGreatW.PrintLast Go.Proofs.YtdebpmdbeogglaaGreatW.PrintMore
attribute [local go_sem] max2_int min2_int max_two min_two max_three min_three max_four min_four   -- for this text's walks alone
set_option linter.unusedVariables false
set_option linter.unusedSimpArgs false

/-! ### impl_GridOk: function 80 -/
mutual
def impl_GridOk.j0 : Nat → Bool → Int → Int → ByteArray → Option (Bool)
 | 0, _, _, _, _ => none
 | k + 1, Y0, q0, r0, o0 => if Y0 = true then (some false) else (impl_GridOk.l0 k 0 q0 r0 o0)
def impl_GridOk.l0 : Nat → Int → Int → Int → ByteArray → Option (Bool)
 | 0, _, _, _, _ => none
 | k + 1, x3, q0, r0, o0 => if x3 < (o0.size : Int) then (if 0 ≤ x3 then (if (bt o0 x3) = 46 then (impl_GridOk.l0 k (wrap64 (x3 + 1)) q0 r0 o0) else (if (bt o0 x3) = 35 then (impl_GridOk.l0 k (wrap64 (x3 + 1)) q0 r0 o0) else (if (bt o0 x3) < 97 then (if (bt o0 x3) < 65 then (some false) else (if (bt o0 x3) > 70 then (some false) else (impl_GridOk.l0 k (wrap64 (x3 + 1)) q0 r0 o0))) else (if (bt o0 x3) > 102 then (if (bt o0 x3) < 65 then (some false) else (if (bt o0 x3) > 70 then (some false) else (impl_GridOk.l0 k (wrap64 (x3 + 1)) q0 r0 o0))) else (impl_GridOk.l0 k (wrap64 (x3 + 1)) q0 r0 o0))))) else (none)) else (some true)
end
def impl_GridOk.f (k : Nat) (e0 : Int) (g0 : Int) (a0 : ByteArray) : Option (Bool) := if e0 < 1 then (impl_GridOk.j0 k true e0 g0 a0) else (if e0 > 8 then (impl_GridOk.j0 k true e0 g0 a0) else (if g0 < 1 then (impl_GridOk.j0 k true e0 g0 a0) else (if g0 > 8 then (impl_GridOk.j0 k true e0 g0 a0) else (impl_GridOk.j0 k ((a0.size : Int) != (wrap64 (e0 * g0))) e0 g0 a0))))
set_option maxHeartbeats 8000000 in
set_option maxRecDepth 100000 in
theorem impl_GridOk.calls (k : Nat) (e0 : Int) (g0 : Int) (a0 : ByteArray) (r : Bool) (w : World) (h : impl_GridOk.f k e0 g0 a0 = some r) :
  Calls Tryz.prog 80 #[.agg #[.int .i64 e0, .int .i64 g0, .string a0]] w fun e w' => e = .returned (.bool r) ∧ Below w.heap.size w w' := by
 have hu25 := Tryz.underlying25; have HB := B_ (A__ w.heap.size w); have H : (if e0 < 1 then (impl_GridOk.j0 k true e0 g0 a0) else (if e0 > 8 then (impl_GridOk.j0 k true e0 g0 a0) else (if g0 < 1 then (impl_GridOk.j0 k true e0 g0 a0) else (if g0 > 8 then (impl_GridOk.j0 k true e0 g0 a0) else (impl_GridOk.j0 k ((a0.size : Int) != (wrap64 (e0 * g0))) e0 g0 a0))))) = some r := h; clear h; have HC2 := B_ H; clear H; go_enter Tryz.func80, Tryz.ntmps80; go_upto_region 1 with (first | ((with_reducible refine Y_ (N := 1) rfl ?_); (try (refine gate_guard (by rfl) ?_; dsimp only)); refine be_ (N := 1) (cs := #[.int .i64 e0, .int .i64 g0, .string a0]) (t := 25) ?_; intro M0 hg w3 hbox hb; have d0 := B_ (hbox); have p1 := B_ ((by rw [hg]; exact (H_ (uB HB.out)) : w.heap.size ≤ M0)); have q1 := ge_ hg HB; replace HB := hB_ HB hb; clear hb hbox hg))
 (try simp only [Act.put, List.setIfInBounds_toArray, List.set_cons_zero, List.set_cons_succ]); go_cut [33] (fun v33 wc => ∃ (kq : Nat) (J0 : Bool), v33 = .bool J0 ∧ Aside0 (impl_GridOk.j0 kq J0 e0 g0 a0 = some r) ∧ Aside0 (kq ≤ k) ∧ Aside0 (wc.heap[M0]? = some (.cells #[.int .i64 e0, .int .i64 g0, .string a0] 25 (0, 0))) ∧ Aside0 (Below w.heap.size w wc))
 case first =>
  have H := HC2.out; clear HC2; by_cases c4 : e0 < 1
  ·rw [G_ c4] at H; have s0 := C_ c4; clear c4; (first | rw [s0] | (simp only [i64_w, i32_w]; rw [s0]) | skip); have H' := B_ H; clear H; have Q0 := bx3 d0.out; go_wp2; go_meet
   case rel => exact ⟨_, (true), ev_, H', ⟨by first | omega | exact N_ _⟩, ⟨uK d0.out⟩, ⟨uB HB.out⟩⟩
  ·rw [I_ c4] at H; have s0 := K_ c4; clear c4; (first | rw [s0] | (simp only [i64_w, i32_w]; rw [s0]) | skip); by_cases c6 : e0 > 8
   ·rw [G_ c6] at H; have N0 := C_ c6; clear c6; have H' := B_ H; clear H; have R0 := bx3 d0.out; go_wp2; go_meet
    case rel => exact ⟨_, (true), ev_, H', ⟨by first | omega | exact N_ _⟩, ⟨uK d0.out⟩, ⟨uB HB.out⟩⟩
   ·rw [I_ c6] at H; have N0 := K_ c6; clear c6; by_cases c8 : g0 < 1
    ·rw [G_ c8] at H; have O0 := C_ c8; clear c8; have H' := B_ H; clear H; have U0 := bx3 d0.out; go_wp2; go_meet
     case rel => exact ⟨_, (true), ev_, H', ⟨by first | omega | exact N_ _⟩, ⟨uK d0.out⟩, ⟨uB HB.out⟩⟩
    ·rw [I_ c8] at H; have O0 := K_ c8; clear c8; by_cases p0 : g0 > 8
     ·rw [G_ p0] at H; have P0 := C_ p0; clear p0; have H' := B_ H; clear H; have V0 := bx3 d0.out; go_wp2; go_meet
      case rel => exact ⟨_, (true), ev_, H', ⟨by first | omega | exact N_ _⟩, ⟨uK d0.out⟩, ⟨uB HB.out⟩⟩
     ·rw [I_ p0] at H; have P0 := K_ p0; clear p0; have H' := B_ H; clear H; have X0 := bx3 d0.out; go_wp2; go_meet
      case rel => exact ⟨_, (((a0.size : Int) != (wrap64 (e0 * g0)))), ev_, H', ⟨by first | omega | exact N_ _⟩, ⟨uK d0.out⟩, ⟨uB HB.out⟩⟩
 case rest =>
  clear HC2; (try clear c1); (try clear p2); (try clear c4); (try clear s0); (try clear c6); (try clear N0); (try clear p6); (try clear c8); (try clear O0); (try clear p0); (try clear P0); (try clear V0); (try clear X0); (try clear Q0); (try clear R0); (try clear U0); obtain ⟨kq, J0, rfl, HA, HJ1, d0, HB⟩ := hcut
  cases kq with
  | zero => exact absurd HA.out (by simp [impl_GridOk.j0])
  | succ kj1 =>
   have H := HA.out; clear HA; simp only [impl_GridOk.j0] at H; by_cases G0 : J0 = true
   ·subst G0; rw [G_ rfl] at H; obtain rfl := F_ H; go_wp2; go_ret; exact ⟨ew_, uB HB.out⟩
   ·replace G0 := L_ G0; subst G0; rw [I_ (show ¬ (false = true) by decide)] at H; have H' := B_ H; clear H; go_wp2; go_loopg [3] kj1 (fun kq v3 w' => ∃ (b0 : Int), v3 = .int .i64 b0 ∧ Aside0 (impl_GridOk.l0 kq b0 e0 g0 a0 = some r) ∧ Aside0 (kq ≤ kj1) ∧ Aside0 (w'.heap[M0]? = some (.cells #[.int .i64 e0, .int .i64 g0, .string a0] 25 (0, 0))) ∧ Aside0 (Below w.heap.size w w'))
    case atStart => exact ⟨(0), ev_, H', ⟨N_ _⟩, ⟨uK d0.out⟩, ⟨uB HB.out⟩⟩
    case round =>
     clear H'; (try clear c1); (try clear p2); (try clear c4); (try clear s0); (try clear c6); (try clear N0); (try clear p6); (try clear c8); (try clear O0); (try clear p0); (try clear P0); (try clear G0); (try clear V0); (try clear X0); (try clear Q0); (try clear R0); (try clear U0); obtain ⟨b0, rfl, HA, HK2, d0, HB⟩ := hrel
     cases gk with
     | zero => exact absurd HA.out (by simp [impl_GridOk.l0])
     | succ k2 =>
      have H := HA.out; clear HA; simp only [impl_GridOk.l0] at H; by_cases v0 : b0 < (a0.size : Int)
      ·rw [G_ v0] at H; have Z0 := C_ v0; clear v0; by_cases L0 : 0 ≤ b0
       ·rw [G_ L0] at H; have r1 := C_ L0; clear L0; by_cases t0 : (bt a0 b0) = 46
        ·rw [G_ t0] at H; have a1 := D__ t0; have b1 := T_ t0; clear t0; have H' := B_ H; clear H; have s1 := bx3 d0.out; have m0 : 0 ≤ (b0 : Int) := od_; have n0 : b0 < (a0.size : Int) := od_; have hx16 := bt_at a0 b0; replace m0 := E_ m0; replace n0 := E_ n0; go_wp2; go_roundg k2
         case measure => have := HJ1.out; have := HK2.out; omega
         case rel => exact ⟨(wrap64 (b0 + 1)), ev_, H', ⟨by have := HJ1.out; have := HK2.out; omega⟩, ⟨uK d0.out⟩, ⟨uB HB.out⟩⟩
        ·rw [I_ t0] at H; have a1 := P_ t0; have b1 := B__ t0; by_cases u0 : (bt a0 b0) = 35
         ·rw [G_ u0] at H; have d1 := D__ u0; have e1 := T_ u0; clear u0; have H' := B_ H; clear H; have t1 := bx3 d0.out; have m0 : 0 ≤ (b0 : Int) := od_; have n0 : b0 < (a0.size : Int) := od_; have hx16 := bt_at a0 b0; replace m0 := E_ m0; replace n0 := E_ n0; go_wp2; go_roundg k2
          case measure => have := HJ1.out; have := HK2.out; omega
          case rel => exact ⟨(wrap64 (b0 + 1)), ev_, H', ⟨by have := HJ1.out; have := HK2.out; omega⟩, ⟨uK d0.out⟩, ⟨uB HB.out⟩⟩
         ·rw [I_ u0] at H; have d1 := P_ u0; have e1 := B__ u0; by_cases x0 : (bt a0 b0) < 97
          ·rw [G_ x0] at H; have g1 := C_ x0; clear x0; by_cases y0 : (bt a0 b0) < 65
           ·rw [G_ y0] at H; have j1 := C_ y0; clear y0; obtain rfl := F_ H; have u1 := bx3 d0.out; have m0 : 0 ≤ (b0 : Int) := od_; have n0 : b0 < (a0.size : Int) := od_; have hx16 := bt_at a0 b0; replace m0 := E_ m0; replace n0 := E_ n0; go_wp2; go_ret; exact ⟨ew_, uB HB.out⟩
           ·rw [I_ y0] at H; have j1 := K_ y0; clear y0; by_cases z0 : (bt a0 b0) > 70
            ·rw [G_ z0] at H; have l1 := C_ z0; clear z0; obtain rfl := F_ H; have v1 := bx3 d0.out; have m0 : 0 ≤ (b0 : Int) := od_; have n0 : b0 < (a0.size : Int) := od_; have hx16 := bt_at a0 b0; replace m0 := E_ m0; replace n0 := E_ n0; go_wp2; go_ret; exact ⟨ew_, uB HB.out⟩
            ·rw [I_ z0] at H; have l1 := K_ z0; clear z0; have H' := B_ H; clear H; have x1 := bx3 d0.out; have m0 : 0 ≤ (b0 : Int) := od_; have n0 : b0 < (a0.size : Int) := od_; have hx16 := bt_at a0 b0; replace m0 := E_ m0; replace n0 := E_ n0; go_wp2; go_roundg k2
             case measure => have := HJ1.out; have := HK2.out; omega
             case rel => exact ⟨(wrap64 (b0 + 1)), ev_, H', ⟨by have := HJ1.out; have := HK2.out; omega⟩, ⟨uK d0.out⟩, ⟨uB HB.out⟩⟩
          ·rw [I_ x0] at H; have g1 := K_ x0; clear x0; by_cases C0 : (bt a0 b0) > 102
           ·rw [G_ C0] at H; have m1 := C_ C0; clear C0; by_cases D0 : (bt a0 b0) < 65
            ·rw [G_ D0] at H; have n1 := C_ D0; clear D0; obtain rfl := F_ H; have y1 := bx3 d0.out; have m0 : 0 ≤ (b0 : Int) := od_; have n0 : b0 < (a0.size : Int) := od_; have hx16 := bt_at a0 b0; replace m0 := E_ m0; replace n0 := E_ n0; go_wp2; go_ret; exact ⟨ew_, uB HB.out⟩
            ·rw [I_ D0] at H; have n1 := K_ D0; clear D0; by_cases E0 : (bt a0 b0) > 70
             ·rw [G_ E0] at H; have o1 := C_ E0; clear E0; obtain rfl := F_ H; have z1 := bx3 d0.out; have m0 : 0 ≤ (b0 : Int) := od_; have n0 : b0 < (a0.size : Int) := od_; have hx16 := bt_at a0 b0; replace m0 := E_ m0; replace n0 := E_ n0; go_wp2; go_ret; exact ⟨ew_, uB HB.out⟩
             ·rw [I_ E0] at H; have o1 := K_ E0; clear E0; have H' := B_ H; clear H; have A1 := bx3 d0.out; have m0 : 0 ≤ (b0 : Int) := od_; have n0 : b0 < (a0.size : Int) := od_; have hx16 := bt_at a0 b0; replace m0 := E_ m0; replace n0 := E_ n0; go_wp2; go_roundg k2
              case measure => have := HJ1.out; have := HK2.out; omega
              case rel => exact ⟨(wrap64 (b0 + 1)), ev_, H', ⟨by have := HJ1.out; have := HK2.out; omega⟩, ⟨uK d0.out⟩, ⟨uB HB.out⟩⟩
           ·rw [I_ C0] at H; have m1 := K_ C0; clear C0; have H' := B_ H; clear H; have C1 := bx3 d0.out; have m0 : 0 ≤ (b0 : Int) := od_; have n0 : b0 < (a0.size : Int) := od_; have hx16 := bt_at a0 b0; replace m0 := E_ m0; replace n0 := E_ n0; go_wp2; go_roundg k2
            case measure => have := HJ1.out; have := HK2.out; omega
            case rel => exact ⟨(wrap64 (b0 + 1)), ev_, H', ⟨by have := HJ1.out; have := HK2.out; omega⟩, ⟨uK d0.out⟩, ⟨uB HB.out⟩⟩
       ·rw [I_ L0] at H; exact absurd H (by simp)
      ·rw [I_ v0] at H; have Z0 := K_ v0; clear v0; obtain rfl := F_ H; have D1 := bx3 d0.out; go_wp2; go_ret; exact ⟨ew_, uB HB.out⟩

/-! ### slices.ContainsFunc with areFree's literal: a cell that is not free -/
def hof_areFree.p (s : ByteArray) (c : Int) : Bool := !(decide (0 ≤ c) && (decide (c < (s.size : Int)) && (bt s c != 35)))
def hof_areFree.f (l0 : List Int) (_a _b : Int) (s : ByteArray) : Option Bool := some (l0.any (hof_areFree.p s))
theorem hof_areFree.free (a b : Int) (s : ByteArray) (c : Int) : impl_isFree.f a b s c = some (!(hof_areFree.p s c)) := by
 unfold impl_isFree.f hof_areFree.p
 by_cases h1 : c ≥ 0
 ·by_cases h2 : c < (s.size : Int)
  ·rw [G_ h1, G_ h2, G_ h1]; simp [h1, h2]
  ·rw [G_ h1, I_ h2]; simp [h2]
 ·rw [I_ h1]; simp; intro h; omega
theorem hof_areFree.tells (a b : Int) (s : ByteArray) (B : Nat) (l : List Int) (w : World) (hB : w.heap[B]? = some (.cells #[.int .i64 a, .int .i64 b, .string s] 25 (0, 0))) :
  Tells 88 #[.pointer (some ⟨B, 0, none⟩)] (Value.int .i64) (hof_areFree.p s) l w := by
 intro W c _ hb
 have hB2 : W.heap[B]? = some (.cells #[.int .i64 a, .int .i64 b, .string s] 25 (0, 0)) := (hb.block B (blk_lt hB)).trans hB
 have hc0 : W.cell? ⟨B, 0, none⟩ = some (.int .i64 a) := blk_cell hB2 0
 have hc1 : W.cell? ⟨B, 1, none⟩ = some (.int .i64 b) := blk_cell hB2 1
 have hc2 : W.cell? ⟨B, 2, none⟩ = some (.string s) := blk_cell hB2 2
 have hu := Tryz.underlying25
 have HF := B_ (hof_areFree.free a b s c)
 clear hB hB2 hb
 show Calls Tryz.prog 88 #[.int .i64 c, .pointer (some ⟨B, 0, none⟩)] W _
 generalize hq : hof_areFree.p s c = q at HF
 clear hq
 go_enter Tryz.func88, Tryz.ntmps88
 go_wp2_with (go_at_call 61; refine (impl_isFree.calls a b s c (!q) _ HF.out).mono ?_; rintro e w' ⟨rfl, hb⟩)
 go_ret
 exact ⟨by cases q <;> rfl, hb⟩
theorem hof_areFree.calls (A0 : Option Addr) (c0 : Nat) (l0 : List Int) (a b : Int) (s : ByteArray) (B : Nat) (r : Bool) (w : World) (hr0 : Kd.C (Kd.int .i64) w A0 l0.length l0) (hc0 : l0.length ≤ c0)
  (hb : w.heap[B]? = some (.cells #[.int .i64 a, .int .i64 b, .string s] 25 (0, 0))) (h : hof_areFree.f l0 a b s = some r) :
  Calls Tryz.prog 41 #[.slice A0 l0.length c0, .func (.func 88) #[] #[.pointer (some ⟨B, 0, none⟩)]] w fun e w' => e = .returned (.bool r) ∧ Below w.heap.size w w' := by
 obtain rfl := F_ h; have eg : ∀ args w, (callFunc 88 args).run Tryz.prog w = .ok (.enter 88 args) w := entersOf Tryz.func88 (by kernel_rfl) rfl; exact containsFunc_int (hof_areFree.p s) _ _ eg A0 c0 l0 w hr0 hc0 (hof_areFree.tells a b s B l0 w hb)

/-! ### impl_areFree: function 78 -/
def impl_areFree.f (k : Nat) (a0 : Int) (b0 : Int) (c0 : ByteArray) (l1 : List Int) : Option (Bool) := (impl_GridOk.f k a0 b0 c0).bind fun e0 => (if e0 = true then ((hof_areFree.f l1 a0 b0 c0).bind fun g0 => (some (!g0))) else (some false))
set_option maxHeartbeats 8000000 in
set_option maxRecDepth 100000 in
theorem impl_areFree.calls (k : Nat) (a0 : Int) (b0 : Int) (c0 : ByteArray) (A1 : Option Addr) (c1 : Nat) (l1 : List Int) (r : Bool) (w : World) (hr1 : Kd.C (Kd.int .i64) w A1 l1.length l1) (hc1 : l1.length ≤ c1) (h : impl_areFree.f k a0 b0 c0 l1 = some r) :
  Calls Tryz.prog 78 #[.agg #[.int .i64 a0, .int .i64 b0, .string c0], .slice A1 l1.length c1] w fun e w' => e = .returned (.bool r) ∧ Below w.heap.size w w' := by
 have hu25 := Tryz.underlying25; have l0 := B_ hr1; have HC1 := B_ hc1; clear hr1 hc1; have HB := B_ (A__ w.heap.size w); have H : ((impl_GridOk.f k a0 b0 c0).bind fun e0 => (if e0 = true then ((hof_areFree.f l1 a0 b0 c0).bind fun g0 => (some (!g0))) else (some false))) = some r := h; clear h; obtain ⟨e0, A3, H⟩ := ob_ H; by_cases c4 : e0 = true
 ·subst c4; rw [G_ rfl] at H; obtain ⟨g0, A5, H⟩ := ob_ H; obtain rfl := F_ H; go_enter Tryz.func78, Tryz.ntmps78; go_wp2_with (first | ((with_reducible refine Y_ (N := 2) rfl ?_); refine be_ (N := 2) (cs := #[.int .i64 a0, .int .i64 b0, .string c0]) (t := 25) ?_; intro j0 hg w6 hbox hb; have d0 := B_ (hbox); have m0 := B_ ((by rw [hg]; exact (H_ (uB HB.out)) : w.heap.size ≤ j0)); have n0 := ge_ hg HB; replace HB := hB_ HB hb; clear hb hbox hg; have o0 := bx3 d0.out) | ((with_reducible refine J_ (f := 80) rfl ?_); refine gL_ (some 6) Tryz.func80 #[.agg #[.int .i64 a0, .int .i64 b0, .string c0]] ?_; (with_reducible refine (impl_GridOk.calls k a0 b0 c0 true _ A3.out).mono ?_); rintro e w8 ⟨rfl, hb⟩; refine ⟨_, rfl, ?_⟩; replace d0 := kb_ d0 hb; replace HB := hB_ HB hb; (try clear hb)) | (go_at_call 41; (with_reducible refine (hof_areFree.calls _ _ l1 a0 b0 c0 _ g0 _ ?side1 ?side2 (by exact (uK d0.out)) A5.out).mono ?_); (case side1 => exact cu_ l0 HB); (case side2 => exact HC1.out); rintro e w9 ⟨rfl, hb⟩; replace d0 := kb_ d0 hb; replace HB := hB_ HB hb; (try clear hb)))
  go_ret; exact ⟨ew_, uB HB.out⟩
 ·replace c4 := L_ c4; subst c4; rw [I_ (show ¬ (false = true) by decide)] at H; obtain rfl := F_ H; go_enter Tryz.func78, Tryz.ntmps78; go_wp2_with (first | ((with_reducible refine Y_ (N := 2) rfl ?_); refine be_ (N := 2) (cs := #[.int .i64 a0, .int .i64 b0, .string c0]) (t := 25) ?_; intro j0 hg p0 hbox hb; have d0 := B_ (hbox); have m0 := B_ ((by rw [hg]; exact (H_ (uB HB.out)) : w.heap.size ≤ j0)); have n0 := ge_ hg HB; replace HB := hB_ HB hb; clear hb hbox hg; have q0 := bx3 d0.out) | ((with_reducible refine J_ (f := 80) rfl ?_); refine gL_ (some 6) Tryz.func80 #[.agg #[.int .i64 a0, .int .i64 b0, .string c0]] ?_; (with_reducible refine (impl_GridOk.calls k a0 b0 c0 false _ A3.out).mono ?_); rintro e r0 ⟨rfl, hb⟩; refine ⟨_, rfl, ?_⟩; replace d0 := kb_ d0 hb; replace HB := hB_ HB hb; (try clear hb)))
  go_ret; exact ⟨ew_, uB HB.out⟩

/-! ### impl_isAscending: function 79 -/
def impl_isAscending.l0 : Nat → List Int → Int → Option (Bool)
 | 0, _, _ => none
 | k + 1, x0, x3 => if x3 < (x0.length : Int) then (if 0 ≤ (wrap64 (x3 - 1)) then (if (wrap64 (x3 - 1)) < (x0.length : Int) then (if 0 ≤ x3 then (if (rd x0 (wrap64 (x3 - 1))) ≥ (rd x0 x3) then (some false) else (impl_isAscending.l0 k x0 (wrap64 (x3 + 1)))) else (none)) else (none)) else (none)) else (some true)
def impl_isAscending.f (k : Nat) (l0 : List Int) : Option (Bool) := impl_isAscending.l0 k l0 1
set_option maxHeartbeats 8000000 in
set_option maxRecDepth 100000 in
theorem impl_isAscending.calls (k : Nat) (A0 : Option Addr) (c0 : Nat) (l0 : List Int) (r : Bool) (w : World) (hr0 : Kd.C (Kd.int .i64) w A0 l0.length l0) (hc0 : l0.length ≤ c0) (h : impl_isAscending.f k l0 = some r) :
  Calls Tryz.prog 79 #[.slice A0 l0.length c0] w fun e w' => e = .returned (.bool r) ∧ Drawn0 w w' := by
 have j0 := B_ hr0; have HC0 := B_ hc0; clear hr0 hc0; have H : (impl_isAscending.l0 k l0 1) = some r := h; clear h; have H' := B_ H; clear H; go_enter Tryz.func79, Tryz.ntmps79; go_wp2
 repeat (go_quiet (fail); try go_wp2)
 go_loopg [3] k (fun kq v3 w' => ∃ (a0 : Int), v3 = .int .i64 a0 ∧ Aside0 (impl_isAscending.l0 kq l0 a0 = some r) ∧ Aside0 (kq ≤ k) ∧ Drawn0 w w')
 case atStart => exact ⟨(1), ev_, H', ⟨N_ _⟩, by repeat (first | exact R_ _ | apply Q_)⟩
 case round =>
  clear H'; obtain ⟨a0, rfl, HA, HK1, ⟨m1, rfl⟩⟩ := hrel
  cases gk with
  | zero => exact absurd HA.out (by simp [impl_isAscending.l0])
  | succ k1 =>
   have H := HA.out; clear HA; simp only [impl_isAscending.l0] at H; by_cases c2 : a0 < (l0.length : Int)
   ·rw [G_ c2] at H; have q0 := C_ c2; clear c2; obtain ⟨ji3, hji3⟩ : ∃ j_ : Int, (wrap64 (a0 - 1)) = j_ := ⟨_, rfl⟩; replace H : (if 0 ≤ (ji3) then (if (ji3) < (l0.length : Int) then (if 0 ≤ a0 then (if (rd l0 (ji3)) ≥ (rd l0 a0) then (some false) else (impl_isAscending.l0 k1 l0 (wrap64 (a0 + 1)))) else (none)) else (none)) else (none)) = some r := by first | (rw [hji3] at H; exact H) | (simp only [hji3] at H ⊢; exact H)
    have hji3w : (IntKind.i64.wrap (a0 - 1)) = ji3 := (i64_w _).trans hji3; by_cases c4 : 0 ≤ (ji3)
    ·rw [G_ c4] at H; have u0 := C_ c4; clear c4; by_cases c5 : (ji3) < (l0.length : Int)
     ·rw [G_ c5] at H; have v0 := C_ c5; clear c5; by_cases c6 : 0 ≤ a0
      ·rw [G_ c6] at H; have y0 := C_ c6; clear c6; by_cases c7 : (rd l0 (ji3)) ≥ (rd l0 a0)
       ·rw [G_ c7] at H; have r0 := C_ c7; clear c7; obtain rfl := F_ H; have b0 : 0 ≤ ((ji3) : Int) := od_; have d0 : (ji3) < (l0.length : Int) := od_; obtain ⟨m0, n0, s0⟩ := U_ j0.out (ji3) b0 d0
        cases n0; replace b0 := E_ b0; replace d0 := E_ d0; have e0 : 0 ≤ (a0 : Int) := od_; have g0 : a0 < (l0.length : Int) := od_; obtain ⟨o0, p0, t0⟩ := U_ j0.out a0 e0 g0; obtain rfl : m0 = o0 := (by injection p0); replace e0 := E_ e0; replace g0 := E_ g0; go_wp2
        repeat (go_quiet (fail); try go_wp2)
        go_ret; exact ⟨by first | rfl | (simp; done) | (simp only [← hji3] <;> (first | rfl | simp)) | (simp [*]; done), by repeat (first | exact R_ _ | apply Q_)⟩
       ·rw [I_ c7] at H; have r0 := K_ c7; clear c7; have H' := B_ H; clear H; have b0 : 0 ≤ ((ji3) : Int) := od_; have d0 : (ji3) < (l0.length : Int) := od_; obtain ⟨m0, n0, s0⟩ := U_ j0.out (ji3) b0 d0
        cases n0; replace b0 := E_ b0; replace d0 := E_ d0; have e0 : 0 ≤ (a0 : Int) := od_; have g0 : a0 < (l0.length : Int) := od_; obtain ⟨o0, p0, t0⟩ := U_ j0.out a0 e0 g0; obtain rfl : m0 = o0 := (by injection p0); replace e0 := E_ e0; replace g0 := E_ g0; go_wp2
        repeat (go_quiet (fail); try go_wp2)
        go_roundg k1
        case measure => have := HK1.out; omega
        case rel => exact ⟨(wrap64 (a0 + 1)), ev_, H', ⟨by have := HK1.out; omega⟩, by repeat (first | exact R_ _ | apply Q_)⟩
      ·rw [I_ c6] at H; exact absurd H (by simp)
     ·rw [I_ c5] at H; exact absurd H (by simp)
    ·rw [I_ c4] at H; exact absurd H (by simp)
   ·rw [I_ c2] at H; have q0 := K_ c2; clear c2; obtain rfl := F_ H; go_wp2
    repeat (go_quiet (fail); try go_wp2)
    go_ret; exact ⟨by first | rfl | (simp; done) | (simp [*]; done), by repeat (first | exact R_ _ | apply Q_)⟩

/-! ### impl_isAsked: function 59 -/
def impl_isAsked.j0 : Nat → List Int → List Int → Bool → Option (Bool)
 | 0, _, _, _ => none
 | k + 1, x1, x2, y0 => if y0 = true then (some false) else ((impl_isAscending.f k x1).bind fun t0 => (if t0 = true then ((impl_isAscending.f k x2).bind fun u0 => (if u0 = true then (some (decide ((x2.length : Int) ≤ (x1.length : Int)))) else (some false))) else (some false)))
def impl_isAsked.f (k : Nat) (b0 : Int) (c0 : Int) (d0 : ByteArray) (l1 : List Int) (l2 : List Int) : Option (Bool) := (impl_areFree.f k b0 c0 d0 l1).bind fun m0 => (if m0 = true then ((impl_areFree.f k b0 c0 d0 l2).bind fun n0 => (if n0 = true then (if (l1.length : Int) < 1 then (impl_isAsked.j0 k l1 l2 true) else (impl_isAsked.j0 k l1 l2 (decide ((l1.length : Int) > 10)))) else (impl_isAsked.j0 k l1 l2 true))) else (impl_isAsked.j0 k l1 l2 true))
set_option maxHeartbeats 8000000 in
set_option maxRecDepth 100000 in
theorem impl_isAsked.calls (k : Nat) (b0 : Int) (c0 : Int) (d0 : ByteArray) (A1 : Option Addr) (c1 : Nat) (l1 : List Int) (A2 : Option Addr) (c2 : Nat) (l2 : List Int) (r : Bool) (w : World) (hr1 : Kd.C (Kd.int .i64) w A1 l1.length l1) (hc1 : l1.length ≤ c1) (hr2 : Kd.C (Kd.int .i64) w A2 l2.length l2) (hc2 : l2.length ≤ c2) (h : impl_isAsked.f k b0 c0 d0 l1 l2 = some r) :
  Calls Tryz.prog 59 #[.agg #[.int .i64 b0, .int .i64 c0, .string d0], .slice A1 l1.length c1, .slice A2 l2.length c2] w fun e w' => e = .returned (.bool r) ∧ Below w.heap.size w w' := by
 have hu25 := Tryz.underlying25; have e0 := B_ hr1; have HC1 := B_ hc1; clear hr1 hc1; have o0 := B_ hr2; have HC2 := B_ hc2; clear hr2 hc2; have HB := B_ (A__ w.heap.size w); have H : ((impl_areFree.f k b0 c0 d0 l1).bind fun m0 => (if m0 = true then ((impl_areFree.f k b0 c0 d0 l2).bind fun n0 => (if n0 = true then (if (l1.length : Int) < 1 then (impl_isAsked.j0 k l1 l2 true) else (impl_isAsked.j0 k l1 l2 (decide ((l1.length : Int) > 10)))) else (impl_isAsked.j0 k l1 l2 true))) else (impl_isAsked.j0 k l1 l2 true))) = some r := h; clear h; have HC4 := B_ H; clear H; go_enter Tryz.func59, Tryz.ntmps59; go_upto_region 1 with (first | ((with_reducible refine Y_ (N := 3) rfl ?_); (try (refine gate_guard (by rfl) ?_; dsimp only)); refine be_ (N := 3) (cs := #[.int .i64 b0, .int .i64 c0, .string d0]) (t := 25) ?_; intro v0 hg w5 hbox hb; have a0 := B_ (hbox); have L0 := B_ ((by rw [hg]; exact (H_ (uB HB.out)) : w.heap.size ≤ v0)); have M0 := ge_ hg HB; replace HB := hB_ HB hb; clear hb hbox hg))
 (try simp only [Act.put, List.setIfInBounds_toArray, List.set_cons_zero, List.set_cons_succ]); go_cut [26] (fun v26 wc => ∃ (kq : Nat) (p0 : Bool), v26 = .bool p0 ∧ Aside0 (impl_isAsked.j0 kq l1 l2 p0 = some r) ∧ Aside0 (kq ≤ k) ∧ Aside0 (wc.heap[v0]? = some (.cells #[.int .i64 b0, .int .i64 c0, .string d0] 25 (0, 0))) ∧ Aside0 (Below w.heap.size w wc))
 case first =>
  have H := HC4.out; clear HC4; obtain ⟨m0, A6, H⟩ := ob_ H; by_cases c7 : m0 = true
  ·subst c7; rw [G_ rfl] at H; obtain ⟨n0, A8, H⟩ := ob_ H; by_cases c9 : n0 = true
   ·subst c9; rw [G_ rfl] at H; by_cases g0 : (l1.length : Int) < 1
    ·rw [G_ g0] at H; have l0 := C_ g0; have x0 : decide (l1.length < 1) = true := C_ (by omega); clear g0; (first | rw [l0] | (simp only [i64_w, i32_w]; rw [l0]) | skip); have H' := B_ H; clear H; have z0 := bx3 a0.out; go_wp2_with (first | ((with_reducible refine J_ (f := 78) rfl ?_); refine gL_ (some 9) Tryz.func78 #[.agg #[.int .i64 b0, .int .i64 c0, .string d0], .slice A1 l1.length c1] ?_; (with_reducible refine (impl_areFree.calls k b0 c0 d0 _ _ l1 true _ ?side1 ?side2 A6.out).mono ?_); (case side1 => exact cu_ e0 HB); (case side2 => exact HC1.out); rintro e N0 ⟨rfl, hb⟩; refine ⟨_, rfl, ?_⟩; replace a0 := kb_ a0 hb; replace HB := hB_ HB hb; (try clear hb); have A0 := bx3 a0.out) | (go_at_call 78; (with_reducible refine (impl_areFree.calls k b0 c0 d0 _ _ l2 true _ ?side1 ?side2 A8.out).mono ?_); (case side1 => exact cu_ o0 HB); (case side2 => exact HC2.out); rintro e O0 ⟨rfl, hb⟩; replace a0 := kb_ a0 hb; replace HB := hB_ HB hb; (try clear hb)))
     go_meet
     case rel => exact ⟨_, (true), ev_, H', ⟨by first | omega | exact N_ _⟩, ⟨uK a0.out⟩, ⟨uB HB.out⟩⟩
    ·rw [I_ g0] at H; have l0 := K_ g0; have x0 : decide (l1.length < 1) = false := K_ (by omega); clear g0; (first | rw [l0] | (simp only [i64_w, i32_w]; rw [l0]) | skip); have H' := B_ H; clear H; have C0 := bx3 a0.out; go_wp2_with (first | ((with_reducible refine J_ (f := 78) rfl ?_); refine gL_ (some 9) Tryz.func78 #[.agg #[.int .i64 b0, .int .i64 c0, .string d0], .slice A1 l1.length c1] ?_; (with_reducible refine (impl_areFree.calls k b0 c0 d0 _ _ l1 true _ ?side1 ?side2 A6.out).mono ?_); (case side1 => exact cu_ e0 HB); (case side2 => exact HC1.out); rintro e P0 ⟨rfl, hb⟩; refine ⟨_, rfl, ?_⟩; replace a0 := kb_ a0 hb; replace HB := hB_ HB hb; (try clear hb); have D0 := bx3 a0.out) | (go_at_call 78; (with_reducible refine (impl_areFree.calls k b0 c0 d0 _ _ l2 true _ ?side1 ?side2 A8.out).mono ?_); (case side1 => exact cu_ o0 HB); (case side2 => exact HC2.out); rintro e Q0 ⟨rfl, hb⟩; replace a0 := kb_ a0 hb; replace HB := hB_ HB hb; (try clear hb)))
     go_meet
     case rel => exact ⟨_, (decide ((l1.length : Int) > 10)), ev_, H', ⟨by first | omega | exact N_ _⟩, ⟨uK a0.out⟩, ⟨uB HB.out⟩⟩
   ·replace c9 := L_ c9; subst c9; rw [I_ (show ¬ (false = true) by decide)] at H; have H' := B_ H; clear H; have E0 := bx3 a0.out; go_wp2_with (first | ((with_reducible refine J_ (f := 78) rfl ?_); refine gL_ (some 9) Tryz.func78 #[.agg #[.int .i64 b0, .int .i64 c0, .string d0], .slice A1 l1.length c1] ?_; (with_reducible refine (impl_areFree.calls k b0 c0 d0 _ _ l1 true _ ?side1 ?side2 A6.out).mono ?_); (case side1 => exact cu_ e0 HB); (case side2 => exact HC1.out); rintro e R0 ⟨rfl, hb⟩; refine ⟨_, rfl, ?_⟩; replace a0 := kb_ a0 hb; replace HB := hB_ HB hb; (try clear hb); have G0 := bx3 a0.out) | (go_at_call 78; (with_reducible refine (impl_areFree.calls k b0 c0 d0 _ _ l2 false _ ?side1 ?side2 A8.out).mono ?_); (case side1 => exact cu_ o0 HB); (case side2 => exact HC2.out); rintro e U0 ⟨rfl, hb⟩; replace a0 := kb_ a0 hb; replace HB := hB_ HB hb; (try clear hb)))
    go_meet
    case rel => exact ⟨_, (true), ev_, H', ⟨by first | omega | exact N_ _⟩, ⟨uK a0.out⟩, ⟨uB HB.out⟩⟩
  ·replace c7 := L_ c7; subst c7; rw [I_ (show ¬ (false = true) by decide)] at H; have H' := B_ H; clear H; have J0 := bx3 a0.out; go_wp2_with (first | ((with_reducible refine J_ (f := 78) rfl ?_); refine gL_ (some 9) Tryz.func78 #[.agg #[.int .i64 b0, .int .i64 c0, .string d0], .slice A1 l1.length c1] ?_; (with_reducible refine (impl_areFree.calls k b0 c0 d0 _ _ l1 false _ ?side1 ?side2 A6.out).mono ?_); (case side1 => exact cu_ e0 HB); (case side2 => exact HC1.out); rintro e V0 ⟨rfl, hb⟩; refine ⟨_, rfl, ?_⟩; replace a0 := kb_ a0 hb; replace HB := hB_ HB hb; (try clear hb)))
   go_meet
   case rel => exact ⟨_, (true), ev_, H', ⟨by first | omega | exact N_ _⟩, ⟨uK a0.out⟩, ⟨uB HB.out⟩⟩
 case rest =>
  clear HC4; (try clear c1); (try clear c2); (try clear p2); (try clear c5); (try clear c7); (try clear c9); (try clear g0); (try clear l0); (try clear x0); (try clear z0); (try clear A0); (try clear C0); (try clear D0); (try clear E0); (try clear G0); (try clear J0); obtain ⟨kq, p0, rfl, HA, HJ3, a0, HB⟩ := hcut
  cases kq with
  | zero => exact absurd HA.out (by simp [impl_isAsked.j0])
  | succ kj3 =>
   have H := HA.out; clear HA; simp only [impl_isAsked.j0] at H; by_cases q0 : p0 = true
   ·subst q0; rw [G_ rfl] at H; obtain rfl := F_ H; go_wp2; go_ret; exact ⟨ew_, uB HB.out⟩
   ·replace q0 := L_ q0; subst q0; rw [I_ (show ¬ (false = true) by decide)] at H; obtain ⟨t0, A26, H⟩ := ob_ H; by_cases r0 : t0 = true
    ·subst r0; rw [G_ rfl] at H; obtain ⟨u0, A28, H⟩ := ob_ H; by_cases s0 : u0 = true
     ·subst s0; rw [G_ rfl] at H; obtain rfl := F_ H; go_wp2_with (first | ((with_reducible refine J_ (f := 79) rfl ?_); refine gL_ (some 28) Tryz.func79 #[.slice A1 l1.length c1] ?_; (with_reducible refine (impl_isAscending.calls kj3 _ _ l1 true _ ?side1 ?side2 A26.out).mono ?_); (case side1 => exact cu_ e0 HB); (case side2 => exact HC1.out); rintro e w' ⟨rfl, ⟨nd, rfl⟩⟩; refine ⟨_, rfl, ?_⟩) | (go_at_call 79; (with_reducible refine (impl_isAscending.calls kj3 _ _ l2 true _ ?side1 ?side2 A28.out).mono ?_); (case side1 => repeat (first | exact (Kd.C_below o0.out (uB HB.out)) | (with_reducible refine Kd.C_alloc ?_ _) | (with_reducible refine Kd.C_drewN ?_ _) | (with_reducible refine Kd.C_drew ?_))); (case side2 => exact HC2.out); rintro e w' ⟨rfl, ⟨nd, rfl⟩⟩))
      go_ret; exact ⟨ew_, uB HB.out⟩
     ·replace s0 := L_ s0; subst s0; rw [I_ (show ¬ (false = true) by decide)] at H; obtain rfl := F_ H; go_wp2_with (first | ((with_reducible refine J_ (f := 79) rfl ?_); refine gL_ (some 28) Tryz.func79 #[.slice A1 l1.length c1] ?_; (with_reducible refine (impl_isAscending.calls kj3 _ _ l1 true _ ?side1 ?side2 A26.out).mono ?_); (case side1 => exact cu_ e0 HB); (case side2 => exact HC1.out); rintro e w' ⟨rfl, ⟨nd, rfl⟩⟩; refine ⟨_, rfl, ?_⟩) | (go_at_call 79; (with_reducible refine (impl_isAscending.calls kj3 _ _ l2 false _ ?side1 ?side2 A28.out).mono ?_); (case side1 => repeat (first | exact (Kd.C_below o0.out (uB HB.out)) | (with_reducible refine Kd.C_alloc ?_ _) | (with_reducible refine Kd.C_drewN ?_ _) | (with_reducible refine Kd.C_drew ?_))); (case side2 => exact HC2.out); rintro e w' ⟨rfl, ⟨nd, rfl⟩⟩))
      go_ret; exact ⟨ew_, uB HB.out⟩
    ·replace r0 := L_ r0; subst r0; rw [I_ (show ¬ (false = true) by decide)] at H; obtain rfl := F_ H; go_wp2_with (first | ((with_reducible refine J_ (f := 79) rfl ?_); refine gL_ (some 28) Tryz.func79 #[.slice A1 l1.length c1] ?_; (with_reducible refine (impl_isAscending.calls kj3 _ _ l1 false _ ?side1 ?side2 A26.out).mono ?_); (case side1 => exact cu_ e0 HB); (case side2 => exact HC1.out); rintro e w' ⟨rfl, ⟨nd, rfl⟩⟩; refine ⟨_, rfl, ?_⟩))
     go_ret; exact ⟨ew_, uB HB.out⟩

end Go.Proofs.YtdebpmdbeogglaaGreat.Q
