-- Written by a session's own program (wip/tools/myprint.py) over the kit's printer, out of the translation. Not trusted: Lean checks it.
import Derived.Test.YtdebpmdbeogglaaGreatQ0
-- squeezed
-- renamed
-- squeezed4
namespace Go.Proofs.YtdebpmdbeogglaaGreat.Q
open Go.RowKit Go.Proofs.YtdebpmdbeogglaaGreatW.PrintWords Go.Proofs.YtdebpmdbeogglaaGreatW.PrintLast Go.Proofs.YtdebpmdbeogglaaGreatW.PrintMore
attribute [local go_sem] max2_int min2_int max_two min_two max_three min_three max_four min_four   -- for this text's walks alone
set_option linter.unusedVariables false
set_option linter.unusedSimpArgs false

/-! ### laws_big: function 4 -/
def laws_big.f (l0 : List Int) : Option (Bool) := some (decide ((l0.length : Int) > 1048576))
set_option maxHeartbeats 8000000 in
set_option maxRecDepth 100000 in
theorem laws_big.calls (A0 : Option Addr) (c0 : Nat) (l0 : List Int) (r : Bool) (w : World) (hr0 : Kd.C (Kd.int .u8) w A0 l0.length l0) (hc0 : l0.length ≤ c0) (h : laws_big.f l0 = some r) :
  Calls Tryz.prog 4 #[.slice A0 l0.length c0] w fun e w' => e = .returned (.bool r) ∧ Drawn0 w w' := by
 have a0 := B_ hr0; have HC0 := B_ hc0; clear hr0 hc0; have H : (some (decide ((l0.length : Int) > 1048576))) = some r := h; clear h; obtain rfl := F_ H; go_enter Tryz.func4, Tryz.ntmps4; go_wp2; go_ret; exact ⟨by first | rfl | (simp; done) | (simp [*]; done), by repeat (first | exact R_ _ | apply Q_)⟩

/-- A state of type 66 at block g of W; what its slices lead to came in by w0. -/
def IsS66 (w0 W : World) (g : Nat) (f0 : List Int) (f1 : Int) (f2 : Int) : Prop := ∃ A0 c0, W.heap[g]? = some (.cells #[.slice A0 f0.length c0, .int .i64 f1, .int .i64 f2] 66 (0, 0)) ∧ w0.heap.size ≤ g ∧ Kd.C (Kd.int .u8) w0 A0 f0.length f0
theorem IsS66.grown {w0 W : World} {g : Nat} {f0 : List Int} {f1 : Int} {f2 : Int} {W1 : World} {row : Option Nat} (h : IsS66 w0 W g f0 f1 f2) (hw : W.grownBy W1 row) (hne : some g ≠ row) : IsS66 w0 W1 g f0 f1 f2 := by
 obtain ⟨A0, c0, hb, hg, hr0⟩ := h
 exact ⟨A0, c0, blk_grown hb hw hne, hg, hr0⟩
theorem IsS66.own_neN {w0 W : World} {g : Nat} {f0 : List Int} {f1 : Int} {f2 : Int} {α : Type} {d : Kd α} {e : Nat} {base : Nat} {ok : Nat → Prop} {v : Value} {xs : List α} (h : IsS66 w0 W g f0 f1 f2) (ho : Kd.N d e W base ok v xs) (ht : e ≠ 66) : some g ≠ v.ownBlock := by
 obtain ⟨A0, c0, hb, hg, hr0⟩ := h
 exact Kd.N_ne ho hb ht
theorem IsS66.fresh {w0 W : World} {g : Nat} {f0 : List Int} {f1 : Int} {f2 : Int} (h : IsS66 w0 W g f0 f1 f2) : ∀ k, W.heap.size ≤ k → k ≠ g := by
 obtain ⟨A0, c0, hb, hg, hr0⟩ := h
 exact Kd.freshB hb
theorem IsS66.kept {w0 W : World} {g : Nat} {f0 : List Int} {f1 : Int} {f2 : Int} {W1 : World} {S : Nat → Prop} (h : IsS66 w0 W g f0 f1 f2) (hk : Kept W W1 S) (hne : ¬ S g) : IsS66 w0 W1 g f0 f1 f2 := by
 obtain ⟨A0, c0, hb, hg, hr0⟩ := h
 exact ⟨A0, c0, blk_kept hb hk hne, hg, hr0⟩
theorem IsS66.below {w0 W : World} {g : Nat} {f0 : List Int} {f1 : Int} {f2 : Int} {W1 : World} (h : IsS66 w0 W g f0 f1 f2) (hw : Below W.heap.size W W1) : IsS66 w0 W1 g f0 f1 f2 := h.grown (grown_of_below hw none) (by simp)
theorem IsS66.alloc {w0 W : World} {g : Nat} {f0 : List Int} {f1 : Int} {f2 : Int} (h : IsS66 w0 W g f0 f1 f2) (o : Obj) : IsS66 w0 (W.alloc o) g f0 f1 f2 := h.below (below_alloc (A__ _ _) o)
theorem IsS66.drewN {w0 W : World} {g : Nat} {f0 : List Int} {f1 : Int} {f2 : Int} (h : IsS66 w0 W g f0 f1 f2) (m : Nat) : IsS66 w0 (W.drewN m) g f0 f1 f2 := h
theorem IsS66.drew {w0 W : World} {g : Nat} {f0 : List Int} {f1 : Int} {f2 : Int} (h : IsS66 w0 W g f0 f1 f2) : IsS66 w0 W.drew g f0 f1 f2 := h
theorem IsS66.at_ {w0 W : World} {g : Nat} {f0 : List Int} {f1 : Int} {f2 : Int} {w' : World} {m : Nat} (hq : W.drewN m = w') (h : IsS66 w0 W g f0 f1 f2) : IsS66 w0 w' g f0 f1 f2 := by subst hq; exact IsS66.drewN h m
theorem IsS66.apart {w0 W : World} {g : Nat} {f0 : List Int} {f1 : Int} {f2 : Int} {α : Type} {d : Kd α} {e : Nat} {base : Nat} {ok : Nat → Prop} {v : Value} {xs : List α} (h : IsS66 w0 W g f0 f1 f2) (ho : d.R e W base ok v xs) (ht : ∀ q, q ∈ e :: d.E → q ≠ 66) : d.R e W base (fun k => ok k ∧ k ≠ g) v xs := by
 obtain ⟨A0, c0, hb, hg, hr0⟩ := h
 exact Kd.R_types ho hb ht
theorem IsS66.own_ne {w0 W : World} {g : Nat} {f0 : List Int} {f1 : Int} {f2 : Int} {α : Type} {d : Kd α} {e : Nat} {base : Nat} {ok : Nat → Prop} {v : Value} {xs : List α} (h : IsS66 w0 W g f0 f1 f2) (ho : d.R e W base ok v xs) (ht : e ≠ 66) : some g ≠ v.ownBlock := by
 obtain ⟨A0, c0, hb, hg, hr0⟩ := h
 exact Kd.R_ne ho hb ht
theorem IsS66.apartQ {w0 W : World} {g : Nat} {f0 : List Int} {f1 : Int} {f2 : Int} {α : Type} {d : Kd α} {e : Nat} {base : Nat} {ok : Nat → Prop} {v : Value} {xs : List α} (h : IsS66 w0 W g f0 f1 f2) (ho : d.Q e W base ok v xs) (ht : ∀ q, q ∈ e :: d.E → q ≠ 66) : d.Q e W base (fun k => ok k ∧ k ≠ g) v xs := by
 obtain ⟨A0, c0, hb, hg, hr0⟩ := h
 exact Kd.Q_types ho hb ht
theorem IsS66.own_neQ {w0 W : World} {g : Nat} {f0 : List Int} {f1 : Int} {f2 : Int} {α : Type} {d : Kd α} {e : Nat} {base : Nat} {ok : Nat → Prop} {v : Value} {xs : List α} (h : IsS66 w0 W g f0 f1 f2) (ho : d.Q e W base ok v xs) (ht : e ≠ 66) : some g ≠ v.ownBlock := by
 obtain ⟨A0, c0, hb, hg, hr0⟩ := h
 exact Kd.Q_ne ho hb ht
theorem IsS66.apartS {w0 W : World} {g : Nat} {f0 : List Int} {f1 : Int} {f2 : Int} {α : Type} {d : Kd α} {e : Nat} {base : Nat} {ok : Nat → Prop} {v : Value} {xs : List α} (h : IsS66 w0 W g f0 f1 f2) (ho : d.S e W base ok v xs) (ht : ∀ q, q ∈ e :: d.E → q ≠ 66) : d.S e W base (fun k => ok k ∧ k ≠ g) v xs := by
 obtain ⟨A0, c0, hb, hg, hr0⟩ := h
 exact Kd.S_types ho hb ht
theorem IsS66.own_neS {w0 W : World} {g : Nat} {f0 : List Int} {f1 : Int} {f2 : Int} {α : Type} {d : Kd α} {e : Nat} {base : Nat} {ok : Nat → Prop} {v : Value} {xs : List α} (h : IsS66 w0 W g f0 f1 f2) (ho : d.S e W base ok v xs) (ht : e ≠ 66) : some g ≠ v.ownBlock := by
 obtain ⟨A0, c0, hb, hg, hr0⟩ := h
 exact Kd.S_ne ho hb ht
theorem IsS66.lt {w0 W : World} {g : Nat} {f0 : List Int} {f1 : Int} {f2 : Int} (h : IsS66 w0 W g f0 f1 f2) : g < W.heap.size := by
 obtain ⟨A0, c0, hb, hg, hr0⟩ := h
 exact blk_lt hb
theorem IsS66.ge {w0 W : World} {g : Nat} {f0 : List Int} {f1 : Int} {f2 : Int} (h : IsS66 w0 W g f0 f1 f2) : w0.heap.size ≤ g := by
 obtain ⟨A0, c0, hb, hg, hr0⟩ := h
 exact hg
theorem IsS66.ne_blk {w0 W : World} {g : Nat} {f0 : List Int} {f1 : Int} {f2 : Int} {a : Nat} {cs : Array Value} {t : TypeId} {fr : Nat × Nat} (h : IsS66 w0 W g f0 f1 f2) (hb2 : W.heap[a]? = some (.cells cs t fr)) (ht : t ≠ 66) : g ≠ a := by
 obtain ⟨A0, c0, hb, hg, hr0⟩ := h
 rintro rfl
 rw [hb] at hb2
 injection hb2 with hb2
 injection hb2 with _ ht2
 exact ht ht2.symm
theorem IsS66.far {w0 W : World} {g : Nat} {f0 : List Int} {f1 : Int} {f2 : Int} {p : Addr} (h : IsS66 w0 W g f0 f1 f2) (hne : g ≠ p.block) (u : Value) : IsS66 w0 (W.setCell p u) g f0 f1 f2 := by
 obtain ⟨A0, c0, hb, hg, hr0⟩ := h
 exact ⟨A0, c0, blk_far hb hne u, hg, hr0⟩
theorem cellS66_0 {W : World} {g : Nat} {A0 : Option Addr} {c0 : Nat} {f0 : List Int} {f1 : Int} {f2 : Int} (h : W.heap[g]? = some (.cells #[.slice A0 f0.length c0, .int .i64 f1, .int .i64 f2] 66 (0, 0))) : W.cell? ⟨g, 0, none⟩ = some (.slice A0 f0.length c0) := (blk_cell h 0).trans rfl
theorem cellS66_1 {W : World} {g : Nat} {A0 : Option Addr} {c0 : Nat} {f0 : List Int} {f1 : Int} {f2 : Int} (h : W.heap[g]? = some (.cells #[.slice A0 f0.length c0, .int .i64 f1, .int .i64 f2] 66 (0, 0))) : W.cell? ⟨g, 1, none⟩ = some (.int .i64 f1) := (blk_cell h 1).trans rfl
theorem IsS66.set_1 {w0 W : World} {g : Nat} {f0 : List Int} {f1 : Int} {f2 : Int} (h : IsS66 w0 W g f0 f1 f2) (x : Int) : IsS66 w0 (W.setCell ⟨g, 1, none⟩ (.int .i64 x)) g f0 x f2 := by
 obtain ⟨A0, c0, hb, hg, hr0⟩ := h
 exact ⟨A0, c0, by simpa using blk_set hb 1 (.int .i64 x), hg, hr0⟩
theorem cellS66_2 {W : World} {g : Nat} {A0 : Option Addr} {c0 : Nat} {f0 : List Int} {f1 : Int} {f2 : Int} (h : W.heap[g]? = some (.cells #[.slice A0 f0.length c0, .int .i64 f1, .int .i64 f2] 66 (0, 0))) : W.cell? ⟨g, 2, none⟩ = some (.int .i64 f2) := (blk_cell h 2).trans rfl
theorem IsS66.set_2 {w0 W : World} {g : Nat} {f0 : List Int} {f1 : Int} {f2 : Int} (h : IsS66 w0 W g f0 f1 f2) (x : Int) : IsS66 w0 (W.setCell ⟨g, 2, none⟩ (.int .i64 x)) g f0 f1 x := by
 obtain ⟨A0, c0, hb, hg, hr0⟩ := h
 exact ⟨A0, c0, by simpa using blk_set hb 2 (.int .i64 x), hg, hr0⟩
theorem IsS66.new (w0 W : World) (A0 : Option Addr) (c0 : Nat) (f0 : List Int) (f1 : Int) (f2 : Int) (hB : Below w0.heap.size w0 W) (hr0 : Kd.C (Kd.int .u8) w0 A0 f0.length f0) : IsS66 w0 (W.alloc (.cells #[.slice A0 f0.length c0, .int .i64 f1, .int .i64 f2] 66)) W.heap.size f0 f1 f2 := ⟨A0, c0, by simpa using heap_alloc_new W _, hB.size, hr0⟩
theorem iw_ (g : Nat) {w0 W : World} {f0 : List Int} {f1 : Int} {f2 : Int} (h : IsS66 w0 W g f0 f1 f2 := by repeat (first | (with_reducible first | exact HI0.out | apply IsS66.alloc | apply IsS66.drewN | apply IsS66.drew | apply IsS66.set_1 | apply IsS66.set_2 | refine IsS66.far ?_ (Aside0.out (by assumption)) _) | exact HI0.out)) : IsS66 w0 W g f0 f1 f2 := h
theorem bi_ (w : World) {W : World} (h : Below w.heap.size w W := by repeat (first | (with_reducible first | exact HB.out | apply below_alloc | apply pw_below_drewN | apply below_drew1 | refine below_set ?_ (IsS66.ge HI0.out) | refine below_set ?_ (Aside0.out (by assumption))) | exact HB.out)) : Below w.heap.size w W := h

/-! ### spec_l01Byte: function 67 -/
def spec_l01Byte.f (c0 : List Int) (a0 : Int) (b0 : Int) : Option (Int × Int × Int) := if a0 < (c0.length : Int) then (if 0 ≤ a0 then (some (Go.bits .and .i64 (wrap64 ((Go.bits .and .i64 (Go.bits .xor .i64 ((wrap64 ((wrap64 (b0 * 6364136223846793005)) + 1442695040888963407)) / 8589934592) ((wrap64 ((wrap64 (b0 * 6364136223846793005)) + 1442695040888963407)) / 35184372088832)) 255) + (wrap64 (rd c0 a0)))) 255, wrap64 (a0 + 1), wrap64 ((wrap64 (b0 * 6364136223846793005)) + 1442695040888963407))) else (none)) else (some (Go.bits .and .i64 (Go.bits .xor .i64 ((wrap64 ((wrap64 (b0 * 6364136223846793005)) + 1442695040888963407)) / 8589934592) ((wrap64 ((wrap64 (b0 * 6364136223846793005)) + 1442695040888963407)) / 35184372088832)) 255, a0, wrap64 ((wrap64 (b0 * 6364136223846793005)) + 1442695040888963407)))
set_option maxHeartbeats 8000000 in
set_option maxRecDepth 100000 in
theorem spec_l01Byte.calls (g : Nat) (c0 : List Int) (a0 : Int) (b0 : Int) (r1 : Int) (r2 : Int) (r3 : Int) (w0 w : World) (hI : IsS66 w0 w g c0 a0 b0) (hB : Below w0.heap.size w0 w) (h : spec_l01Byte.f c0 a0 b0 = some (r1, r2, r3)) :
  Calls Tryz.prog 67 #[.pointer (some ⟨g, 0, none⟩)] w fun e w' => e = .returned (.int .i64 r1) ∧ IsS66 w0 w' g c0 r2 r3 ∧ Below w0.heap.size w0 w' ∧ KeepBut w w' g none := by
 have HI0 := B_ hI; have HK := B_ (KeepBut.refl w g none); have HL := B_ hB.size; clear hI; have HW0 := B_ hB.size; have HB := B_ hB; clear hB; have H : (if a0 < (c0.length : Int) then (if 0 ≤ a0 then (some (Go.bits .and .i64 (wrap64 ((Go.bits .and .i64 (Go.bits .xor .i64 ((wrap64 ((wrap64 (b0 * 6364136223846793005)) + 1442695040888963407)) / 8589934592) ((wrap64 ((wrap64 (b0 * 6364136223846793005)) + 1442695040888963407)) / 35184372088832)) 255) + (wrap64 (rd c0 a0)))) 255, wrap64 (a0 + 1), wrap64 ((wrap64 (b0 * 6364136223846793005)) + 1442695040888963407))) else (none)) else (some (Go.bits .and .i64 (Go.bits .xor .i64 ((wrap64 ((wrap64 (b0 * 6364136223846793005)) + 1442695040888963407)) / 8589934592) ((wrap64 ((wrap64 (b0 * 6364136223846793005)) + 1442695040888963407)) / 35184372088832)) 255, a0, wrap64 ((wrap64 (b0 * 6364136223846793005)) + 1442695040888963407)))) = some (r1, r2, r3) := h; clear h; by_cases c2 : a0 < (c0.length : Int)
 ·rw [G_ c2] at H; have j0 := C_ c2; clear c2; by_cases c3 : 0 ≤ a0
  ·rw [G_ c3] at H; have n0 := C_ c3; clear c3; simp only [Option.some.injEq, Prod.mk.injEq] at H; obtain ⟨rfl, rfl, rfl⟩ := H; obtain ⟨ASz4_0, cSz4_0, HGz4, hgz4, HSz4_0⟩ := HI0.out; have o0 := cellS66_0 HGz4; have p0 := cellS66_1 HGz4; have q0 := cellS66_2 HGz4; have r0 := blk_frozen HGz4 1; have s0 := blk_frozen HGz4 2; clear HGz4 hgz4; have e0 : 0 ≤ (a0 : Int) := od_; have g0 : a0 < (c0.length : Int) := od_; obtain ⟨l0, m0, d0⟩ := U_ HSz4_0 a0 e0 g0
   cases m0; have hn101_0 : l0.block ≠ g := Nat.ne_of_lt (Nat.lt_of_lt_of_le (by have := D_ _ _ d0; first | rwa [add_block] at this | exact this) (IsS66.ge HI0.out)); replace d0 := pw_cell_below HB.out d0; replace d0 := (cell_far (p := ⟨g, 2, none⟩) (by first | (rw [add_block]; exact hn101_0) | (show (Addr.add _ _).block ≠ _; rw [add_block]; exact hn101_0) | exact hn101_0) (.int .i64 (wrap64 ((wrap64 (b0 * 6364136223846793005)) + 1442695040888963407)))).trans d0; (try have hy101_0 := fun (n_ : Nat) => (show (((w.drewN n_).setCell ⟨g, 2, none⟩ (.int .i64 (wrap64 ((wrap64 (b0 * 6364136223846793005)) + 1442695040888963407))))).cell? _ = some _ from d0)); clear hn101_0; replace e0 := E_ e0; replace g0 := E_ g0; go_enter Tryz.func67, Tryz.ntmps67; go_wp2
   repeat (go_quiet (fail); try go_wp2)
   go_ret; exact ⟨ew_, iw_ g, bi_ w0, kw_ w⟩
  ·rw [I_ c3] at H; exact absurd H (by simp)
 ·rw [I_ c2] at H; have j0 := K_ c2; clear c2; simp only [Option.some.injEq, Prod.mk.injEq] at H; obtain ⟨rfl, rfl, rfl⟩ := H; obtain ⟨ASz5_0, cSz5_0, HGz5, hgz5, HSz5_0⟩ := HI0.out; have t0 := cellS66_0 HGz5; have u0 := cellS66_1 HGz5; have v0 := cellS66_2 HGz5; have x0 := blk_frozen HGz5 1; have y0 := blk_frozen HGz5 2; clear HGz5 hgz5; go_enter Tryz.func67, Tryz.ntmps67; go_wp2
  repeat (go_quiet (fail); try go_wp2)
  go_ret; exact ⟨ew_, iw_ g, bi_ w0, kw_ w⟩

/-! ### spec_l01Below: function 45 -/
def spec_l01Below.f (a0 : List Int) (d0 : Int) (e0 : Int) (a1 : Int) : Option (Int × Int × Int) := if a1 ≤ 0 then (some (0, d0, e0)) else (if a1 ≤ 256 then ((spec_l01Byte.f a0 d0 e0).bind fun j0 => (if a1 = 0 then (none) else (some (Int.tmod j0.1 a1, j0.2.1, j0.2.2)))) else ((spec_l01Byte.f a0 d0 e0).bind fun l0 => ((spec_l01Byte.f a0 l0.2.1 l0.2.2).bind fun g0 => ((spec_l01Byte.f a0 g0.2.1 g0.2.2).bind fun c0 => ((spec_l01Byte.f a0 c0.2.1 c0.2.2).bind fun b0 => (if a1 = 0 then (none) else (some (Int.tmod (wrap64 ((wrap64 ((wrap64 ((wrap64 (l0.1 * 16777216)) + (wrap64 (g0.1 * 65536)))) + (wrap64 (c0.1 * 256)))) + b0.1)) a1, b0.2.1, b0.2.2))))))))
set_option maxHeartbeats 8000000 in
set_option maxRecDepth 100000 in
theorem spec_l01Below.calls (g : Nat) (a0 : List Int) (d0 : Int) (e0 : Int) (a1 : Int) (r1 : Int) (r2 : Int) (r3 : Int) (w0 w : World) (hI : IsS66 w0 w g a0 d0 e0) (hB : Below w0.heap.size w0 w) (h : spec_l01Below.f a0 d0 e0 a1 = some (r1, r2, r3)) :
  Calls Tryz.prog 45 #[.pointer (some ⟨g, 0, none⟩), .int .i64 a1] w fun e w' => e = .returned (.int .i64 r1) ∧ IsS66 w0 w' g a0 r2 r3 ∧ Below w0.heap.size w0 w' ∧ KeepBut w w' g none := by
 have HI0 := B_ hI; have HK := B_ (KeepBut.refl w g none); have HL := B_ hB.size; clear hI; have HW0 := B_ hB.size; have HB := B_ hB; clear hB; have H : (if a1 ≤ 0 then (some (0, d0, e0)) else (if a1 ≤ 256 then ((spec_l01Byte.f a0 d0 e0).bind fun j0 => (if a1 = 0 then (none) else (some (Int.tmod j0.1 a1, j0.2.1, j0.2.2)))) else ((spec_l01Byte.f a0 d0 e0).bind fun l0 => ((spec_l01Byte.f a0 l0.2.1 l0.2.2).bind fun g0 => ((spec_l01Byte.f a0 g0.2.1 g0.2.2).bind fun c0 => ((spec_l01Byte.f a0 c0.2.1 c0.2.2).bind fun b0 => (if a1 = 0 then (none) else (some (Int.tmod (wrap64 ((wrap64 ((wrap64 ((wrap64 (l0.1 * 16777216)) + (wrap64 (g0.1 * 65536)))) + (wrap64 (c0.1 * 256)))) + b0.1)) a1, b0.2.1, b0.2.2))))))))) = some (r1, r2, r3) := h; clear h; by_cases c3 : a1 ≤ 0
 ·rw [G_ c3] at H; have E0 := C_ c3; clear c3; simp only [Option.some.injEq, Prod.mk.injEq] at H; obtain ⟨rfl, rfl, rfl⟩ := H; go_enter Tryz.func45, Tryz.ntmps45; go_wp2; go_ret; exact ⟨ew_, iw_ g, bi_ w0, kw_ w⟩
 ·rw [I_ c3] at H; have E0 := K_ c3; clear c3; by_cases c4 : a1 ≤ 256
  ·rw [G_ c4] at H; have G0 := C_ c4; clear c4; replace H := M_ H; obtain ⟨⟨x0, y0, z0⟩, A50, H⟩ := H; replace H : (if a1 = 0 then (none) else (some (Int.tmod x0 a1, y0, z0))) = some (r1, r2, r3) := H; have A5 := B_ A50; clear A50; by_cases c6 : a1 = 0
   ·rw [G_ c6] at H; exact absurd H (by simp)
   ·rw [I_ c6] at H; have J0 := P_ c6; have L0 := B__ c6; simp only [Option.some.injEq, Prod.mk.injEq] at H; obtain ⟨rfl, rfl, rfl⟩ := H; go_enter Tryz.func45, Tryz.ntmps45; go_wp2_with (first | ((with_reducible refine J_ (f := 67) rfl ?_); refine gL_ (some 14) Tryz.func67 #[.pointer (some ⟨g, 0, none⟩)] ?_; (with_reducible refine (spec_l01Byte.calls g a0 d0 e0 x0 y0 z0 w0 _ ?side1 ?side2 A5.out).mono ?_); (case side1 => exact iw_ g); (case side2 => exact bi_ w0); rintro e w7 ⟨rfl, hi, hb, hk⟩; refine ⟨_, rfl, ?_⟩; replace HK := B_ (Z_ (kw_ w) hk (.inl rfl)); replace HB := B_ (hb); replace HI0 := B_ (hi); (try clear hb hk hi)))
    go_ret; exact ⟨ew_, iw_ g, bi_ w0, kw_ w⟩
  ·rw [I_ c4] at H; have G0 := K_ c4; clear c4; replace H := M_ H; obtain ⟨⟨m0, p0, q0⟩, A80, H⟩ := H; replace H : ((spec_l01Byte.f a0 p0 q0).bind fun g0 => ((spec_l01Byte.f a0 g0.2.1 g0.2.2).bind fun c0 => ((spec_l01Byte.f a0 c0.2.1 c0.2.2).bind fun b0 => (if a1 = 0 then (none) else (some (Int.tmod (wrap64 ((wrap64 ((wrap64 ((wrap64 (m0 * 16777216)) + (wrap64 (g0.1 * 65536)))) + (wrap64 (c0.1 * 256)))) + b0.1)) a1, b0.2.1, b0.2.2)))))) = some (r1, r2, r3) := H; have A8 := B_ A80; clear A80; replace H := M_ H; obtain ⟨⟨n0, r0, s0⟩, A90, H⟩ := H; replace H : ((spec_l01Byte.f a0 r0 s0).bind fun c0 => ((spec_l01Byte.f a0 c0.2.1 c0.2.2).bind fun b0 => (if a1 = 0 then (none) else (some (Int.tmod (wrap64 ((wrap64 ((wrap64 ((wrap64 (m0 * 16777216)) + (wrap64 (n0 * 65536)))) + (wrap64 (c0.1 * 256)))) + b0.1)) a1, b0.2.1, b0.2.2))))) = some (r1, r2, r3) := H; have A9 := B_ A90; clear A90; replace H := M_ H; obtain ⟨⟨t0, u0, v0⟩, A100, H⟩ := H; replace H : ((spec_l01Byte.f a0 u0 v0).bind fun b0 => (if a1 = 0 then (none) else (some (Int.tmod (wrap64 ((wrap64 ((wrap64 ((wrap64 (m0 * 16777216)) + (wrap64 (n0 * 65536)))) + (wrap64 (t0 * 256)))) + b0.1)) a1, b0.2.1, b0.2.2)))) = some (r1, r2, r3) := H; have A10 := B_ A100; clear A100; replace H := M_ H; obtain ⟨⟨A0, C0, D0⟩, A110, H⟩ := H; replace H : (if a1 = 0 then (none) else (some (Int.tmod (wrap64 ((wrap64 ((wrap64 ((wrap64 (m0 * 16777216)) + (wrap64 (n0 * 65536)))) + (wrap64 (t0 * 256)))) + A0)) a1, C0, D0))) = some (r1, r2, r3) := H; have A11 := B_ A110; clear A110; by_cases o0 : a1 = 0
   ·rw [G_ o0] at H; exact absurd H (by simp)
   ·rw [I_ o0] at H; have M0 := P_ o0; have N0 := B__ o0; simp only [Option.some.injEq, Prod.mk.injEq] at H; obtain ⟨rfl, rfl, rfl⟩ := H; go_enter Tryz.func45, Tryz.ntmps45; go_wp2_with (first | ((with_reducible refine J_ (f := 67) rfl ?_); refine gL_ (some 18) Tryz.func67 #[.pointer (some ⟨g, 0, none⟩)] ?_; (with_reducible refine (spec_l01Byte.calls g a0 d0 e0 m0 p0 q0 w0 _ ?side1 ?side2 A8.out).mono ?_); (case side1 => exact iw_ g); (case side2 => exact bi_ w0); rintro e O0 ⟨rfl, hi, hb, hk⟩; refine ⟨_, rfl, ?_⟩; replace HK := B_ (Z_ (kw_ w) hk (.inl rfl)); replace HB := B_ (hb); replace HI0 := B_ (hi); (try clear hb hk hi)) | ((with_reducible refine J_ (f := 67) rfl ?_); refine gL_ (some 20) Tryz.func67 #[.pointer (some ⟨g, 0, none⟩)] ?_; (with_reducible refine (spec_l01Byte.calls g a0 p0 q0 n0 r0 s0 w0 _ ?side1 ?side2 A9.out).mono ?_); (case side1 => exact iw_ g); (case side2 => exact bi_ w0); rintro e P0 ⟨rfl, hi, hb, hk⟩; refine ⟨_, rfl, ?_⟩; replace HK := B_ (Z_ (kw_ w) hk (.inl rfl)); replace HB := B_ (hb); replace HI0 := B_ (hi); (try clear hb hk hi)) | ((with_reducible refine J_ (f := 67) rfl ?_); refine gL_ (some 22) Tryz.func67 #[.pointer (some ⟨g, 0, none⟩)] ?_; (with_reducible refine (spec_l01Byte.calls g a0 r0 s0 t0 u0 v0 w0 _ ?side1 ?side2 A10.out).mono ?_); (case side1 => exact iw_ g); (case side2 => exact bi_ w0); rintro e Q0 ⟨rfl, hi, hb, hk⟩; refine ⟨_, rfl, ?_⟩; replace HK := B_ (Z_ (kw_ w) hk (.inl rfl)); replace HB := B_ (hb); replace HI0 := B_ (hi); (try clear hb hk hi)) | ((with_reducible refine J_ (f := 67) rfl ?_); refine gL_ (some 24) Tryz.func67 #[.pointer (some ⟨g, 0, none⟩)] ?_; (with_reducible refine (spec_l01Byte.calls g a0 u0 v0 A0 C0 D0 w0 _ ?side1 ?side2 A11.out).mono ?_); (case side1 => exact iw_ g); (case side2 => exact bi_ w0); rintro e R0 ⟨rfl, hi, hb, hk⟩; refine ⟨_, rfl, ?_⟩; replace HK := B_ (Z_ (kw_ w) hk (.inl rfl)); replace HB := B_ (hb); replace HI0 := B_ (hi); (try clear hb hk hi)))
    go_ret; exact ⟨ew_, iw_ g, bi_ w0, kw_ w⟩

/-! ### spec_l02Sized: function 65 -/
mutual
def spec_l02Sized.l0 : Nat → Int → Int → List Int → Int → List Int → Int → Int → Option (Int × Int × ByteArray × Int × Int)
 | 0, _, _, _, _, _, _, _ => none
 | k + 1, x1, x2, x7, x8, p0, z0, A0 => if x8 < (wrap64 (x1 * x2)) then ((spec_l01Below.f p0 z0 A0 8).bind fun n0 => (if n0.1 = 0 then (if x7.length < 140737488355328 then (spec_l02Sized.l0 k x1 x2 (x7 ++ [35]) (wrap64 (x8 + 1)) p0 n0.2.1 n0.2.2) else (none)) else (if n0.1 = 1 then (spec_l02Sized.j1 k x1 x2 x7 x8 n0.1 (n0.1 == 1) p0 n0.2.1 n0.2.2) else (spec_l02Sized.j1 k x1 x2 x7 x8 n0.1 (n0.1 == 2) p0 n0.2.1 n0.2.2)))) else (some (x1, x2, strOfNums x7, z0, A0))
def spec_l02Sized.j1 : Nat → Int → Int → List Int → Int → Int → Bool → List Int → Int → Int → Option (Int × Int × ByteArray × Int × Int)
 | 0, _, _, _, _, _, _, _, _, _ => none
 | k + 1, x1, x2, x7, x8, p1, q1, p0, z0, A0 => if q1 = true then ((spec_l01Below.f p0 z0 A0 3).bind fun t0 => (if x7.length < 140737488355328 then (spec_l02Sized.l0 k x1 x2 (x7 ++ [(wrap64 (65 + t0.1)) % 256]) (wrap64 (x8 + 1)) p0 t0.2.1 t0.2.2) else (none))) else (if p1 = 3 then ((spec_l01Below.f p0 z0 A0 6).bind fun u0 => (if x7.length < 140737488355328 then (spec_l02Sized.l0 k x1 x2 (x7 ++ [(wrap64 (97 + u0.1)) % 256]) (wrap64 (x8 + 1)) p0 u0.2.1 u0.2.2) else (none))) else (if x7.length < 140737488355328 then (spec_l02Sized.l0 k x1 x2 (x7 ++ [46]) (wrap64 (x8 + 1)) p0 z0 A0) else (none)))
end
def spec_l02Sized.f (k : Nat) (a0 : List Int) (q0 : Int) (r0 : Int) (a1 : Int) (a2 : Int) : Option (Int × Int × ByteArray × Int × Int) := spec_l02Sized.l0 k a1 a2 (([] : List Int)) 0 a0 q0 r0
set_option maxHeartbeats 8000000 in
set_option maxRecDepth 100000 in
theorem spec_l02Sized.calls (k : Nat) (g : Nat) (a0 : List Int) (q0 : Int) (r0 : Int) (a1 : Int) (a2 : Int) (r1 : Int) (r2 : Int) (r3 : ByteArray) (r4 : Int) (r5 : Int) (w0 w : World) (hI : IsS66 w0 w g a0 q0 r0) (hB : Below w0.heap.size w0 w) (h : spec_l02Sized.f k a0 q0 r0 a1 a2 = some (r1, r2, r3, r4, r5)) :
  Calls Tryz.prog 65 #[.pointer (some ⟨g, 0, none⟩), .int .i64 a1, .int .i64 a2] w fun e w' => e = .returned (.agg #[.int .i64 r1, .int .i64 r2, .string r3]) ∧ IsS66 w0 w' g a0 r4 r5 ∧ Below w0.heap.size w0 w' ∧ KeepBut w w' g none := by
 have hu25 := Tryz.underlying25; have HI0 := B_ hI; have HK := B_ (KeepBut.refl w g none); have HL := B_ hB.size; clear hI; have HW0 := B_ hB.size; have HB := B_ hB; clear hB; have H : (spec_l02Sized.l0 k a1 a2 (([] : List Int)) 0 a0 q0 r0) = some (r1, r2, r3, r4, r5) := h; clear h; obtain ⟨Y0, hy_⟩ : ∃ y_ : List Int, y_ = (([] : List Int)) := ⟨_, rfl⟩; replace H : (spec_l02Sized.l0 k a1 a2 Y0 0 a0 q0 r0) = some (r1, r2, r3, r4, r5) := hz_
 have Z0 := B_ hy_; clear hy_; have H' := B_ H; clear H; go_enter Tryz.func65, Tryz.ntmps65; go_wp2_with (first | ((with_reducible refine Y_ (N := 6) rfl ?_); refine be_ (N := 6) (cs := #[.int .i64 0, .int .i64 0, .string (⟨#[]⟩ : ByteArray)]) (t := 25) ?_; intro o0 hg w4 hbox hb; replace HB := B_ (below_step (bi_ w0) hb); have b0 := B_ (hbox); have P1 := B_ ((by rw [hg]; exact (keep_size (w := w) (g := g) (row := none) (kw_ w)) : w.heap.size ≤ o0)); have Q1 := B_ ((Nat.le_trans HW0.out (by rw [hg]; exact (keep_size (w := w) (g := g) (row := none) (kw_ w)) : w.heap.size ≤ o0) : w0.heap.size ≤ o0)); replace HK := B_ (Z_ (kw_ w) (KeepBut.of_below hb g none) (.inl rfl)); have s1 := B_ ((by rw [hg]; exact Nat.ne_of_lt (IsS66.lt (show IsS66 w0 _ g a0 q0 r0 from iw_ g)) : g ≠ o0)); have D0 := B_ ((by rw [hg]; exact Nat.ne_of_gt (IsS66.lt (show IsS66 w0 _ g a0 q0 r0 from iw_ g)) : o0 ≠ g)); replace HI0 := B_ (IsS66.below (iw_ g) hb); clear hb hbox hg) | ((with_reducible refine Y_ (N := 9) rfl ?_); refine Kd.R_lit (Kd.int .u8) _ 5 ?hg (N := 9) ?hd (xs := ([] : List Int)) (inner := []) (ok := fun _ => True) (okp := fun _ => True) ?hr ?hp (fun _ hk => hk) trivial (A__ _ _) (N_ _) (by simp) ?_; (case hd => rfl); (case hg => rfl); (case hr => first | (go_simp; done) | (go_simp; rfl)); (case hp => exact (Reps.none _ _)); intro v119 w5 E0 hb hg_ hnew_; clear hg_ hnew_; (first | rw [← Z0.out] at E0 | (simp only [Int.reduceToNat] at E0; rw [← Z0.out] at E0)); have t1 := B_ (Kd.R_lower E0 (keep_size (w := w) (g := g) (row := none) (kw_ w))); replace b0 := kb_ b0 hb; replace HK := B_ (Z_ (kw_ w) (KeepBut.of_below hb g none) (.inl rfl)); replace HB := B_ (below_step (bi_ w0) hb); replace HI0 := B_ (IsS66.below (iw_ g) hb); clear hb E0))
 go_loopg [7, 8] k (fun kq v7 v8 w' => ∃ (c0 : List Int) (e0 : Int) (v0 : Int) (x0 : Int), v8 = .int .i64 e0 ∧ Aside0 (spec_l02Sized.l0 kq a1 a2 c0 e0 a0 v0 x0 = some (r1, r2, r3, r4, r5)) ∧ Aside0 (kq ≤ k) ∧ Aside0 (Kd.R (Kd.int .u8) 5 w' w.heap.size (fun _ => True) v7 c0) ∧ Aside0 (w'.heap[o0]? = some (.cells #[.int .i64 0, .int .i64 0, .string (⟨#[]⟩ : ByteArray)] 25 (0, 0))) ∧ Aside0 (IsS66 w0 w' g a0 v0 x0) ∧ Aside0 (KeepBut w w' g none) ∧ Aside0 (Below w0.heap.size w0 w'))
 case atStart => exact ⟨(Y0), (0), (q0), (r0), ev_, H', ⟨N_ _⟩, ⟨uR t1.out⟩, ⟨uK b0.out⟩, ⟨iw_ g⟩, ⟨kw_ w⟩, ⟨bi_ w0⟩⟩
 case round =>
  clear H'; (try clear p2); (try clear c6); obtain ⟨c0, e0, v0, x0, rfl, HA, HK1, d0, b0, HI0, HK, HB⟩ := hrel
  cases gk with
  | zero => exact absurd HA.out (by simp [spec_l02Sized.l0])
  | succ k1 =>
   have H := HA.out; clear HA; simp only [spec_l02Sized.l0] at H; by_cases c7 : e0 < (wrap64 (a1 * a2))
   ·rw [G_ c7] at H; have b1 := C_ c7; clear c7; replace H := M_ H; obtain ⟨⟨m0, g0, j0⟩, A80, H⟩ := H; replace H : (if m0 = 0 then (if c0.length < 140737488355328 then (spec_l02Sized.l0 k1 a1 a2 (c0 ++ [35]) (wrap64 (e0 + 1)) a0 g0 j0) else (none)) else (if m0 = 1 then (spec_l02Sized.j1 k1 a1 a2 c0 e0 m0 (m0 == 1) a0 g0 j0) else (spec_l02Sized.j1 k1 a1 a2 c0 e0 m0 (m0 == 2) a0 g0 j0))) = some (r1, r2, r3, r4, r5) := H; have A8 := B_ A80; clear A80; by_cases c9 : m0 = 0
    ·rw [G_ c9] at H; have d1 := D__ c9; have e1 := T_ c9; clear c9; by_cases G0 : c0.length < 140737488355328
     ·rw [G_ G0] at H; have u1 := B_ G0; clear G0; obtain ⟨g1, hy_⟩ : ∃ y_ : List Int, y_ = (c0 ++ [35]) := ⟨_, rfl⟩; replace H : (spec_l02Sized.l0 k1 a1 a2 g1 (wrap64 (e0 + 1)) a0 g0 j0) = some (r1, r2, r3, r4, r5) := hz_
      have v1 := B_ hy_; clear hy_; have H' := B_ H; clear H; go_wp2_with (first | ((with_reducible refine J_ (f := 45) rfl ?_); refine gL_ (some 18) Tryz.func45 #[.pointer (some ⟨g, 0, none⟩), .int .i64 8] ?_; (with_reducible refine (spec_l01Below.calls g a0 v0 x0 8 m0 g0 j0 w0 _ ?side1 ?side2 A8.out).mono ?_); (case side1 => exact iw_ g); (case side2 => exact bi_ w0); rintro e R1 ⟨rfl, hi, hb, hk⟩; refine ⟨_, rfl, ?_⟩; replace d0 := B_ (O_ (Kd.R_keep (IsS66.apart (show IsS66 w0 _ g a0 v0 x0 from iw_ g) (uR d0.out) (by decide)) hk (fun _ h => h.2)) (fun _ h => h.1)); replace b0 := B_ (KeepBut.blk hk (g' := o0) (o := .cells #[.int .i64 0, .int .i64 0, .string (⟨#[]⟩ : ByteArray)] 25 (0, 0)) (uK b0.out) D0.out (by simp)); replace HK := B_ (Z_ (kw_ w) hk (.inl rfl)); replace HB := B_ (hb); replace HI0 := B_ (hi); (try clear hb hk hi)) | ((with_reducible refine gate_builtin (b := .append) (xs := #[.tmp 24, .tmp 25]) rfl ?_); at_builtin; refine Kd.R_append (Kd.int .u8) w.heap.size rfl (.tmp 24) (.tmp 25) 22 5 (.int .u8 0) 1 rfl Tryz.underlying22 info5 rfl (by decide) (by omega) u7 c0 35 [.int .u8 35] (fun _ => True) (fun _ => False) rfl rfl ?aP (fun _ hk => hk.elim) ?aF ?aO (A__ _ _) ?aS ?aL ?_; (case aP => exact rfl); (case aF => exact (fun _ _ => trivial)); (case aO => exact (uR d0.out)); (case aS => exact (keep_size (w := w) (g := g) (row := none) (kw_ w))); (case aL => have := u1.out; omega); intro v125 U1 ho hb hg hat; rw [← v1.out] at ho; replace b0 := B_ (blk_grown (uK b0.out) hg (Kd.R_ne d0.out b0.out (by decide))); replace HB := B_ (below_weaken (bi_ w0) HL.out hb); replace HI0 := B_ (IsS66.grown (iw_ g) hg (IsS66.own_ne HI0.out d0.out (by decide))); replace HK := B_ (Z_ (kw_ w) (KeepBut.of_grown hg g) (Kd.R_base2 d0.out)); have y1 := B_ (ho); clear d0; clear ho hb hg hat))
      go_roundg k1
      case measure => have := HK1.out; omega
      case rel => exact ⟨(g1), (wrap64 (e0 + 1)), (g0), (j0), ev_, H', ⟨by have := HK1.out; omega⟩, ⟨uR y1.out⟩, ⟨uK b0.out⟩, ⟨iw_ g⟩, ⟨kw_ w⟩, ⟨bi_ w0⟩⟩
     ·rw [I_ G0] at H; exact absurd H (by simp)
    ·rw [I_ c9] at H; have d1 := P_ c9; have e1 := B__ c9; have HC13 := B_ H; clear H; go_upto_if 27 with (first | ((with_reducible refine J_ (f := 45) rfl ?_); refine gL_ (some 18) Tryz.func45 #[.pointer (some ⟨g, 0, none⟩), .int .i64 8] ?_; (with_reducible refine (spec_l01Below.calls g a0 v0 x0 8 m0 g0 j0 w0 _ ?side1 ?side2 A8.out).mono ?_); (case side1 => exact iw_ g); (case side2 => exact bi_ w0); rintro e V1 ⟨rfl, hi, hb, hk⟩; refine ⟨_, rfl, ?_⟩; replace d0 := B_ (O_ (Kd.R_keep (IsS66.apart (show IsS66 w0 _ g a0 v0 x0 from iw_ g) (uR d0.out) (by decide)) hk (fun _ h => h.2)) (fun _ h => h.1)); replace b0 := B_ (KeepBut.blk hk (g' := o0) (o := .cells #[.int .i64 0, .int .i64 0, .string (⟨#[]⟩ : ByteArray)] 25 (0, 0)) (uK b0.out) D0.out (by simp)); replace HK := B_ (Z_ (kw_ w) hk (.inl rfl)); replace HB := B_ (hb); replace HI0 := B_ (hi); (try clear hb hk hi)))
     (try simp only [Act.put, List.setIfInBounds_toArray, List.set_cons_zero, List.set_cons_succ]); go_cut [27] (fun v27 wc => ∃ (kq : Nat) (M0 : Bool), v27 = .bool M0 ∧ Aside0 (spec_l02Sized.j1 kq a1 a2 c0 e0 m0 M0 a0 g0 j0 = some (r1, r2, r3, r4, r5)) ∧ Aside0 (kq ≤ k1) ∧ Aside0 (Kd.R (Kd.int .u8) 5 wc w.heap.size (fun _ => True) u7 c0) ∧ Aside0 (wc.heap[o0]? = some (.cells #[.int .i64 0, .int .i64 0, .string (⟨#[]⟩ : ByteArray)] 25 (0, 0))) ∧ Aside0 (IsS66 w0 wc g a0 g0 j0) ∧ Aside0 (KeepBut w wc g none) ∧ Aside0 (Below w0.heap.size w0 wc))
     case first =>
      have H := HC13.out; clear HC13; by_cases s0 : m0 = 1
      ·rw [G_ s0] at H; have C0 := D__ s0; have l1 := T_ s0; clear s0; (first | rw [C0] | (simp only [i64_w, i32_w]; rw [C0]) | skip); have H' := B_ H; clear H; go_wp2; go_meet
       case rel => exact ⟨_, ((m0 == 1)), ev_, H', ⟨by have := HK1.out; first | omega | exact N_ _⟩, ⟨uR d0.out⟩, ⟨uK b0.out⟩, ⟨iw_ g⟩, ⟨kw_ w⟩, ⟨bi_ w0⟩⟩
      ·rw [I_ s0] at H; have C0 := P_ s0; have l1 := B__ s0; (first | rw [C0] | (simp only [i64_w, i32_w]; rw [C0]) | skip); have H' := B_ H; clear H; go_wp2; go_meet
       case rel => exact ⟨_, ((m0 == 2)), ev_, H', ⟨by have := HK1.out; first | omega | exact N_ _⟩, ⟨uR d0.out⟩, ⟨uK b0.out⟩, ⟨iw_ g⟩, ⟨kw_ w⟩, ⟨bi_ w0⟩⟩
     case rest =>
      clear HC13; (try clear c1); (try clear p2); (try clear c4); (try clear c6); (try clear p6); (try clear c7); (try clear b1); (try clear c9); (try clear d1); (try clear e1); (try clear G0); (try clear s0); (try clear C0); (try clear l1); obtain ⟨kq, M0, rfl, HA, HJ12, d0, b0, HI0, HK, HB⟩ := hcut
      cases kq with
      | zero => exact absurd HA.out (by simp [spec_l02Sized.j1])
      | succ kj12 =>
       have H := HA.out; clear HA; simp only [spec_l02Sized.j1] at H; by_cases N0 : M0 = true
       ·subst N0; have H1 : ((spec_l01Below.f a0 g0 j0 3).bind fun t0 => (if c0.length < 140737488355328 then (spec_l02Sized.l0 kj12 a1 a2 (c0 ++ [(wrap64 (65 + t0.1)) % 256]) (wrap64 (e0 + 1)) a0 t0.2.1 t0.2.2) else (none))) = some (r1, r2, r3, r4, r5) := by rw [G_ rfl] at H; exact H
        clear H; have H := H1; clear H1; replace H := M_ H; obtain ⟨⟨J0, O0, P0⟩, A170, H⟩ := H; replace H : (if c0.length < 140737488355328 then (spec_l02Sized.l0 kj12 a1 a2 (c0 ++ [(wrap64 (65 + J0)) % 256]) (wrap64 (e0 + 1)) a0 O0 P0) else (none)) = some (r1, r2, r3, r4, r5) := H; have A17 := B_ A170; clear A170; by_cases Q0 : c0.length < 140737488355328
        ·rw [G_ Q0] at H; have z1 := B_ Q0; clear Q0; obtain ⟨m1, hy_⟩ : ∃ y_ : List Int, y_ = (c0 ++ [(wrap64 (65 + J0)) % 256]) := ⟨_, rfl⟩; replace H : (spec_l02Sized.l0 kj12 a1 a2 m1 (wrap64 (e0 + 1)) a0 O0 P0) = some (r1, r2, r3, r4, r5) := hz_
         have A1 := B_ hy_; clear hy_; have H' := B_ H; clear H; go_wp2_with (first | ((with_reducible refine J_ (f := 45) rfl ?_); refine gL_ (some 32) Tryz.func45 #[.pointer (some ⟨g, 0, none⟩), .int .i64 3] ?_; (with_reducible refine (spec_l01Below.calls g a0 g0 j0 3 J0 O0 P0 w0 _ ?side1 ?side2 A17.out).mono ?_); (case side1 => exact iw_ g); (case side2 => exact bi_ w0); rintro e X1 ⟨rfl, hi, hb, hk⟩; refine ⟨_, rfl, ?_⟩; replace d0 := B_ (O_ (Kd.R_keep (IsS66.apart (show IsS66 w0 _ g a0 g0 j0 from iw_ g) (uR d0.out) (by decide)) hk (fun _ h => h.2)) (fun _ h => h.1)); replace b0 := B_ (KeepBut.blk hk (g' := o0) (o := .cells #[.int .i64 0, .int .i64 0, .string (⟨#[]⟩ : ByteArray)] 25 (0, 0)) (uK b0.out) D0.out (by simp)); replace HK := B_ (Z_ (kw_ w) hk (.inl rfl)); replace HB := B_ (hb); replace HI0 := B_ (hi); (try clear hb hk hi)) | ((with_reducible refine gate_builtin (b := .append) (xs := #[.tmp 30, .tmp 35]) rfl ?_); at_builtin; refine Kd.R_append (Kd.int .u8) w.heap.size rfl (.tmp 30) (.tmp 35) 22 5 (.int .u8 0) 1 rfl Tryz.underlying22 info5 rfl (by decide) (by omega) u7 c0 ((wrap64 (65 + J0)) % 256) [.int .u8 ((wrap64 (65 + J0)) % 256)] (fun _ => True) (fun _ => False) rfl rfl ?aP (fun _ hk => hk.elim) ?aF ?aO (A__ _ _) ?aS ?aL ?_; (case aP => exact rfl); (case aF => exact (fun _ _ => trivial)); (case aO => exact (uR d0.out)); (case aS => exact (keep_size (w := w) (g := g) (row := none) (kw_ w))); (case aL => have := z1.out; omega); intro v131 Y1 ho hb hg hat; rw [← A1.out] at ho; replace b0 := B_ (blk_grown (uK b0.out) hg (Kd.R_ne d0.out b0.out (by decide))); replace HB := B_ (below_weaken (bi_ w0) HL.out hb); replace HI0 := B_ (IsS66.grown (iw_ g) hg (IsS66.own_ne HI0.out d0.out (by decide))); replace HK := B_ (Z_ (kw_ w) (KeepBut.of_grown hg g) (Kd.R_base2 d0.out)); have C1 := B_ (ho); clear d0; clear ho hb hg hat))
         go_roundg kj12
         case measure => have := HK1.out; have := HJ12.out; omega
         case rel => exact ⟨(m1), (wrap64 (e0 + 1)), (O0), (P0), ev_, H', ⟨by have := HK1.out; have := HJ12.out; omega⟩, ⟨uR C1.out⟩, ⟨uK b0.out⟩, ⟨iw_ g⟩, ⟨kw_ w⟩, ⟨bi_ w0⟩⟩
        ·rw [I_ Q0] at H; exact absurd H (by simp)
       ·replace N0 := L_ N0; subst N0; have H1 : (if m0 = 3 then ((spec_l01Below.f a0 g0 j0 6).bind fun u0 => (if c0.length < 140737488355328 then (spec_l02Sized.l0 kj12 a1 a2 (c0 ++ [(wrap64 (97 + u0.1)) % 256]) (wrap64 (e0 + 1)) a0 u0.2.1 u0.2.2) else (none))) else (if c0.length < 140737488355328 then (spec_l02Sized.l0 kj12 a1 a2 (c0 ++ [46]) (wrap64 (e0 + 1)) a0 g0 j0) else (none))) = some (r1, r2, r3, r4, r5) := by rw [I_ (show ¬ (false = true) by decide)] at H; exact H
        clear H; have H := H1; clear H1; by_cases y0 : m0 = 3
        ·rw [G_ y0] at H; have D1 := D__ y0; have E1 := T_ y0; clear y0; replace H := M_ H; obtain ⟨⟨L0, R0, U0⟩, A220, H⟩ := H; replace H : (if c0.length < 140737488355328 then (spec_l02Sized.l0 kj12 a1 a2 (c0 ++ [(wrap64 (97 + L0)) % 256]) (wrap64 (e0 + 1)) a0 R0 U0) else (none)) = some (r1, r2, r3, r4, r5) := H; have A22 := B_ A220; clear A220; by_cases V0 : c0.length < 140737488355328
         ·rw [G_ V0] at H; have G1 := B_ V0; clear V0; obtain ⟨n1, hy_⟩ : ∃ y_ : List Int, y_ = (c0 ++ [(wrap64 (97 + L0)) % 256]) := ⟨_, rfl⟩; replace H : (spec_l02Sized.l0 kj12 a1 a2 n1 (wrap64 (e0 + 1)) a0 R0 U0) = some (r1, r2, r3, r4, r5) := hz_
          have J1 := B_ hy_; clear hy_; have H' := B_ H; clear H; go_wp2_with (first | ((with_reducible refine J_ (f := 45) rfl ?_); refine gL_ (some 41) Tryz.func45 #[.pointer (some ⟨g, 0, none⟩), .int .i64 6] ?_; (with_reducible refine (spec_l01Below.calls g a0 g0 j0 6 L0 R0 U0 w0 _ ?side1 ?side2 A22.out).mono ?_); (case side1 => exact iw_ g); (case side2 => exact bi_ w0); rintro e Z1 ⟨rfl, hi, hb, hk⟩; refine ⟨_, rfl, ?_⟩; replace d0 := B_ (O_ (Kd.R_keep (IsS66.apart (show IsS66 w0 _ g a0 g0 j0 from iw_ g) (uR d0.out) (by decide)) hk (fun _ h => h.2)) (fun _ h => h.1)); replace b0 := B_ (KeepBut.blk hk (g' := o0) (o := .cells #[.int .i64 0, .int .i64 0, .string (⟨#[]⟩ : ByteArray)] 25 (0, 0)) (uK b0.out) D0.out (by simp)); replace HK := B_ (Z_ (kw_ w) hk (.inl rfl)); replace HB := B_ (hb); replace HI0 := B_ (hi); (try clear hb hk hi)) | ((with_reducible refine gate_builtin (b := .append) (xs := #[.tmp 39, .tmp 44]) rfl ?_); at_builtin; refine Kd.R_append (Kd.int .u8) w.heap.size rfl (.tmp 39) (.tmp 44) 22 5 (.int .u8 0) 1 rfl Tryz.underlying22 info5 rfl (by decide) (by omega) u7 c0 ((wrap64 (97 + L0)) % 256) [.int .u8 ((wrap64 (97 + L0)) % 256)] (fun _ => True) (fun _ => False) rfl rfl ?aP (fun _ hk => hk.elim) ?aF ?aO (A__ _ _) ?aS ?aL ?_; (case aP => exact rfl); (case aF => exact (fun _ _ => trivial)); (case aO => exact (uR d0.out)); (case aS => exact (keep_size (w := w) (g := g) (row := none) (kw_ w))); (case aL => have := G1.out; omega); intro v137 b2 ho hb hg hat; rw [← J1.out] at ho; replace b0 := B_ (blk_grown (uK b0.out) hg (Kd.R_ne d0.out b0.out (by decide))); replace HB := B_ (below_weaken (bi_ w0) HL.out hb); replace HI0 := B_ (IsS66.grown (iw_ g) hg (IsS66.own_ne HI0.out d0.out (by decide))); replace HK := B_ (Z_ (kw_ w) (KeepBut.of_grown hg g) (Kd.R_base2 d0.out)); have L1 := B_ (ho); clear d0; clear ho hb hg hat))
          go_roundg kj12
          case measure => have := HK1.out; have := HJ12.out; omega
          case rel => exact ⟨(n1), (wrap64 (e0 + 1)), (R0), (U0), ev_, H', ⟨by have := HK1.out; have := HJ12.out; omega⟩, ⟨uR L1.out⟩, ⟨uK b0.out⟩, ⟨iw_ g⟩, ⟨kw_ w⟩, ⟨bi_ w0⟩⟩
         ·rw [I_ V0] at H; exact absurd H (by simp)
        ·rw [I_ y0] at H; have D1 := P_ y0; have E1 := B__ y0; by_cases X0 : c0.length < 140737488355328
         ·rw [G_ X0] at H; have M1 := B_ X0; clear X0; obtain ⟨o1, hy_⟩ : ∃ y_ : List Int, y_ = (c0 ++ [46]) := ⟨_, rfl⟩; replace H : (spec_l02Sized.l0 kj12 a1 a2 o1 (wrap64 (e0 + 1)) a0 g0 j0) = some (r1, r2, r3, r4, r5) := hz_
          have N1 := B_ hy_; clear hy_; have H' := B_ H; clear H; go_wp2_with (first | ((with_reducible refine gate_builtin (b := .append) (xs := #[.tmp 19, .tmp 20]) rfl ?_); at_builtin; refine Kd.R_append (Kd.int .u8) w.heap.size rfl (.tmp 19) (.tmp 20) 22 5 (.int .u8 0) 1 rfl Tryz.underlying22 info5 rfl (by decide) (by omega) u7 c0 46 [.int .u8 46] (fun _ => True) (fun _ => False) rfl rfl ?aP (fun _ hk => hk.elim) ?aF ?aO (A__ _ _) ?aS ?aL ?_; (case aP => exact rfl); (case aF => exact (fun _ _ => trivial)); (case aO => exact (uR d0.out)); (case aS => exact (keep_size (w := w) (g := g) (row := none) (kw_ w))); (case aL => have := M1.out; omega); intro v140 c2 ho hb hg hat; rw [← N1.out] at ho; replace b0 := B_ (blk_grown (uK b0.out) hg (Kd.R_ne d0.out b0.out (by decide))); replace HB := B_ (below_weaken (bi_ w0) HL.out hb); replace HI0 := B_ (IsS66.grown (iw_ g) hg (IsS66.own_ne HI0.out d0.out (by decide))); replace HK := B_ (Z_ (kw_ w) (KeepBut.of_grown hg g) (Kd.R_base2 d0.out)); have O1 := B_ (ho); clear d0; clear ho hb hg hat))
          go_roundg kj12
          case measure => have := HK1.out; have := HJ12.out; omega
          case rel => exact ⟨(o1), (wrap64 (e0 + 1)), (g0), (j0), ev_, H', ⟨by have := HK1.out; have := HJ12.out; omega⟩, ⟨uR O1.out⟩, ⟨uK b0.out⟩, ⟨iw_ g⟩, ⟨kw_ w⟩, ⟨bi_ w0⟩⟩
         ·rw [I_ X0] at H; exact absurd H (by simp)
   ·rw [I_ c7] at H; have b1 := K_ c7; clear c7; simp only [Option.some.injEq, Prod.mk.injEq] at H; obtain ⟨rfl, rfl, rfl, rfl, rfl⟩ := H; have hcv28 := own_string (P := Tryz.prog) Tryz.underlying22 Tryz.underlying5 Tryz.underlying9 (Kd.own_of_R d0.out); have d2 := D0.out; have e2 := s1.out; have g2 := bx3 b0.out; go_wp2; refine bodyPost_ret (results_cell_row rfl _ _ o0 25 #[.int .i64 a1, .int .i64 a2, .string (strOfNums c0)] (0, 0) _ rfl (by (with_reducible repeat (first | refine blk_drewN ?_ _ | refine X_ ?_ | refine blk_alloc ?_ _)); refine blk_put (cs := #[.int .i64 a1, .int .i64 a2, .string (⟨#[]⟩ : ByteArray)]) ?_ 2 _ rfl; (with_reducible repeat (first | refine blk_drewN ?_ _ | refine X_ ?_ | refine blk_alloc ?_ _)); refine blk_put (cs := #[.int .i64 a1, .int .i64 0, .string (⟨#[]⟩ : ByteArray)]) ?_ 1 _ rfl; (with_reducible repeat (first | refine blk_drewN ?_ _ | refine X_ ?_ | refine blk_alloc ?_ _)); refine blk_put (cs := #[.int .i64 0, .int .i64 0, .string (⟨#[]⟩ : ByteArray)]) ?_ 0 _ rfl; (with_reducible repeat (first | refine blk_drewN ?_ _ | refine X_ ?_ | refine blk_alloc ?_ _)); exact b0.out) Tryz.underlying25 rfl (by kernel_rfl)) rfl ?_; exact ⟨ew_, iw_ g, bi_ w0, kw_ w⟩

/-! ### spec_l01In: function 55 -/
def spec_l01In.f (a0 : Int) (a1 : Int) (a2 : Int) : Option (Bool) := if a0 ≥ a1 then (some (decide (a0 ≤ a2))) else (some false)
set_option maxHeartbeats 8000000 in
set_option maxRecDepth 100000 in
theorem spec_l01In.calls (a0 : Int) (a1 : Int) (a2 : Int) (r : Bool) (w : World) (h : spec_l01In.f a0 a1 a2 = some r) :
  Calls Tryz.prog 55 #[.int .i64 a0, .int .i64 a1, .int .i64 a2] w fun e w' => e = .returned (.bool r) ∧ Drawn0 w w' := by
 have H : (if a0 ≥ a1 then (some (decide (a0 ≤ a2))) else (some false)) = some r := h; clear h; by_cases c4 : a0 ≥ a1
 ·rw [G_ c4] at H; have b0 := C_ c4; clear c4; obtain rfl := F_ H; go_enter Tryz.func55, Tryz.ntmps55; go_wp2; go_ret; exact ⟨by first | rfl | (simp; done) | (simp [*]; done), by repeat (first | exact R_ _ | apply Q_)⟩
 ·rw [I_ c4] at H; have b0 := K_ c4; clear c4; obtain rfl := F_ H; go_enter Tryz.func55, Tryz.ntmps55; go_wp2; go_ret; exact ⟨by first | rfl | (simp; done) | (simp [*]; done), by repeat (first | exact R_ _ | apply Q_)⟩

/-! ### spec_l02Kind: function 101 -/
def spec_l02Kind.f (a0 : Int) : Option (Bool) := if a0 = 46 then (some true) else (if a0 = 35 then (some true) else (if a0 ≥ 97 then (if a0 ≤ 102 then (some true) else (if a0 ≥ 65 then (some (decide (a0 ≤ 70))) else (some false))) else (if a0 ≥ 65 then (some (decide (a0 ≤ 70))) else (some false))))
set_option maxHeartbeats 8000000 in
set_option maxRecDepth 100000 in
theorem spec_l02Kind.calls (a0 : Int) (r : Bool) (w : World) (h : spec_l02Kind.f a0 = some r) :
  Calls Tryz.prog 101 #[.int .u8 a0] w fun e w' => e = .returned (.bool r) ∧ Drawn0 w w' := by
 have H : (if a0 = 46 then (some true) else (if a0 = 35 then (some true) else (if a0 ≥ 97 then (if a0 ≤ 102 then (some true) else (if a0 ≥ 65 then (some (decide (a0 ≤ 70))) else (some false))) else (if a0 ≥ 65 then (some (decide (a0 ≤ 70))) else (some false))))) = some r := h; clear h; by_cases c2 : a0 = 46
 ·rw [G_ c2] at H; have b0 := D__ c2; have c0 := T_ c2; clear c2; obtain rfl := F_ H; go_enter Tryz.func101, Tryz.ntmps101; go_wp2; go_ret; exact ⟨by first | rfl | (simp; done) | (simp [*]; done), by repeat (first | exact R_ _ | apply Q_)⟩
 ·rw [I_ c2] at H; have b0 := P_ c2; have c0 := B__ c2; by_cases c3 : a0 = 35
  ·rw [G_ c3] at H; have d0 := D__ c3; have e0 := T_ c3; clear c3; obtain rfl := F_ H; go_enter Tryz.func101, Tryz.ntmps101; go_wp2; go_ret; exact ⟨by first | rfl | (simp; done) | (simp [*]; done), by repeat (first | exact R_ _ | apply Q_)⟩
  ·rw [I_ c3] at H; have d0 := P_ c3; have e0 := B__ c3; by_cases c4 : a0 ≥ 97
   ·rw [G_ c4] at H; have g0 := C_ c4; clear c4; by_cases c5 : a0 ≤ 102
    ·rw [G_ c5] at H; have j0 := C_ c5; clear c5; obtain rfl := F_ H; go_enter Tryz.func101, Tryz.ntmps101; go_wp2; go_ret; exact ⟨by first | rfl | (simp; done) | (simp [*]; done), by repeat (first | exact R_ _ | apply Q_)⟩
    ·rw [I_ c5] at H; have j0 := K_ c5; clear c5; by_cases c6 : a0 ≥ 65
     ·rw [G_ c6] at H; have l0 := C_ c6; clear c6; obtain rfl := F_ H; go_enter Tryz.func101, Tryz.ntmps101; go_wp2; go_ret; exact ⟨by first | rfl | (simp; done) | (simp [*]; done), by repeat (first | exact R_ _ | apply Q_)⟩
     ·rw [I_ c6] at H; have l0 := K_ c6; clear c6; obtain rfl := F_ H; go_enter Tryz.func101, Tryz.ntmps101; go_wp2; go_ret; exact ⟨by first | rfl | (simp; done) | (simp [*]; done), by repeat (first | exact R_ _ | apply Q_)⟩
   ·rw [I_ c4] at H; have g0 := K_ c4; clear c4; by_cases c7 : a0 ≥ 65
    ·rw [G_ c7] at H; have m0 := C_ c7; clear c7; obtain rfl := F_ H; go_enter Tryz.func101, Tryz.ntmps101; go_wp2; go_ret; exact ⟨by first | rfl | (simp; done) | (simp [*]; done), by repeat (first | exact R_ _ | apply Q_)⟩
    ·rw [I_ c7] at H; have m0 := K_ c7; clear c7; obtain rfl := F_ H; go_enter Tryz.func101, Tryz.ntmps101; go_wp2; go_ret; exact ⟨by first | rfl | (simp; done) | (simp [*]; done), by repeat (first | exact R_ _ | apply Q_)⟩

/-! ### spec_GridOk: function 89 -/
mutual
def spec_GridOk.j0 : Nat → Bool → Int → Int → ByteArray → Option (Bool)
 | 0, _, _, _, _ => none
 | k + 1, E0, v0, x0, m0 => if E0 = true then (some false) else (spec_GridOk.l0 k 0 v0 x0 m0)
def spec_GridOk.l0 : Nat → Int → Int → Int → ByteArray → Option (Bool)
 | 0, _, _, _, _ => none
 | k + 1, x3, v0, x0, m0 => if x3 < (m0.size : Int) then (if 0 ≤ x3 then ((spec_l02Kind.f (bt m0 x3)).bind fun y0 => (if y0 = true then (spec_GridOk.l0 k (wrap64 (x3 + 1)) v0 x0 m0) else (some false))) else (none)) else (some true)
end
def spec_GridOk.f (k : Nat) (b0 : Int) (c0 : Int) (a0 : ByteArray) : Option (Bool) := (spec_l01In.f b0 1 8).bind fun n0 => (if n0 = true then ((spec_l01In.f c0 1 8).bind fun o0 => (if o0 = true then (spec_GridOk.j0 k ((a0.size : Int) != (wrap64 (b0 * c0))) b0 c0 a0) else (spec_GridOk.j0 k true b0 c0 a0))) else (spec_GridOk.j0 k true b0 c0 a0))
set_option maxHeartbeats 8000000 in
set_option maxRecDepth 100000 in
theorem spec_GridOk.calls (k : Nat) (b0 : Int) (c0 : Int) (a0 : ByteArray) (r : Bool) (w : World) (h : spec_GridOk.f k b0 c0 a0 = some r) :
  Calls Tryz.prog 89 #[.agg #[.int .i64 b0, .int .i64 c0, .string a0]] w fun e w' => e = .returned (.bool r) ∧ Below w.heap.size w w' := by
 have hu25 := Tryz.underlying25; have HB := B_ (A__ w.heap.size w); have H : ((spec_l01In.f b0 1 8).bind fun n0 => (if n0 = true then ((spec_l01In.f c0 1 8).bind fun o0 => (if o0 = true then (spec_GridOk.j0 k ((a0.size : Int) != (wrap64 (b0 * c0))) b0 c0 a0) else (spec_GridOk.j0 k true b0 c0 a0))) else (spec_GridOk.j0 k true b0 c0 a0))) = some r := h; clear h; have HC2 := B_ H; clear H; go_enter Tryz.func89, Tryz.ntmps89; go_upto_region 1 with (first | ((with_reducible refine Y_ (N := 1) rfl ?_); (try (refine gate_guard (by rfl) ?_; dsimp only)); refine be_ (N := 1) (cs := #[.int .i64 b0, .int .i64 c0, .string a0]) (t := 25) ?_; intro z0 hg w3 hbox hb; have e0 := B_ (hbox); have J0 := B_ ((by rw [hg]; exact (H_ (uB HB.out)) : w.heap.size ≤ z0)); have L0 := ge_ hg HB; replace HB := hB_ HB hb; clear hb hbox hg))
 (try simp only [Act.put, List.setIfInBounds_toArray, List.set_cons_zero, List.set_cons_succ]); go_cut [24] (fun v24 wc => ∃ (kq : Nat) (s0 : Bool), v24 = .bool s0 ∧ Aside0 (spec_GridOk.j0 kq s0 b0 c0 a0 = some r) ∧ Aside0 (kq ≤ k) ∧ Aside0 (wc.heap[z0]? = some (.cells #[.int .i64 b0, .int .i64 c0, .string a0] 25 (0, 0))) ∧ Aside0 (Below w.heap.size w wc))
 case first =>
  have H := HC2.out; clear HC2; obtain ⟨n0, A4, H⟩ := ob_ H; by_cases c5 : n0 = true
  ·subst c5; rw [G_ rfl] at H; obtain ⟨o0, A6, H⟩ := ob_ H; by_cases c7 : o0 = true
   ·subst c7; rw [G_ rfl] at H; have H' := B_ H; clear H; have A0 := bx3 e0.out; go_wp2_with (first | ((with_reducible refine J_ (f := 55) rfl ?_); refine gL_ (some 6) Tryz.func55 #[.int .i64 b0, .int .i64 1, .int .i64 8] ?_; (with_reducible refine (spec_l01In.calls b0 1 8 true _ A4.out).mono ?_); rintro e w' ⟨rfl, ⟨nd, rfl⟩⟩; refine ⟨_, rfl, ?_⟩) | (go_at_call 55; (with_reducible refine (spec_l01In.calls c0 1 8 true _ A6.out).mono ?_); rintro e w' ⟨rfl, ⟨nd, rfl⟩⟩))
    go_meet
    case rel => exact ⟨_, (((a0.size : Int) != (wrap64 (b0 * c0)))), ev_, H', ⟨by first | omega | exact N_ _⟩, ⟨uK e0.out⟩, ⟨uB HB.out⟩⟩
   ·replace c7 := L_ c7; subst c7; rw [I_ (show ¬ (false = true) by decide)] at H; have H' := B_ H; clear H; have C0 := bx3 e0.out; go_wp2_with (first | ((with_reducible refine J_ (f := 55) rfl ?_); refine gL_ (some 6) Tryz.func55 #[.int .i64 b0, .int .i64 1, .int .i64 8] ?_; (with_reducible refine (spec_l01In.calls b0 1 8 true _ A4.out).mono ?_); rintro e w' ⟨rfl, ⟨nd, rfl⟩⟩; refine ⟨_, rfl, ?_⟩) | (go_at_call 55; (with_reducible refine (spec_l01In.calls c0 1 8 false _ A6.out).mono ?_); rintro e w' ⟨rfl, ⟨nd, rfl⟩⟩))
    go_meet
    case rel => exact ⟨_, (true), ev_, H', ⟨by first | omega | exact N_ _⟩, ⟨uK e0.out⟩, ⟨uB HB.out⟩⟩
  ·replace c5 := L_ c5; subst c5; rw [I_ (show ¬ (false = true) by decide)] at H; have H' := B_ H; clear H; have D0 := bx3 e0.out; go_wp2_with (first | ((with_reducible refine J_ (f := 55) rfl ?_); refine gL_ (some 6) Tryz.func55 #[.int .i64 b0, .int .i64 1, .int .i64 8] ?_; (with_reducible refine (spec_l01In.calls b0 1 8 false _ A4.out).mono ?_); rintro e w' ⟨rfl, ⟨nd, rfl⟩⟩; refine ⟨_, rfl, ?_⟩))
   go_meet
   case rel => exact ⟨_, (true), ev_, H', ⟨by first | omega | exact N_ _⟩, ⟨uK e0.out⟩, ⟨uB HB.out⟩⟩
 case rest =>
  clear HC2; (try clear p2); (try clear c5); (try clear p6); (try clear c7); (try clear c8); (try clear D0); (try clear A0); (try clear C0); obtain ⟨kq, s0, rfl, HA, HJ1, e0, HB⟩ := hcut
  cases kq with
  | zero => exact absurd HA.out (by simp [spec_GridOk.j0])
  | succ kj1 =>
   have H := HA.out; clear HA; simp only [spec_GridOk.j0] at H; by_cases p0 : s0 = true
   ·subst p0; rw [G_ rfl] at H; obtain rfl := F_ H; go_wp2; go_ret; exact ⟨ew_, uB HB.out⟩
   ·replace p0 := L_ p0; subst p0; rw [I_ (show ¬ (false = true) by decide)] at H; have H' := B_ H; clear H; go_wp2; go_loopg [3] kj1 (fun kq v3 w' => ∃ (d0 : Int), v3 = .int .i64 d0 ∧ Aside0 (spec_GridOk.l0 kq d0 b0 c0 a0 = some r) ∧ Aside0 (kq ≤ kj1) ∧ Aside0 (w'.heap[z0]? = some (.cells #[.int .i64 b0, .int .i64 c0, .string a0] 25 (0, 0))) ∧ Aside0 (Below w.heap.size w w'))
    case atStart => exact ⟨(0), ev_, H', ⟨N_ _⟩, ⟨uK e0.out⟩, ⟨uB HB.out⟩⟩
    case round =>
     clear H'; (try clear c1); (try clear p2); (try clear c5); (try clear p6); (try clear c7); (try clear c8); (try clear p0); (try clear D0); (try clear A0); (try clear C0); obtain ⟨d0, rfl, HA, HK2, e0, HB⟩ := hrel
     cases gk with
     | zero => exact absurd HA.out (by simp [spec_GridOk.l0])
     | succ k2 =>
      have H := HA.out; clear HA; simp only [spec_GridOk.l0] at H; by_cases g0 : d0 < (a0.size : Int)
      ·rw [G_ g0] at H; have G0 := C_ g0; clear g0; by_cases t0 : 0 ≤ d0
       ·rw [G_ t0] at H; have M0 := C_ t0; clear t0; obtain ⟨y0, A15, H⟩ := ob_ H; by_cases u0 : y0 = true
        ·subst u0; rw [G_ rfl] at H; have H' := B_ H; clear H; have N0 := bx3 e0.out; have q0 : 0 ≤ (d0 : Int) := od_; have r0 : d0 < (a0.size : Int) := od_; have hx14 := bt_at a0 d0; replace q0 := E_ q0; replace r0 := E_ r0; go_wp2_with (first | ((with_reducible refine J_ (f := 101) rfl ?_); refine gL_ (some 36) Tryz.func101 #[.int .u8 (bt a0 d0)] ?_; (with_reducible refine (spec_l02Kind.calls (bt a0 d0) true _ A15.out).mono ?_); rintro e w' ⟨rfl, ⟨nd, rfl⟩⟩; refine ⟨_, rfl, ?_⟩))
         go_roundg k2
         case measure => have := HJ1.out; have := HK2.out; omega
         case rel => exact ⟨(wrap64 (d0 + 1)), ev_, H', ⟨by have := HJ1.out; have := HK2.out; omega⟩, ⟨uK e0.out⟩, ⟨uB HB.out⟩⟩
        ·replace u0 := L_ u0; subst u0; rw [I_ (show ¬ (false = true) by decide)] at H; obtain rfl := F_ H; have O0 := bx3 e0.out; have q0 : 0 ≤ (d0 : Int) := od_; have r0 : d0 < (a0.size : Int) := od_; have hx14 := bt_at a0 d0; replace q0 := E_ q0; replace r0 := E_ r0; go_wp2_with (first | ((with_reducible refine J_ (f := 101) rfl ?_); refine gL_ (some 36) Tryz.func101 #[.int .u8 (bt a0 d0)] ?_; (with_reducible refine (spec_l02Kind.calls (bt a0 d0) false _ A15.out).mono ?_); rintro e w' ⟨rfl, ⟨nd, rfl⟩⟩; refine ⟨_, rfl, ?_⟩))
         go_ret; exact ⟨ew_, uB HB.out⟩
       ·rw [I_ t0] at H; exact absurd H (by simp)
      ·rw [I_ g0] at H; have G0 := K_ g0; clear g0; obtain rfl := F_ H; have P0 := bx3 e0.out; go_wp2; go_ret; exact ⟨ew_, uB HB.out⟩

/-! ### spec_FreeAt: function 83 -/
def spec_FreeAt.f (k : Nat) (b0 : Int) (c0 : Int) (a0 : ByteArray) (a1 : Int) : Option (Bool) := (spec_GridOk.f k b0 c0 a0).bind fun g0 => (if g0 = true then (if a1 ≥ 0 then (if a1 < (a0.size : Int) then (if 0 ≤ a1 then (some ((bt a0 a1) != 35)) else (none)) else (some false)) else (some false)) else (some false))
set_option maxHeartbeats 8000000 in
set_option maxRecDepth 100000 in
theorem spec_FreeAt.calls (k : Nat) (b0 : Int) (c0 : Int) (a0 : ByteArray) (a1 : Int) (r : Bool) (w : World) (h : spec_FreeAt.f k b0 c0 a0 a1 = some r) :
  Calls Tryz.prog 83 #[.agg #[.int .i64 b0, .int .i64 c0, .string a0], .int .i64 a1] w fun e w' => e = .returned (.bool r) ∧ Below w.heap.size w w' := by
 have hu25 := Tryz.underlying25; have HB := B_ (A__ w.heap.size w); have H : ((spec_GridOk.f k b0 c0 a0).bind fun g0 => (if g0 = true then (if a1 ≥ 0 then (if a1 < (a0.size : Int) then (if 0 ≤ a1 then (some ((bt a0 a1) != 35)) else (none)) else (some false)) else (some false)) else (some false))) = some r := h; clear h; obtain ⟨g0, A3, H⟩ := ob_ H; by_cases c4 : g0 = true
 ·subst c4; rw [G_ rfl] at H; by_cases c5 : a1 ≥ 0
  ·rw [G_ c5] at H; have m0 := C_ c5; clear c5; by_cases c6 : a1 < (a0.size : Int)
   ·rw [G_ c6] at H; have n0 := C_ c6; clear c6; by_cases c7 : 0 ≤ a1
    ·rw [G_ c7] at H; have o0 := C_ c7; clear c7; obtain rfl := F_ H; go_enter Tryz.func83, Tryz.ntmps83; go_wp2_with (first | ((with_reducible refine Y_ (N := 2) rfl ?_); (try (refine gate_guard (by rfl) ?_; dsimp only)); refine be_ (N := 2) (cs := #[.int .i64 b0, .int .i64 c0, .string a0]) (t := 25) ?_; intro e0 hg w9 hbox hb; have d0 := B_ (hbox); have j0 := B_ ((by rw [hg]; exact (H_ (uB HB.out)) : w.heap.size ≤ e0)); have l0 := ge_ hg HB; replace HB := hB_ HB hb; clear hb hbox hg; have p0 := bx3 d0.out) | ((with_reducible refine J_ (f := 89) rfl ?_); refine gL_ (some 6) Tryz.func89 #[.agg #[.int .i64 b0, .int .i64 c0, .string a0]] ?_; (with_reducible refine (spec_GridOk.calls k b0 c0 a0 true _ A3.out).mono ?_); rintro e q0 ⟨rfl, hb⟩; refine ⟨_, rfl, ?_⟩; replace d0 := kb_ d0 hb; replace HB := hB_ HB hb; (try clear hb); have r0 := bx3 d0.out; have p8 : 0 ≤ (a1 : Int) := od_; have q8 : a1 < (a0.size : Int) := od_; have hx8 := bt_at a0 a1; replace p8 := E_ p8; replace q8 := E_ q8))
     go_ret; exact ⟨ew_, uB HB.out⟩
    ·rw [I_ c7] at H; exact absurd H (by simp)
   ·rw [I_ c6] at H; have n0 := K_ c6; clear c6; obtain rfl := F_ H; go_enter Tryz.func83, Tryz.ntmps83; go_wp2_with (first | ((with_reducible refine Y_ (N := 2) rfl ?_); (try (refine gate_guard (by rfl) ?_; dsimp only)); refine be_ (N := 2) (cs := #[.int .i64 b0, .int .i64 c0, .string a0]) (t := 25) ?_; intro e0 hg s0 hbox hb; have d0 := B_ (hbox); have j0 := B_ ((by rw [hg]; exact (H_ (uB HB.out)) : w.heap.size ≤ e0)); have l0 := ge_ hg HB; replace HB := hB_ HB hb; clear hb hbox hg; have t0 := bx3 d0.out) | ((with_reducible refine J_ (f := 89) rfl ?_); refine gL_ (some 6) Tryz.func89 #[.agg #[.int .i64 b0, .int .i64 c0, .string a0]] ?_; (with_reducible refine (spec_GridOk.calls k b0 c0 a0 true _ A3.out).mono ?_); rintro e u0 ⟨rfl, hb⟩; refine ⟨_, rfl, ?_⟩; replace d0 := kb_ d0 hb; replace HB := hB_ HB hb; (try clear hb); have v0 := bx3 d0.out))
    go_ret; exact ⟨ew_, uB HB.out⟩
  ·rw [I_ c5] at H; have m0 := K_ c5; clear c5; obtain rfl := F_ H; go_enter Tryz.func83, Tryz.ntmps83; go_wp2_with (first | ((with_reducible refine Y_ (N := 2) rfl ?_); (try (refine gate_guard (by rfl) ?_; dsimp only)); refine be_ (N := 2) (cs := #[.int .i64 b0, .int .i64 c0, .string a0]) (t := 25) ?_; intro e0 hg x0 hbox hb; have d0 := B_ (hbox); have j0 := B_ ((by rw [hg]; exact (H_ (uB HB.out)) : w.heap.size ≤ e0)); have l0 := ge_ hg HB; replace HB := hB_ HB hb; clear hb hbox hg; have y0 := bx3 d0.out) | ((with_reducible refine J_ (f := 89) rfl ?_); refine gL_ (some 6) Tryz.func89 #[.agg #[.int .i64 b0, .int .i64 c0, .string a0]] ?_; (with_reducible refine (spec_GridOk.calls k b0 c0 a0 true _ A3.out).mono ?_); rintro e z0 ⟨rfl, hb⟩; refine ⟨_, rfl, ?_⟩; replace d0 := kb_ d0 hb; replace HB := hB_ HB hb; (try clear hb)))
   go_ret; exact ⟨ew_, uB HB.out⟩
 ·replace c4 := L_ c4; subst c4; rw [I_ (show ¬ (false = true) by decide)] at H; obtain rfl := F_ H; go_enter Tryz.func83, Tryz.ntmps83; go_wp2_with (first | ((with_reducible refine Y_ (N := 2) rfl ?_); (try (refine gate_guard (by rfl) ?_; dsimp only)); refine be_ (N := 2) (cs := #[.int .i64 b0, .int .i64 c0, .string a0]) (t := 25) ?_; intro e0 hg A0 hbox hb; have d0 := B_ (hbox); have j0 := B_ ((by rw [hg]; exact (H_ (uB HB.out)) : w.heap.size ≤ e0)); have l0 := ge_ hg HB; replace HB := hB_ HB hb; clear hb hbox hg; have C0 := bx3 d0.out) | ((with_reducible refine J_ (f := 89) rfl ?_); refine gL_ (some 6) Tryz.func89 #[.agg #[.int .i64 b0, .int .i64 c0, .string a0]] ?_; (with_reducible refine (spec_GridOk.calls k b0 c0 a0 false _ A3.out).mono ?_); rintro e D0 ⟨rfl, hb⟩; refine ⟨_, rfl, ?_⟩; replace d0 := kb_ d0 hb; replace HB := hB_ HB hb; (try clear hb)))
  go_ret; exact ⟨ew_, uB HB.out⟩

end Go.Proofs.YtdebpmdbeogglaaGreat.Q
