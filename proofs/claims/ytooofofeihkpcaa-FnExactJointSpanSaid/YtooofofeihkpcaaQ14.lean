-- Written by a session's own program (wip/tools/myprint.py) over the kit's printer, out of the translation. Not trusted: Lean checks it.
import Derived.Test.YtooofofeihkpcaaQ0
-- squeezed
namespace Go.Proofs.Ytooofofeihkpcaa.Q
open Go.RowKit Go.Proofs.YtooofofeihkpcaaW.PrintWords Go.Proofs.YtooofofeihkpcaaW.PrintLast Go.Proofs.YtooofofeihkpcaaW.PrintMore
attribute [local go_sem] max2_int min2_int max_two min_two max_three min_three max_four min_four   -- for this text's walks alone
set_option linter.unusedVariables false
set_option linter.unusedSimpArgs false

/-! ### bits_Mul32: function 118 -/
def bits_Mul32.f (a0 : Int) (a1 : Int) : Option (Int × Int) := some (((IntKind.u64.wrap ((IntKind.u64.wrap (a0)) * (IntKind.u64.wrap (a1)))) / 4294967296) % 4294967296, (IntKind.u64.wrap ((IntKind.u64.wrap (a0)) * (IntKind.u64.wrap (a1)))) % 4294967296)
set_option maxHeartbeats 8000000 in
set_option maxRecDepth 100000 in
theorem bits_Mul32.calls (a0 : Int) (a1 : Int) (r1 : Int) (r2 : Int) (w : World) (h : bits_Mul32.f a0 a1 = some (r1, r2)) :
  Calls Try.prog 118 #[.int .u32 a0, .int .u32 a1] w fun e w' => e = .returned (.tuple #[.int .u32 r1, .int .u32 r2]) ∧ Drawn0 w w' := by
 have H : (some (((IntKind.u64.wrap ((IntKind.u64.wrap (a0)) * (IntKind.u64.wrap (a1)))) / 4294967296) % 4294967296, (IntKind.u64.wrap ((IntKind.u64.wrap (a0)) * (IntKind.u64.wrap (a1)))) % 4294967296)) = some (r1, r2) := h; clear h; simp only [Option.some.injEq, Prod.mk.injEq] at H; obtain ⟨rfl, rfl⟩ := H; go_enter Try.func118, Try.ntmps118; go_wp2; go_ret2; exact ⟨by first | rfl | (simp; done) | (simp [*]; done), by repeat (first | exact Drawn0.refl _ | apply Drawn0.step)⟩

/-! ### bits_Mul64: function 119 -/
def bits_Mul64.f (a0 : Int) (a1 : Int) : Option (Int × Int) := some (IntKind.u64.wrap ((IntKind.u64.wrap ((IntKind.u64.wrap ((a0 / 4294967296) * (a1 / 4294967296))) + ((IntKind.u64.wrap ((IntKind.u64.wrap ((a0 / 4294967296) * (Go.bits .and .u64 a1 4294967295))) + ((IntKind.u64.wrap ((Go.bits .and .u64 a0 4294967295) * (Go.bits .and .u64 a1 4294967295))) / 4294967296))) / 4294967296))) + ((IntKind.u64.wrap ((Go.bits .and .u64 (IntKind.u64.wrap ((IntKind.u64.wrap ((a0 / 4294967296) * (Go.bits .and .u64 a1 4294967295))) + ((IntKind.u64.wrap ((Go.bits .and .u64 a0 4294967295) * (Go.bits .and .u64 a1 4294967295))) / 4294967296))) 4294967295) + (IntKind.u64.wrap ((Go.bits .and .u64 a0 4294967295) * (a1 / 4294967296))))) / 4294967296)), IntKind.u64.wrap (a0 * a1))
set_option maxHeartbeats 8000000 in
set_option maxRecDepth 100000 in
theorem bits_Mul64.calls (a0 : Int) (a1 : Int) (r1 : Int) (r2 : Int) (w : World) (h : bits_Mul64.f a0 a1 = some (r1, r2)) :
  Calls Try.prog 119 #[.int .u64 a0, .int .u64 a1] w fun e w' => e = .returned (.tuple #[.int .u64 r1, .int .u64 r2]) ∧ Drawn0 w w' := by
 have H : (some (IntKind.u64.wrap ((IntKind.u64.wrap ((IntKind.u64.wrap ((a0 / 4294967296) * (a1 / 4294967296))) + ((IntKind.u64.wrap ((IntKind.u64.wrap ((a0 / 4294967296) * (Go.bits .and .u64 a1 4294967295))) + ((IntKind.u64.wrap ((Go.bits .and .u64 a0 4294967295) * (Go.bits .and .u64 a1 4294967295))) / 4294967296))) / 4294967296))) + ((IntKind.u64.wrap ((Go.bits .and .u64 (IntKind.u64.wrap ((IntKind.u64.wrap ((a0 / 4294967296) * (Go.bits .and .u64 a1 4294967295))) + ((IntKind.u64.wrap ((Go.bits .and .u64 a0 4294967295) * (Go.bits .and .u64 a1 4294967295))) / 4294967296))) 4294967295) + (IntKind.u64.wrap ((Go.bits .and .u64 a0 4294967295) * (a1 / 4294967296))))) / 4294967296)), IntKind.u64.wrap (a0 * a1))) = some (r1, r2) := h; clear h; simp only [Option.some.injEq, Prod.mk.injEq] at H; obtain ⟨rfl, rfl⟩ := H; go_enter Try.func119, Try.ntmps119; go_wp2; go_ret2; exact ⟨by first | rfl | (simp; done) | (simp [*]; done), by repeat (first | exact Drawn0.refl _ | apply Drawn0.step)⟩

/-! ### bits_Mul: function 114 -/
def bits_Mul.f (a0 : Int) (a1 : Int) : Option (Int × Int) := (bits_Mul64.f a0 a1).bind fun bt398 => (some (bt398.1, bt398.2))
set_option maxHeartbeats 8000000 in
set_option maxRecDepth 100000 in
theorem bits_Mul.calls (a0 : Int) (a1 : Int) (r1 : Int) (r2 : Int) (w : World) (h : bits_Mul.f a0 a1 = some (r1, r2)) :
  Calls Try.prog 114 #[.int .u64 a0, .int .u64 a1] w fun e w' => e = .returned (.tuple #[.int .u64 r1, .int .u64 r2]) ∧ Drawn0 w w' := by
 have H : ((bits_Mul64.f a0 a1).bind fun bt398 => (some (bt398.1, bt398.2))) = some (r1, r2) := h; clear h; replace H := Option.bind_eq_some_iff.mp H; obtain ⟨⟨t398, t399⟩, A30, H⟩ := H; replace H : (some (t398, t399)) = some (r1, r2) := H; have A3 := Aside0.mk A30; clear A30; simp only [Option.some.injEq, Prod.mk.injEq] at H; obtain ⟨rfl, rfl⟩ := H; go_enter Try.func114, Try.ntmps114; go_wp2_with (first | ((with_reducible refine gate_callee (f := 119) rfl ?_); refine gL_ (some 25) Try.func119 #[.int .u64 a0, .int .u64 a1] ?_; (with_reducible refine (bits_Mul64.calls a0 a1 t398 t399 _ A3.out).mono ?_); rintro e w' ⟨rfl, ⟨nd, rfl⟩⟩; refine ⟨_, rfl, ?_⟩))
 go_ret2; exact ⟨by first | rfl | (simp; done) | (simp [*]; done), by repeat (first | exact Drawn0.refl _ | apply Drawn0.step)⟩

/-! ### slices_Repeat_int_int: function 102 -/
/-! ### slices.Repeat of one whole number: by hand (copies that double) -/
def slices_Repeat_int_int.f (l0 : List Int) (a1 : Int) : Option (List Int) := if l0.length = 1 ∧ 0 ≤ a1 ∧ a1 ≤ 1048576 then some (List.replicate a1.toNat (rd l0 0)) else none
theorem R_setCellsQ (g n cap base e : Nat) (ok : Nat → Prop) (w0 : World) (hge : w0.heap.size ≤ g) : ∀ (vs : List Int) (i : Nat) (W : World) (xs : List Int), i + vs.length ≤ xs.length → Kd.R (Kd.int .i64) e W base ok (.slice (some ⟨g, 0, none⟩) n cap) xs → Below w0.heap.size w0 W →
    Kd.R (Kd.int .i64) e (W.setCells g i (vs.map (Value.int .i64))) base ok (.slice (some ⟨g, 0, none⟩) n cap) (xs.take i ++ vs ++ xs.drop (i + vs.length)) ∧ Below w0.heap.size w0 (W.setCells g i (vs.map (Value.int .i64))) ∧ (∀ k, k ≠ g → (W.setCells g i (vs.map (Value.int .i64))).heap[k]? = W.heap[k]?) ∧ (W.setCells g i (vs.map (Value.int .i64))).heap.size = W.heap.size
  | [], i, W, xs, _, h, hb => ⟨by rw [List.length_nil, Nat.add_zero, List.append_nil, List.take_append_drop]; exact h, hb, fun _ _ => rfl, rfl⟩
  | v :: vs, i, W, xs, hl, h, hb => by
    have h1 := Kd.R_putn h (i : Int) v
    rw [Int.toNat_natCast] at h1
    obtain ⟨h2, h3, h4, h5⟩ := R_setCellsQ g n cap base e ok w0 hge vs (i + 1) _ _ (by simp at hl ⊢; omega) h1 (below_set hb hge)
    refine ⟨?_, h3, fun k hk => (h4 k hk).trans (Below.heap_setCell _ _ _ _ hk), h5.trans (by simp [World.setCell])⟩
    have e : (xs.set i v).take (i + 1) ++ vs ++ (xs.set i v).drop (i + 1 + vs.length) = xs.take i ++ (v :: vs) ++ xs.drop (i + (v :: vs).length) := by
      have hi : i < xs.length := by simp at hl; omega
      rw [List.take_succ_eq_append_getElem (by simpa using hi), List.drop_set_of_lt (by omega), List.take_set_of_le (Nat.le_refl i)]
      simp [show i + 1 + vs.length = i + (vs.length + 1) by omega]
    rw [← e]
    exact h2
theorem copyQ (W : World) (g cap base N o m mc dc : Nat) (A : Addr) (ok : Nat → Prop) (xs vs : List Int) (hR : Kd.R (Kd.int .i64) 3 W base ok (.slice (some ⟨g, 0, none⟩) N cap) xs) (hlen : xs.length = N) (ho : o + vs.length ≤ N)
    (hsrc : ∀ j v, (vs.map (Value.int .i64))[j]? = some v → W.cell? (A.add j) = some v) (hm : vs.length = Nat.min m (N - o)) :
    ∀ ty, (Builtin.copy_ #[29, 29] ty #[.slice (some ⟨g, o, none⟩) (N - o) dc, .slice (some A) m mc]).run Try.prog W = .ok (.int .i64 (vs.length : Int)) (W.setCells g o (vs.map (Value.int .i64))) := by
  intro ty
  have h := run_copy_cells (P := Try.prog) W 29 29 ty 3 g o (N - o) dc A m mc (vs.map (Value.int .i64)) Try.underlying29 rfl (by rw [List.length_map]; exact hm) hsrc
    (fun q hq => by
      have hq' : q < vs.length := by simpa using hq
      have := (Kd.R_celln (0 : Int) hR ((o + q : Nat) : Int) (by omega) (by omega)).1
      rw [Int.toNat_natCast] at this
      rw [this]; rfl)
    (fun q hq => by
      have hq' : q < vs.length := by simpa using hq
      have := (Kd.R_celln (0 : Int) hR ((o + q : Nat) : Int) (by omega) (by omega)).2
      rwa [Int.toNat_natCast] at this)
    (fun v hv => by
      obtain ⟨x, _, rfl⟩ := List.mem_map.mp hv
      rfl)
  rw [List.length_map] at h
  exact h
theorem rowQ (x : Int) (n N : Nat) (h : n ≤ N) : (List.replicate n x ++ List.replicate (N - n) 0).length = N := by simp; omega
theorem rowQ_get (x : Int) (n N j : Nat) (h : j < n) : (List.replicate n x ++ List.replicate (N - n) 0).getD j 0 = x := by
  rw [List.getD_eq_getElem?_getD, List.getElem?_append_left (by simpa using h)]
  simp [h]
theorem rowQ_put (x : Int) (n q N : Nat) (h : n + q ≤ N) : (List.replicate n x ++ List.replicate (N - n) 0).take n ++ List.replicate q x ++ (List.replicate n x ++ List.replicate (N - n) 0).drop (n + q) = List.replicate (n + q) x ++ List.replicate (N - (n + q)) (0 : Int) := by
  rw [List.take_append_of_le_length (by simp), List.take_of_length_le (by simp), List.replicate_append_replicate, List.drop_append]
  simp only [List.length_replicate, List.drop_replicate]
  rw [show n - (n + q) = 0 by omega, List.replicate_zero, List.nil_append, show N - n - (n + q - n) = N - (n + q) by omega]
theorem wrapQ (n q N : Nat) (h : n + q ≤ N) (h1 : N ≤ 1048576) : wrap64 ((n : Int) + (q : Int)) = ((n + q : Nat) : Int) := by
  unfold wrap64
  omega
theorem minQ (n N : Nat) (h1 : 1 ≤ n) (h2 : n < N) : 1 ≤ min n (N - n) ∧ n + min n (N - n) ≤ N ∧ min n (N - n) ≤ n := by
  simp only [Nat.min_def]
  split <;> omega
theorem wrap_u64Q (n : Int) (h0 : 0 ≤ n) (h1 : n < 18446744073709551616) : IntKind.u64.wrap n = n := by
  simp [IntKind.wrap, IntKind.bits, IntKind.signed]
  omega
theorem u64_andQ (x : Int) (h0 : 0 ≤ x) (h1 : x < 4294967296) : Go.bits .and .u64 x 4294967295 = x := by
  have := bits_mask .u64 64 (by decide) (fun n a b => wrap_u64Q n a (by simpa using b)) 32 (by decide) x h0 (by simp; omega)
  rw [show ((2 : Int) ^ 32 - 1) = 4294967295 from by decide] at this
  rw [this]
  exact Int.emod_eq_of_lt h0 (by simp; omega)
theorem bits_MulQ (n : Int) (h0 : 0 ≤ n) (h1 : n ≤ 1048576) : bits_Mul.f 1 n = some (0, n) := by
  unfold bits_Mul.f bits_Mul64.f
  rw [u64_andQ 1 (by decide) (by decide), u64_andQ n h0 (by omega)]
  have e1 : (1 : Int) / 4294967296 = 0 := by decide
  have e2 : n / 4294967296 = 0 := Int.ediv_eq_zero_of_lt h0 (by omega)
  rw [e1, e2]
  simp only [Int.zero_mul, Int.one_mul, Int.mul_zero, wrap_u64Q 0 (by decide) (by decide), wrap_u64Q n h0 (by omega), e2, Int.add_zero, u64_andQ 0 (by decide) (by decide), Int.zero_ediv, Option.bind_some]
set_option maxHeartbeats 8000000 in
set_option maxRecDepth 100000 in
theorem slices_Repeat_int_int.calls (A0 : Option Addr) (c0 : Nat) (l0 : List Int) (a1 : Int) (r : List Int) (w : World) (hr0 : Kd.C (Kd.int .i64) w A0 l0.length l0) (hc0 : l0.length ≤ c0) (h : slices_Repeat_int_int.f l0 a1 = some r) :
    Calls Try.prog 102 #[.slice A0 l0.length c0, .int .i64 a1] w fun e w' => ∃ v0_ : Value, e = .returned (v0_) ∧ Kd.R (Kd.int .i64) 3 w' w.heap.size (fun _ => True) v0_ r ∧ Below w.heap.size w w' := by
  unfold slices_Repeat_int_int.f at h
  by_cases hc : l0.length = 1 ∧ 0 ≤ a1 ∧ a1 ≤ 1048576
  · rw [if_pos hc] at h
    obtain rfl := Option.some.inj h; obtain ⟨hl, ha0, ha1⟩ := hc; obtain ⟨N, rfl⟩ : ∃ N : Nat, a1 = (N : Int) := ⟨a1.toNat, by omega⟩; rw [Int.toNat_natCast]; obtain ⟨ad, ead, hx⟩ := Kd.at_int hr0 0 (by omega) (by omega)
    cases ead; rw [hl] at hc0 hr0 ⊢; generalize rd l0 0 = x at hx ⊢; rw [show (0 : Int).toNat = 0 from rfl] at hx; have HM := Aside0.mk (bits_MulQ (N : Int) ha0 ha1); have HB := Aside0.mk (Below.refl w.heap.size w); have HX := Aside0.mk hx; have HN := Aside0.mk (show N ≤ 1048576 by omega); have hn0 : ¬ (N : Int) < 0 := by omega
    have hn1 : ¬ (N : Int) > 9223372036854775807 := by omega
    have e1 : IntKind.u64.wrap 1 = 1 := by decide
    have e2 : IntKind.u64.wrap (N : Int) = (N : Int) := wrap_u64Q _ (by omega) (by omega); have e3 : IntKind.i64.wrap (N : Int) = (N : Int) := by rw [IntKind.wrap_i64]; omega
    clear hx h hl ha0 ha1 hr0 hc0
    rcases Nat.eq_zero_or_pos N with hN0 | hNp
    · subst hN0
      have HCN : ∀ (W : World) (A : Option Addr) (cp : Nat) ty, (Builtin.copy_ #[29, 29] ty #[.slice A 0 cp, .slice (some ad) 1 c0]).run Try.prog W = .ok (.int .i64 0) W := fun W A cp ty => run_copy_none (P := Try.prog) W 29 29 ty 3 A (some ad) 0 cp 1 c0 Try.underlying29 rfl (by decide)
      have hq0 : ¬ (0 : Int) < 0 := by decide
      rw [show ((0 : Nat) : Int) = 0 from rfl] at *; go_enter Try.func102, Try.ntmps102; go_wp2_with (first | (go_at_call 114; (with_reducible refine (bits_Mul.calls 1 0 0 0 _ HM.out).mono ?_); rintro e w' ⟨rfl, ⟨nd, rfl⟩⟩) | ((with_reducible refine gate_dst (N := 30) rfl ?_); refine Kd.R_make (Kd.int .i64) _ 3 rfl (N := 30) rfl 29 _ _ rfl (0 : Int) rfl rfl Try.underlying29 (.int .i64 0) 8 info3 rfl (by decide) (by omega) 0 (ok := fun _ => True) (okp := fun _ => True) rfl (fun _ hk => hk) trivial (by omega) (by decide) (Below.refl _ _) (Nat.le_refl _) ?_; intro v1 w4 ho5 hb hg_ hnew_; clear hg_ hnew_; have HO := Aside0.mk (Kd.R_lower ho5 (below_size (uB HB.out))); have n1_ := Aside0.mk (below_step (uB HB.out) hb); clear HB; have HB := n1_; clear n1_; clear hb ho5; obtain ⟨A1, cp, e1_⟩ := Kd.R_slice HO.out; subst e1_))
      go_loopg [8] 0 (fun _ v8 w' => v8 = .int .i64 0 ∧ Aside0 (Kd.R (Kd.int .i64) 3 w' w.heap.size (fun _ => True) (.slice A1 0 cp) []) ∧ Aside0 (Below w.heap.size w w'))
      case atStart => exact ⟨rfl, HO, HB⟩
      case round =>
        obtain ⟨rfl, HO1, HB1⟩ := hrel; clear HO HB; go_wp2; go_ret; exact ⟨_, rfl, HO1.out, HB1.out⟩
    · have HNP := Aside0.mk hNp
      clear hNp; go_enter Try.func102, Try.ntmps102; go_wp2_with (first | (go_at_call 114; (with_reducible refine (bits_Mul.calls 1 (N : Int) 0 (N : Int) _ HM.out).mono ?_); rintro e w' ⟨rfl, ⟨nd, rfl⟩⟩) | ((with_reducible refine gate_dst (N := 30) rfl ?_); refine Kd.R_make (Kd.int .i64) _ 3 rfl (N := 30) rfl 29 _ _ rfl (N : Int) rfl rfl Try.underlying29 (.int .i64 0) 8 info3 rfl (by decide) (by omega) 0 (ok := fun _ => True) (okp := fun _ => True) rfl (fun _ hk => hk) trivial (by omega) (by rw [Int.toNat_natCast]; have := HN.out; omega) (Below.refl _ _) (Nat.le_refl _) ?_; intro v1 w4 ho5 hb hg_ hnew_; clear hg_ hnew_; rw [Int.toNat_natCast] at ho5; have HO := Aside0.mk (Kd.R_lower ho5 (below_size (uB HB.out))); have n1_ := Aside0.mk (below_step (uB HB.out) hb); clear HB; have HB := n1_; clear n1_; clear hb ho5; obtain ⟨g, cap, e1_, hge_, _, _⟩ := Kd.R_form HO.out (by rw [List.length_replicate]; exact HNP.out); rw [List.length_replicate] at e1_; subst e1_; have GE := Aside0.mk hge_; clear hge_; have HCP : ∀ ty, (Builtin.copy_ #[29, 29] ty #[.slice (some ⟨g, 0, none⟩) N cap, .slice (some ad) 1 c0]).run Try.prog w4 = .ok (.int .i64 1) (w4.setCells g 0 [.int .i64 x]) := copyQ w4 g cap w.heap.size N 0 1 c0 cap ad _ _ [x] HO.out (by simp) (by have := HNP.out; simp; omega) (by intro j v hv; cases j with | zero => (simp only [List.map_cons, List.map_nil, List.getElem?_cons_zero, Option.some.injEq] at hv; subst hv; have hx_ := HX.out; exact (HB.out.cell (World.block_lt_of_cell? w _ hx_)).trans hx_) | succ j => (simp at hv)) (by have := HNP.out; simp [Nat.min_def]; omega); have HS := R_setCellsQ g N cap w.heap.size 3 (fun _ => True) w GE.out [x] 0 w4 (List.replicate N 0) (by have := HNP.out; simp; omega) HO.out HB.out; have n0_ := Aside0.mk HS.1; have n1_ := Aside0.mk HS.2.1; clear HS HO HB; have HO := n0_; have HB := n1_; clear n0_ n1_))
      go_loopg [8] N (fun gg v8 w' => ∃ n : Nat, v8 = .int .i64 n ∧ 1 ≤ n ∧ n ≤ N ∧ N - n ≤ gg ∧ Aside0 (Kd.R (Kd.int .i64) 3 w' w.heap.size (fun _ => True) (.slice (some ⟨g, 0, none⟩) N cap) (List.replicate n x ++ List.replicate (N - n) 0)) ∧ Aside0 (Below w.heap.size w w'))
      case atStart =>
        refine ⟨1, rfl, by omega, HNP.out, by omega, ⟨?_⟩, HB⟩; have h_ := HO.out; have e_ := rowQ_put x 0 1 N (by have := HNP.out; omega); simp only [List.replicate_zero, List.nil_append, Nat.sub_zero, Nat.zero_add, List.replicate_one] at e_; rw [List.replicate_one, ← e_]; exact h_
      case round =>
        obtain ⟨n, rfl, hn1, hnN, hg, HO0, HB0⟩ := hrel; have HO1 := Aside0.mk (Kd.R_drew HO0.out); have HB1 := Aside0.mk (below_drew1 HB0.out); clear HO HB HCP HM HX e1 e2 e3; by_cases hlt : n < N
        · have hltz : (n : Int) < (N : Int) := by omega
          have hcap : N ≤ cap := (Kd.R_reads' HO1.out).2.1; have hl_ := rowQ x n N hnN; obtain ⟨q, hq⟩ : ∃ q, q = min n (N - n) := ⟨_, rfl⟩; have hq123 := minQ n N hn1 hlt; rw [← hq] at hq123; obtain ⟨hq1, hq2, hq3⟩ := hq123; have HCP : ∀ ty, (Builtin.copy_ #[29, 29] ty #[.slice (some ⟨g, n, none⟩) (N - n) (cap - n), .slice (some ⟨g, 0, none⟩) n cap]).run Try.prog wr.drew = .ok (.int .i64 (q : Int)) (wr.drew.setCells g n (List.replicate q (Value.int .i64 x))) := by
            have h_ := copyQ wr.drew g cap w.heap.size N n n cap (cap - n) ⟨g, 0, none⟩ _ _ (List.replicate q x) HO1.out hl_ (by simpa using hq2) (by
              intro j v hv; have hj : j < q := by
                rcases Nat.lt_or_ge j q with h | h
                · exact h
                · rw [List.getElem?_eq_none (by simpa using h)] at hv; cases hv
              have hc_ := (Kd.R_celln (0 : Int) HO1.out (j : Int) (by omega) (by omega)).1; rw [Int.toNat_natCast] at hc_
              unfold rdOf at hc_
              rw [Int.toNat_natCast, rowQ_get x n N j (by omega)] at hc_; rw [List.getElem?_map, List.getElem?_replicate, if_pos hj] at hv
              cases hv; rw [add_plain]; exact hc_) (by rw [List.length_replicate]; exact hq)
            rw [List.length_replicate, List.map_replicate] at h_; exact h_
          have HS := R_setCellsQ g N cap w.heap.size 3 (fun _ => True) w GE.out (List.replicate q x) n wr.drew _ (by rw [List.length_replicate, hl_]; exact hq2) HO1.out HB1.out; have HO2 := Aside0.mk HS.1; have HB2 := Aside0.mk HS.2.1; rw [List.length_replicate, rowQ_put x n q N hq2, List.map_replicate] at HO2; rw [List.map_replicate] at HB2; have hcn : ¬ cap = n := by omega
          have hnc : n ≤ cap := by omega
          have hnz1 : (n : Int) ≤ (N : Int) := by omega
          clear HS hl_ hq HO1 HB1 HO0 HB0; go_wp2_with fail
          refine start_ (n := 10) (S := fun _ => True) (ds := []) #[false, false, false, false, false, false, false, false, false, false] (by kernel_rfl) rfl rfl trivial (fun _ => ?_); refine pure_ (i := 0) (N := some 38) (v := ?_) (a' := ?_) #[true, false, false, false, false, false, false, false, false, false] rfl rfl (by kernel_rfl) (fun _ _ _ h => h) (Or.inl ⟨by rfl, ?_⟩) ?_ ?_; rotate_left
          · intro w'
            go_simp
            with_reducible rfl
          rotate_left
          · simp only [Act.put, List.setIfInBounds_toArray, List.set_cons_zero, List.set_cons_succ, i64_w, i32_w]
            rfl
          refine pure_ (i := 1) (N := some 39) (v := ?_) (a' := ?_) #[true, true, false, false, false, false, false, false, false, false] rfl rfl (by kernel_rfl) (fun _ _ _ h => h) (Or.inl ⟨by rfl, ?_⟩) ?_ ?_; rotate_left
          · intro w'
            go_simp
            with_reducible rfl
          rotate_left
          · simp only [Act.put, List.setIfInBounds_toArray, List.set_cons_zero, List.set_cons_succ, i64_w, i32_w]
            rfl
          refine pure_ (i := 2) (N := some 40) (v := ?_) (a' := ?_) #[true, true, true, false, false, false, false, false, false, false] rfl rfl (by kernel_rfl) (fun _ _ _ h => h) (Or.inl ⟨by rfl, ?_⟩) ?_ ?_; rotate_left
          · intro w'
            go_simp
            with_reducible rfl
          rotate_left
          · simp only [Act.put, List.setIfInBounds_toArray, List.set_cons_zero, List.set_cons_succ, i64_w, i32_w]
            rfl
          refine pure_ (i := 3) (N := some 41) (v := ?_) (a' := ?_) #[true, true, true, true, false, false, false, false, false, false] rfl rfl (by kernel_rfl) (fun _ _ _ h => h) (Or.inl ⟨by rfl, ?_⟩) ?_ ?_; rotate_left
          · intro w'
            go_simp
            with_reducible rfl
          rotate_left
          · simp only [Act.put, List.setIfInBounds_toArray, List.set_cons_zero, List.set_cons_succ, i64_w, i32_w]
            rfl
          refine pure_ (i := 4) (N := some 42) (v := ?_) (a' := ?_) #[true, true, true, true, true, false, false, false, false, false] rfl rfl (by kernel_rfl) (fun _ _ _ h => h) (Or.inl ⟨by rfl, ?_⟩) ?_ ?_; rotate_left
          · intro w'
            go_simp
            with_reducible rfl
          rotate_left
          · simp only [Act.put, List.setIfInBounds_toArray, List.set_cons_zero, List.set_cons_succ, i64_w, i32_w]
            rfl
          refine pure_ (i := 5) (N := some 43) (v := ?_) (a' := ?_) #[true, true, true, true, true, true, false, false, false, false] rfl rfl (by kernel_rfl) (fun _ _ _ h => h) (Or.inl ⟨by rfl, ?_⟩) ?_ ?_; rotate_left
          · intro w'
            go_simp
            with_reducible rfl
          rotate_left
          · simp only [Act.put, List.setIfInBounds_toArray, List.set_cons_zero, List.set_cons_succ, i64_w, i32_w]
            rfl
          refine pure_ (i := 6) (N := some 44) (v := ?_) (a' := ?_) #[true, true, true, true, true, true, true, false, false, false] rfl rfl (by kernel_rfl) (fun _ _ _ h => h) (Or.inl ⟨by rfl, ?_⟩) ?_ ?_; rotate_left
          · intro w'
            go_simp
            with_reducible rfl
          rotate_left
          · simp only [Act.put, List.setIfInBounds_toArray, List.set_cons_zero, List.set_cons_succ, i64_w, i32_w]
            rfl
          refine one_ (i := 7) (N := some 45) #[true, true, true, true, true, true, true, true, false, false] rfl rfl (by kernel_rfl) (by decide) (fun K hK => ?_); refine event_step (by rfl) (show (execOp _ _).run _ _ = .ok (.value (.int .i64 (q : Int))) (wr.drew.setCells g n (List.replicate q (Value.int .i64 x))) from ?hrun) ?_
          case hrun =>
            simp [execOp, resolve, invoke, builtin, Act.eval, HCP, hcn]
          refine hK.out _ _ trivial (fun _ => ?_); clear hK K; refine norm_ (a' := ?_) ?_ ?_; rotate_left
          · show Act.put _ (some 45) _ = _
            simp only [Act.put, List.setIfInBounds_toArray, List.set_cons_zero, List.set_cons_succ, i64_w, i32_w]
            rfl
          refine pure_ (i := 8) (N := some 46) (v := ?_) (a' := ?_) #[true, true, true, true, true, true, true, true, true, false] rfl rfl (by kernel_rfl) (fun _ _ _ h => h) (Or.inl ⟨by rfl, ?_⟩) ?_ ?_; rotate_left
          · intro w'
            go_simp
            with_reducible rfl
          rotate_left
          · simp only [Act.put, List.setIfInBounds_toArray, List.set_cons_zero, List.set_cons_succ, i64_w, i32_w]
            rfl
          refine pure_ (i := 9) (N := some 8) (v := ?_) (a' := ?_) #[true, true, true, true, true, true, true, true, true, true] rfl rfl (by kernel_rfl) (fun _ _ _ h => h) (Or.inl ⟨by rfl, ?_⟩) ?_ ?_; rotate_left
          · intro w'
            go_simp
            with_reducible rfl
          rotate_left
          · simp only [Act.put, List.setIfInBounds_toArray, List.set_cons_zero, List.set_cons_succ, i64_w, i32_w]
            rfl
          refine done_ (by kernel_rfl) ?_; go_wp2; go_roundg (N - (n + q))
          case measure => omega
          case rel => exact ⟨n + q, by rw [wrapQ n q N hq2 HN.out], by omega, by omega, by omega, HO2, HB2⟩
        · have hltz : ¬ (n : Int) < (N : Int) := by omega
          have e_ : n = N := by omega
          subst e_; go_wp2; go_ret; refine ⟨_, rfl, ?_, HB0.out⟩; have h_ := HO0.out; rw [Nat.sub_self, List.replicate_zero, List.append_nil] at h_; exact h_
  · rw [if_neg hc] at h
    cases h


/-! ### slices_Equal_int_int: function 103 -/
def slices_Equal_int_int.l0 : Nat → List Int → List Int → Int → Int → Option (Bool)
 | 0, _, _, _, _ => none
 | k + 1, x0, x1, x12, x13 => if x13 < x12 then (if 0 ≤ x13 then (if x13 < (x0.length : Int) then (if x13 < (x1.length : Int) then (if (rd x0 x13) = (rd x1 x13) then (slices_Equal_int_int.l0 k x0 x1 x12 (wrap64 (x13 + 1))) else (some false)) else (none)) else (none)) else (none)) else (some true)
def slices_Equal_int_int.f (k : Nat) (l0 : List Int) (l1 : List Int) : Option (Bool) := if (l0.length : Int) = (l1.length : Int) then (slices_Equal_int_int.l0 k l0 l1 (l0.length : Int) 0) else (some false)
set_option maxHeartbeats 8000000 in
set_option maxRecDepth 100000 in
theorem slices_Equal_int_int.calls (k : Nat) (A0 : Option Addr) (c0 : Nat) (l0 : List Int) (A1 : Option Addr) (c1 : Nat) (l1 : List Int) (r : Bool) (w : World) (hr0 : Kd.C (Kd.int .i64) w A0 l0.length l0) (hc0 : l0.length ≤ c0) (hr1 : Kd.C (Kd.int .i64) w A1 l1.length l1) (hc1 : l1.length ≤ c1) (h : slices_Equal_int_int.f k l0 l1 = some r) :
  Calls Try.prog 103 #[.slice A0 l0.length c0, .slice A1 l1.length c1] w fun e w' => e = .returned (.bool r) ∧ Drawn0 w w' := by
 have HR0 := Aside0.mk hr0; have HC0 := Aside0.mk hc0; clear hr0 hc0; have HR1 := Aside0.mk hr1; have HC1 := Aside0.mk hc1; clear hr1 hc1; have H : (if (l0.length : Int) = (l1.length : Int) then (slices_Equal_int_int.l0 k l0 l1 (l0.length : Int) 0) else (some false)) = some r := h; clear h; by_cases c3 : (l0.length : Int) = (l1.length : Int)
 ·rw [if_pos c3] at H; have c3b0 : ((l0.length : Int) == (l1.length : Int)) = true := beq_iff_eq.mpr c3; have c3b1 : ((l0.length : Int) != (l1.length : Int)) = false := bne_eq_false_iff_eq.mpr c3; have c3b2 : (l0.length == l1.length) = true := by first | simpa using c3 | (simp at c3 ⊢; omega)
  clear c3; have H' := Aside0.mk H; clear H; go_enter Try.func103, Try.ntmps103; go_wp2
  repeat (go_quiet (fail); try go_wp2)
  go_loopg [13] k (fun kq v13 w' => ∃ (x13_1 : Int), v13 = .int .i64 x13_1 ∧ Aside0 (slices_Equal_int_int.l0 kq l0 l1 (l0.length : Int) x13_1 = some r) ∧ Aside0 (kq ≤ k) ∧ Drawn0 w w')
  case atStart => exact ⟨(0), ev_, H', ⟨Nat.le_refl _⟩, by repeat (first | exact Drawn0.refl _ | apply Drawn0.step)⟩
  case round =>
   clear H'; (try clear c1); (try clear p2); (try clear c3); (try clear c3b0); (try clear c3b1); (try clear c3b2); obtain ⟨x13_1, rfl, HA, HK1, ⟨m1, rfl⟩⟩ := hrel
   cases gk with
   | zero => exact absurd HA.out (by simp [slices_Equal_int_int.l0])
   | succ k1 =>
    have H := HA.out; clear HA; simp only [slices_Equal_int_int.l0] at H; by_cases c4 : x13_1 < (l0.length : Int)
    ·rw [if_pos c4] at H; have c4b0 : decide (x13_1 < (l0.length : Int)) = true := decide_eq_true c4; clear c4; by_cases c5 : 0 ≤ x13_1
     ·rw [if_pos c5] at H; have c5b0 : decide (0 ≤ x13_1) = true := decide_eq_true c5; clear c5; by_cases c6 : x13_1 < (l0.length : Int)
      ·rw [if_pos c6] at H; have c6b0 : decide (x13_1 < (l0.length : Int)) = true := decide_eq_true c6; clear c6; by_cases c7 : x13_1 < (l1.length : Int)
       ·rw [if_pos c7] at H; have c7b0 : decide (x13_1 < (l1.length : Int)) = true := decide_eq_true c7; clear c7; by_cases c8 : (rd l0 x13_1) = (rd l1 x13_1)
        ·rw [if_pos c8] at H; have c8b0 : ((rd l0 x13_1) == (rd l1 x13_1)) = true := beq_iff_eq.mpr c8; have c8b1 : ((rd l0 x13_1) != (rd l1 x13_1)) = false := bne_eq_false_iff_eq.mpr c8; clear c8; have H' := Aside0.mk H; clear H; have p400 : 0 ≤ (x13_1 : Int) := od_; have q400 : x13_1 < (l0.length : Int) := od_; obtain ⟨ad400, e400, hx400_0⟩ := Kd.at_int HR0.out x13_1 p400 q400
         cases e400; replace p400 := eq_true p400; replace q400 := eq_true q400; have p401 : 0 ≤ (x13_1 : Int) := od_; have q401 : x13_1 < (l1.length : Int) := od_; obtain ⟨ad401, e401, hx401_0⟩ := Kd.at_int HR1.out x13_1 p401 q401
         cases e401; replace p401 := eq_true p401; replace q401 := eq_true q401; go_wp2
         repeat (go_quiet (fail); try go_wp2)
         go_roundg k1
         case measure => have := HK1.out; omega
         case rel => exact ⟨(wrap64 (x13_1 + 1)), ev_, H', ⟨by have := HK1.out; omega⟩, by repeat (first | exact Drawn0.refl _ | apply Drawn0.step)⟩
        ·rw [if_neg c8] at H; have c8b0 : ((rd l0 x13_1) == (rd l1 x13_1)) = false := beq_eq_false_iff_ne.mpr c8; have c8b1 : ((rd l0 x13_1) != (rd l1 x13_1)) = true := bne_iff_ne.mpr c8; obtain rfl := Option.some.inj H; have p400 : 0 ≤ (x13_1 : Int) := od_; have q400 : x13_1 < (l0.length : Int) := od_; obtain ⟨ad400, e400, hx400_0⟩ := Kd.at_int HR0.out x13_1 p400 q400
         cases e400; replace p400 := eq_true p400; replace q400 := eq_true q400; have p401 : 0 ≤ (x13_1 : Int) := od_; have q401 : x13_1 < (l1.length : Int) := od_; obtain ⟨ad401, e401, hx401_0⟩ := Kd.at_int HR1.out x13_1 p401 q401
         cases e401; replace p401 := eq_true p401; replace q401 := eq_true q401; go_wp2
         repeat (go_quiet (fail); try go_wp2)
         go_ret; exact ⟨by first | rfl | (simp; done) | (simp [*]; done), by repeat (first | exact Drawn0.refl _ | apply Drawn0.step)⟩
       ·rw [if_neg c7] at H; exact absurd H (by simp)
      ·rw [if_neg c6] at H; exact absurd H (by simp)
     ·rw [if_neg c5] at H; exact absurd H (by simp)
    ·rw [if_neg c4] at H; have c4b0 : decide (x13_1 < (l0.length : Int)) = false := decide_eq_false c4; clear c4; obtain rfl := Option.some.inj H; go_wp2
     repeat (go_quiet (fail); try go_wp2)
     go_ret; exact ⟨by first | rfl | (simp; done) | (simp [*]; done), by repeat (first | exact Drawn0.refl _ | apply Drawn0.step)⟩
 ·rw [if_neg c3] at H; have c3b0 : ((l0.length : Int) == (l1.length : Int)) = false := beq_eq_false_iff_ne.mpr c3; have c3b1 : ((l0.length : Int) != (l1.length : Int)) = true := bne_iff_ne.mpr c3; have c3b2 : (l0.length == l1.length) = false := by first | simpa using c3 | (simp at c3 ⊢; omega)
  obtain rfl := Option.some.inj H; go_enter Try.func103, Try.ntmps103; go_wp2
  repeat (go_quiet (fail); try go_wp2)
  go_ret; exact ⟨by first | rfl | (simp; done) | (simp [*]; done), by repeat (first | exact Drawn0.refl _ | apply Drawn0.step)⟩

end Go.Proofs.Ytooofofeihkpcaa.Q
