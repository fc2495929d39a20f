-- Written by a session's own program (wip/tools/myprint.py) over the kit's printer, out of the translation. Not trusted: Lean checks it.
import Derived.Test.YtdebpmdbeogglaaGreatQ0
import Derived.Test.YtdebpmdbeogglaaGreatQ7
import Derived.Test.YtdebpmdbeogglaaGreatQ8
import Derived.Test.YtdebpmdbeogglaaGreatQ12
-- squeezed
-- renamed
-- squeezed4
namespace Go.Proofs.YtdebpmdbeogglaaGreat.Q
open Go.RowKit Go.Proofs.YtdebpmdbeogglaaGreatW.PrintWords Go.Proofs.YtdebpmdbeogglaaGreatW.PrintLast Go.Proofs.YtdebpmdbeogglaaGreatW.PrintMore
attribute [local go_sem] max2_int min2_int max_two min_two max_three min_three max_four min_four   -- for this text's walks alone
set_option linter.unusedVariables false
set_option linter.unusedSimpArgs false

/-! ### impl_ordered: function 58 -/
/-! ### Rows of whole numbers of the call's own that the library's sort has turned -/
theorem R_setCells (g n cap base e : Nat) (ok : Nat → Prop) (w0 : World) (hge : w0.heap.size ≤ g) : ∀ (vs : List Int) (i : Nat) (W : World) (xs : List Int), i + vs.length ≤ xs.length → Kd.R (Kd.int .i64) e W base ok (.slice (some ⟨g, 0, none⟩) n cap) xs → Below w0.heap.size w0 W →
    Kd.R (Kd.int .i64) e (W.setCells g i (vs.map (Value.int .i64))) base ok (.slice (some ⟨g, 0, none⟩) n cap) (xs.take i ++ vs ++ xs.drop (i + vs.length)) ∧ Below w0.heap.size w0 (W.setCells g i (vs.map (Value.int .i64))) ∧ (∀ k, k ≠ g → (W.setCells g i (vs.map (Value.int .i64))).heap[k]? = W.heap[k]?) ∧ (W.setCells g i (vs.map (Value.int .i64))).heap.size = W.heap.size
  | [], i, W, xs, _, h, hb => ⟨by rw [List.length_nil, Nat.add_zero, List.append_nil, List.take_append_drop]; exact h, hb, fun _ _ => rfl, rfl⟩
  | v :: vs, i, W, xs, hl, h, hb => by
    have h1 := Kd.R_putn h (i : Int) v
    rw [Int.toNat_natCast] at h1
    obtain ⟨h2, h3, h4, h5⟩ := R_setCells g n cap base e ok w0 hge vs (i + 1) _ _ (by simp at hl ⊢; omega) h1 (below_set hb hge)
    refine ⟨?_, h3, fun k hk => (h4 k hk).trans (Below.heap_setCell _ _ _ _ hk), h5.trans (by simp [World.setCell])⟩
    have e : (xs.set i v).take (i + 1) ++ vs ++ (xs.set i v).drop (i + 1 + vs.length) = xs.take i ++ (v :: vs) ++ xs.drop (i + (v :: vs).length) := by
      have hi : i < xs.length := by simp at hl; omega
      rw [List.take_succ_eq_append_getElem (by simpa using hi), List.drop_set_of_lt (by omega), List.take_set_of_le (N_ i)]
      simp [show i + 1 + vs.length = i + (vs.length + 1) by omega]
    rw [← e]
    exact h2
theorem R_putRow {g n cap base e q : Nat} {ok : Nat → Prop} {W : World} {xs ys : List Int} {os : Array Obj} (w0 : World) (hge : w0.heap.size ≤ g) (hl : ys.length = xs.length) (h : Kd.R (Kd.int .i64) e W base ok (.slice (some ⟨g, 0, none⟩) n cap) xs) (hb : Below w0.heap.size w0 W) :
    Kd.R (Kd.int .i64) e (Go.Sort.grow (Go.Sort.putRow (Value.int .i64) (Go.Sort.ahead W q) g 0 ys.toArray) os) base ok (.slice (some ⟨g, 0, none⟩) n cap) ys ∧ Below w0.heap.size w0 (Go.Sort.grow (Go.Sort.putRow (Value.int .i64) (Go.Sort.ahead W q) g 0 ys.toArray) os) ∧ (∀ k, k < W.heap.size → k ≠ g → (Go.Sort.grow (Go.Sort.putRow (Value.int .i64) (Go.Sort.ahead W q) g 0 ys.toArray) os).heap[k]? = W.heap[k]?) ∧ W.heap.size ≤ (Go.Sort.grow (Go.Sort.putRow (Value.int .i64) (Go.Sort.ahead W q) g 0 ys.toArray) os).heap.size := by
  have hn := (S_ h).1
  have hH : Go.Sort.Holds (Value.int .i64) W g 0 xs.toArray := by
    intro j hj
    have hj' : j < xs.length := by simpa using hj
    obtain ⟨h1, h2⟩ := Kd.R_celln (0 : Int) h (j : Int) (by omega) (by omega)
    rw [Int.toNat_natCast] at h1 h2
    refine ⟨?_, by rw [Nat.zero_add]; exact h2⟩
    rw [Nat.zero_add, h1]
    congr 2
    rw [getElem!_pos xs.toArray j hj]
    unfold rdOf
    rw [Int.toNat_natCast, List.getD_eq_getElem?_getD, List.getElem?_eq_getElem hj']
    simp
  have hA : Go.Sort.putRow (Value.int .i64) (Go.Sort.ahead W q) g 0 xs.toArray = Go.Sort.ahead W q := Go.Sort.putRow_self (Value.int .i64) _ g 0 xs.toArray (Go.Sort.holds_ahead (Value.int .i64) W q g 0 xs.toArray hH)
  have hlay : Lib.lay xs.toArray 0 ys = ys.toArray := by
    apply Array.ext_getElem?
    intro j
    rw [Lib.lay_get? _ _ _ _ (by simp [hl])]
    by_cases c : j < ys.length
    · rw [G_ (by omega), Nat.sub_zero]; simp
    · rw [I_ (by omega), Array.getElem?_eq_none (by simp; omega), Array.getElem?_eq_none (by simp; omega)]
  have hS := Lib.putRow_setCells (Value.int .i64) (Go.Sort.ahead W q) g 0 ys xs.toArray 0 (by simp [hl])
  rw [hA, hlay, Nat.add_zero] at hS
  rw [← hS]
  have hRa : Kd.R (Kd.int .i64) e (Go.Sort.ahead W q) base ok (.slice (some ⟨g, 0, none⟩) n cap) xs := Kd.R_step h (fun _ _ _ => rfl)
  obtain ⟨h1, h2, h3, h4⟩ := R_setCells g n cap base e ok w0 hge ys 0 (Go.Sort.ahead W q) xs (by omega) hRa (hb.trans ⟨rfl, rfl, rfl, N_ _, fun _ _ => rfl⟩)
  have e1 : xs.take 0 ++ ys ++ xs.drop (0 + ys.length) = ys := by rw [List.drop_of_length_le (by omega)]; simp
  rw [e1] at h1
  have h4' : ((Go.Sort.ahead W q).setCells g 0 (ys.map (Value.int .i64))).heap.size = W.heap.size := h4
  refine ⟨Kd.R_step h1 (fun k _ hk => Go.Sort.heap_grow_old _ os hk), h2.trans ⟨rfl, rfl, rfl, by simp, fun k hk => Go.Sort.heap_grow_old _ os (by have := h2.size; omega)⟩, fun k hk hne => (Go.Sort.heap_grow_old _ os (by omega)).trans (h3 k hne), by rw [Go.Sort.size_grow]; omega⟩
theorem R_holds {g n cap base e : Nat} {ok : Nat → Prop} {W : World} {xs : List Int} (h : Kd.R (Kd.int .i64) e W base ok (.slice (some ⟨g, 0, none⟩) n cap) xs) : Go.Sort.Holds (Value.int .i64) W g 0 xs.toArray := by
  have hn := (S_ h).1
  intro j hj
  have hj' : j < xs.length := by simpa using hj
  obtain ⟨h1, h2⟩ := Kd.R_celln (0 : Int) h (j : Int) (by omega) (by omega)
  rw [Int.toNat_natCast] at h1 h2
  refine ⟨?_, by rw [Nat.zero_add]; exact h2⟩
  rw [Nat.zero_add, h1]
  congr 2
  rw [getElem!_pos xs.toArray j hj]
  unfold rdOf
  rw [Int.toNat_natCast, List.getD_eq_getElem?_getD, List.getElem?_eq_getElem hj']
  simp

/-! ### ordered: a list in ascending order, each number once -/
def ascI (l : List Int) : List Int := Lib.compact (l.mergeSort fun x y => decide (x ≤ y))
def impl_ordered.f (l0 : List Int) : Option (List Int) := if l0.length < 4611686018427387904 then some (ascI l0) else none
theorem compact_len (l : List Int) : (Lib.compact l).length ≤ l.length := by
  unfold Lib.compact Lib.compactUpTo
  rw [List.length_map]
  exact Nat.le_trans (List.length_filter_le _ _) (by simp)
set_option maxHeartbeats 8000000 in
set_option maxRecDepth 100000 in
theorem impl_ordered.calls (P0_ : Nat → Prop) (u9000_ : Value) (l0 : List Int) (r : List Int) (w0 w : World) (hB : Below w0.heap.size w0 w) (a0 : Kd.R (Kd.int .i64) 3 w w0.heap.size P0_ u9000_ l0) (h : impl_ordered.f l0 = some r) :
    Calls Tryz.prog 58 #[u9000_] w fun e w' => ∃ v0_ : Value, e = .returned (v0_) ∧ Kd.R (Kd.int .i64) 3 w' w0.heap.size (fun k_ => (P0_ k_ ∨ w.heap.size ≤ k_)) v0_ r ∧ Below w0.heap.size w0 w' ∧ Kept w w' (fun k_ => P0_ k_) := by
  unfold impl_ordered.f at h
  by_cases hsz : l0.length < 4611686018427387904
  · rw [G_ hsz] at h
    obtain rfl := F_ h; obtain ⟨A, c, rfl⟩ := Kd.R_slice a0
    rcases Nat.eq_zero_or_pos l0.length with hz | hp
    · obtain rfl := List.eq_nil_of_length_eq_zero hz
      have HS := B_ (fun W => Any.slices_Sort_int_none Tryz.sortL A c W); have HC := B_ (fun W => Any.slices_Compact_int_empty Tryz.compactL A c W); have HB := B_ hB; have e0 : ascI [] = [] := by simp [ascI, Lib.compact, Lib.compactUpTo]
      have HO : Aside0 (Kd.R (Kd.int .i64) 3 w w0.heap.size P0_ (.slice A 0 c) (ascI [])) := ⟨by rw [e0]; exact a0⟩; generalize ascI [] = r0 at HO ⊢; clear hB a0 hz hsz h e0
      show Calls Tryz.prog 58 #[.slice A 0 c] w _
      go_enter Tryz.func58, Tryz.ntmps58; go_wp2_with (first
        | (go_at_call 76; refine (HS.out _).mono ?_; rintro e w1 ⟨rfl, rfl⟩)
        | (go_at_call 77; refine (HC.out _).mono ?_; rintro e w2 ⟨rfl, rfl⟩))
      go_ret; exact ⟨_, rfl, O_ HO.out (fun k hk => .inl hk), HB.out, Kept.refl _ _⟩
    · obtain ⟨g, cap, e, hge, hlt, _⟩ := Kd.R_form a0 hp
      cases e; have hP : P0_ g := a0.1 g rfl; have hcap : l0.length ≤ c := (S_ a0).2.1; have HS := B_ (Any.slices_Sort_int Tryz.sortL g 0 c l0 w (R_holds a0) hlt hsz); have HO := B_ a0; have HB := B_ hB; have HGE := B_ hge; have HLT := B_ hlt; have HP := B_ hP; have HCP := B_ hcap; have HSZ := B_ hsz; have hml : (l0.mergeSort fun x y => decide (x ≤ y)).length = l0.length := List.length_mergeSort _; have HA : Aside0 (ascI l0 = Lib.compact (l0.mergeSort fun x y => decide (x ≤ y))) := ⟨rfl⟩; have HML := B_ hml; generalize (l0.mergeSort fun x y => decide (x ≤ y)) = s at HS HA HML; generalize ascI l0 = r at HA; clear hB a0 hge hlt hP hcap hsz h hml hp; go_enter Tryz.func58, Tryz.ntmps58; go_wp2_with (go_at_call 76; refine HS.out.mono ?_; rintro e w1 ⟨rfl, q1, os1, hw1⟩; obtain ⟨x1, x2, x3, x4⟩ := R_putRow (q := q1) (os := os1) w0 HGE.out HML.out HO.out HB.out; rw [← hw1] at x1 x2 x3 x4; clear hw1; have b0 := B_ x1; have HB1 := B_ x2; have HK1 := B_ x3; have HL1 := B_ x4; clear x1 x2 x3 x4; have HC := B_ (Any.slices_Compact_int Tryz.compactL g 0 c s w1 (R_holds b0.out) (by have := HSZ.out; have := HML.out; omega) (by have := HCP.out; have := HML.out; omega)))
      rw [HML.out] at HC; go_wp2_with (go_at_call 77; refine HC.out.mono ?_; rintro e w2 ⟨rfl, q2, hw2⟩; obtain ⟨x1, x2, x3, x4⟩ := R_putRow (q := q2) (os := #[]) (ys := Lib.compact s ++ List.replicate (l0.length - (Lib.compact s).length) 0) w0 HGE.out (by have := compact_len s; have := HML.out; simp; omega) b0.out HB1.out; rw [Go.Sort.grow_empty, ← hw2] at x1 x2 x3 x4; clear hw2; have c0 := B_ x1; have HB2 := B_ x2; have HK2 := B_ x3; have HL2 := B_ x4; clear x1 x2 x3 x4)
      go_ret; have hR := Kd.R_take (m := (Lib.compact s).length) c0.out (by simp); rw [List.take_left] at hR; rw [← HA.out] at hR ⊢; exact ⟨_, rfl, O_ hR (fun k hk => .inl hk), HB2.out, Nat.le_trans HL1.out HL2.out, fun k hk hne => (HK2.out k (Nat.lt_of_lt_of_le hk HL1.out) (fun e => hne (e ▸ HP.out))).trans (HK1.out k hk (fun e => hne (e ▸ HP.out)))⟩
  · rw [I_ hsz] at h
    cases h


/-! ### impl_standsAt: function 31 -/
def impl_standsAt.l0 : Nat → Int → List Int → List (S43) → Int → Int → Option (List Int)
 | 0, _, _, _, _, _ => none
 | k + 1, x1, x5, x8, x9, n0 => if n0 < x9 then (if 0 ≤ n0 then (if n0 < (x8.length : Int) then (if 0 ≤ x1 then (if x1 < (((rd_T43 x8 n0).f0).length : Int) then (if x5.length < 17592186044416 then (impl_standsAt.l0 k x1 (x5 ++ [rd ((rd_T43 x8 n0).f0) x1]) x8 x9 (wrap64 (n0 + 1))) else (none)) else (none)) else (none)) else (none)) else (none)) else ((impl_ordered.f x5).bind fun t0 => (some t0))
def impl_standsAt.f (k : Nat) (l0 : List (S43)) (a1 : Int) : Option (List Int) := impl_standsAt.l0 k a1 ([] : List Int) l0 (l0.length : Int) 0
set_option maxHeartbeats 8000000 in
set_option maxRecDepth 100000 in
theorem impl_standsAt.calls (k : Nat) (A0 : Option Addr) (c0 : Nat) (l0 : List (S43)) (a1 : Int) (r : List Int) (w : World) (hr0 : Kd.C k43 w A0 l0.length l0) (hc0 : l0.length ≤ c0) (h : impl_standsAt.f k l0 a1 = some r) :
  Calls Tryz.prog 31 #[.slice A0 l0.length c0, .int .i64 a1] w fun e w' => ∃ v0_ : Value, e = .returned (v0_) ∧ Kd.R (Kd.int .i64) 3 w' w.heap.size (fun _ => True) v0_ r ∧ Below w.heap.size w w' := by
 have hu43 := Tryz.underlying43; have R0 := B_ hr0; have HC0 := B_ hc0; clear hr0 hc0; have HB := B_ (A__ w.heap.size w); have H : (impl_standsAt.l0 k a1 ([] : List Int) l0 (l0.length : Int) 0) = some r := h; clear h; have H' := B_ H; clear H; go_enter Tryz.func31, Tryz.ntmps31; go_wp2; go_loopg [5, 10] k (fun kq v5 v10 w' => ∃ (d0 : List Int) (b0 : Int), v10 = .int .i64 b0 ∧ Aside0 (impl_standsAt.l0 kq a1 d0 l0 (l0.length : Int) b0 = some r) ∧ Aside0 (kq ≤ k) ∧ Aside0 (Kd.R (Kd.int .i64) 3 w' w.heap.size (fun _ => True) v5 d0) ∧ Aside0 (Below w.heap.size w w'))
 case atStart => exact ⟨(([] : List Int)), (0), ev_, H', ⟨N_ _⟩, ⟨by first | exact Kd.R_nil _ _ _ _ _ | exact Kd.N_nil _ _ _ _ _ | exact Kd.V_nil _ _ _ _ _ | exact Kd.Q_nil _ _ _ _ _ | exact Kd.S_nil _ _ _ _ _⟩, ⟨uB HB.out⟩⟩
 case round =>
  clear H'; (try clear p2); obtain ⟨d0, b0, rfl, HA, HK1, e0, HB⟩ := hrel
  cases gk with
  | zero => exact absurd HA.out (by simp [impl_standsAt.l0])
  | succ k1 =>
   have H := HA.out; clear HA; simp only [impl_standsAt.l0] at H; by_cases c3 : b0 < (l0.length : Int)
   ·rw [G_ c3] at H; have U0 := C_ c3; clear c3; by_cases c4 : 0 ≤ b0
    ·rw [G_ c4] at H; have p1 := C_ c4; clear c4; by_cases c5 : b0 < (l0.length : Int)
     ·rw [G_ c5] at H; have q1 := C_ c5; clear c5; by_cases c6 : 0 ≤ a1
      ·rw [G_ c6] at H; have r1 := C_ c6; clear c6; by_cases c7 : a1 < (((rd_T43 l0 b0).f0).length : Int)
       ·rw [G_ c7] at H; have s1 := C_ c7; clear c7; by_cases c8 : d0.length < 17592186044416
        ·rw [G_ c8] at H; have V0 := B_ c8; clear c8; obtain ⟨J0, hy_⟩ : ∃ y_ : List Int, y_ = (d0 ++ [rd ((rd_T43 l0 b0).f0) a1]) := ⟨_, rfl⟩; replace H : (impl_standsAt.l0 k1 a1 J0 l0 (l0.length : Int) (wrap64 (b0 + 1))) = some r := hz_
         have X0 := B_ hy_; clear hy_; have H' := B_ H; clear H; have u0 : 0 ≤ (b0 : Int) := od_; have v0 : b0 < (l0.length : Int) := od_; obtain ⟨t1, u1, x0, Y0, y0, L0, M0⟩ := at_T43 R0.out b0 u0 v0
         cases Y0; replace y0 := (HB.out.cell (D_ w _ y0)).trans y0; have Z0 := B_ M0; have HC558_0 := B_ L0; clear M0 L0; replace u0 := E_ u0; replace v0 := E_ v0; go_wp2_with (first | ((with_reducible refine Y_ (N := 7) rfl ?_); refine be_ (N := 7) (cs := #[.slice none 0 0]) (t := 43) ?_; intro q0 hg w9 hbox hb; replace e0 := rb_ e0 hb; have r0 := B_ (hbox); have b1 := B_ ((by rw [hg]; exact (H_ (uB HB.out)) : w.heap.size ≤ q0)); have v1 := ge_ hg HB; replace HB := hB_ HB hb; clear hb hbox hg; have y1 := bx1 r0.out; have z0 : 0 ≤ (a1 : Int) := od_; have C0 : a1 < (((rd_T43 l0 b0).f0).length : Int) := od_; obtain ⟨s0, d1, o0⟩ := U_ Z0.out a1 z0 C0; cases d1; have hn560_0 : s0.block ≠ q0 := Nat.ne_of_lt (Nat.lt_of_lt_of_le (by have := D_ _ _ o0; first | rwa [add_block] at this | exact this) b1.out); replace o0 := (HB.out.cell (D_ w _ o0)).trans o0; replace o0 := (cell_far (p := ⟨q0, 0, none⟩) (by first | (rw [add_block]; exact hn560_0) | (show (Addr.add _ _).block ≠ _; rw [add_block]; exact hn560_0) | exact hn560_0) (.slice (some s0) ((rd_T43 l0 b0).f0).length x0)).trans o0; clear hn560_0; replace z0 := E_ z0; replace C0 := E_ C0) | ((with_reducible refine gate_builtin (b := .append) (xs := #[.tmp 14, .tmp 20]) rfl ?_); at_builtin; refine Kd.R_append (Kd.int .i64) (w0 := w) w.heap.size rfl (.tmp 14) (.tmp 20) 26 3 (.int .i64 0) 8 rfl Tryz.underlying26 info3 rfl (by decide) (by omega) u5 d0 (rd ((rd_T43 l0 b0).f0) a1) [.int .i64 (rd ((rd_T43 l0 b0).f0) a1)] (fun _ => True) (fun _ => False) rfl (by first | (go_simp; done) | (go_simp; rfl)) ?aP (fun _ hk => hk.elim) ?aF ?aO ?aB ?aS ?aL ?_; (case aP => exact rfl); (case aB => exact bw_); (case aF => exact (fun _ _ => trivial)); (case aO => exact (uR (O_ (Kd.R_far (p := ⟨q0, 0, none⟩) (Kd.R_types e0.out r0.out (by decide)) (fun _ hk => hk.2) (.slice (some s0) ((rd_T43 l0 b0).f0).length x0)) (fun _ hk => trivial)))); (case aS => exact (H_ bw_)); (case aL => have := V0.out; omega); intro v562 z1 ho hb hg hat; rw [← X0.out] at ho; replace r0 := B_ (blk_grown (g := q0) (o := .cells #[.slice (some s0) ((rd_T43 l0 b0).f0).length x0] 43 (0, 0)) zk_ hg (Kd.R_ne e0.out r0.out (by decide))); replace HB := B_ (hb); have e1 := B_ (ho); clear e0; clear ho hb hg hat))
         go_roundg k1
         case measure => have := HK1.out; omega
         case rel => exact ⟨(J0), (wrap64 (b0 + 1)), ev_, H', ⟨by have := HK1.out; omega⟩, ⟨uR e1.out⟩, ⟨bw_⟩⟩
        ·rw [I_ c8] at H; exact absurd H (by simp)
       ·rw [I_ c7] at H; exact absurd H (by simp)
      ·rw [I_ c6] at H; exact absurd H (by simp)
     ·rw [I_ c5] at H; exact absurd H (by simp)
    ·rw [I_ c4] at H; exact absurd H (by simp)
   ·rw [I_ c3] at H; have U0 := K_ c3; clear c3; obtain ⟨t0, A12, H⟩ := ob_ H; obtain rfl := F_ H; obtain ⟨D0, E0, g1⟩ := Kd.R_slice e0.out; subst g1; go_wp2_with (first | ((with_reducible refine J_ (f := 58) rfl ?_); refine gL_ (some 24) Tryz.func58 #[.slice D0 d0.length E0] ?_; (with_reducible refine (impl_ordered.calls (fun k_ => some k_ = (.slice D0 d0.length E0 : Value).ownBlock) (.slice D0 d0.length E0) d0 t0 w _ ?side1 ?side2 A12.out).mono ?_); (case side1 => repeat (first | (with_reducible first | exact HB.out | apply below_alloc | apply pw_below_drewN | apply below_drew1) | exact HB.out)); (case side2 => exact Kd.R_tight rfl e0.out); rintro e C1 ⟨v565, rfl, N0, hb, hkp⟩; refine ⟨_, rfl, ?_⟩; have j1 := B_ (O_ (ok' := fun k_ => True) N0 (fun k_ hk_ => trivial)); replace HB := B_ (hb); clear e0; (try clear hb); (try clear hkp); (try clear N0)))
    go_ret; exact ⟨_, ew_, by (with_reducible repeat (first | apply Kd.R_alloc | apply Kd.R_drewN | apply Kd.R_drew)); exact j1.out, uB HB.out⟩

/-! ### someTime with SameStands's literal -/
def hof_SameStands.p (k : Nat) (l1 l2 : List S43) (t : Int) : Option Bool := (impl_standsAt.f k l1 t).bind fun x => (impl_standsAt.f k l2 t).bind fun y => (slices_Equal_int_int.f k x y).bind fun e => some (!e)
def hof_SameStands.f (k : Nat) (span : Int) (l1 l2 : List S43) : Option Bool := someT (fun k t => hof_SameStands.p k l1 l2 t) k span 0
def hof_SameStands.T1 : Bool × List (List Nat × List Nat) := (true, [([], []), ([], []), ([0, 1], [0, 1]), ([], []), ([], []), ([3, 4, 2], [3, 4]), ([2, 5, 5], [2, 5]), ([6], [6]), ([7, 6, 0, 1, 2, 3, 4, 5, 6, 7], [7])])
def hof_SameStands.B1 : List Nat := [0, 0, 3, 0, 0, 31, 63, 127, 255]
theorem hof_SameStands.tab1 : rtab .any (opsOf Tryz.f29 1) = hof_SameStands.T1 := by kernel_rfl
theorem hof_SameStands.bits1 : waitsOk hof_SameStands.T1.2 hof_SameStands.B1 = true := by kernel_rfl
set_option maxHeartbeats 8000000 in
set_option maxRecDepth 100000 in
theorem hof_SameStands.calls (k : Nat) (a0 : Int) (A1 : Option Addr) (c1 : Nat) (l1 : List S43) (A2 : Option Addr) (c2 : Nat) (l2 : List S43) (B B2 : Nat) (r : Bool) (w : World) (hr1 : Kd.C k43 w A1 l1.length l1) (hc1 : l1.length ≤ c1) (hr2 : Kd.C k43 w A2 l2.length l2) (hc2 : l2.length ≤ c2)
  (hb : w.heap[B]? = some (.cells #[.slice A1 l1.length c1] 27 (0, 0))) (hb2 : w.heap[B2]? = some (.cells #[.slice A2 l2.length c2] 27 (0, 0))) (h : hof_SameStands.f k a0 l1 l2 = some r) :
  Calls Tryz.prog 28 #[.int .i64 a0, .func (.func 29) #[] #[.pointer (some ⟨B, 0, none⟩), .pointer (some ⟨B2, 0, none⟩)]] w fun e w' => e = .returned (.bool r) ∧ Below w.heap.size w w' := by
 have eg : ∀ args w, (callFunc 29 args).run Tryz.prog w = .ok (.enter 29 args) w := entersOf Tryz.func29 (by kernel_rfl) rfl; refine someTime_calls _ _ _ eg k a0 r w ?_ h; intro k W t b hF hbw; obtain ⟨x, hx, hF⟩ := M_ hF; obtain ⟨y, hy, hF⟩ := M_ hF; obtain ⟨q, hq, hF⟩ := M_ hF; obtain rfl := F_ hF; have hB1 : W.heap[B]? = some (.cells #[.slice A1 l1.length c1] 27 (0, 0)) := (hbw.block B (blk_lt hb)).trans hb; have hB2 : W.heap[B2]? = some (.cells #[.slice A2 l2.length c2] 27 (0, 0)) := (hbw.block B2 (blk_lt hb2)).trans hb2; have HB1 := B_ hB1; have HB2 := B_ hB2; have m1 := B_ (Kd.C_below hr1 hbw); have n1 := B_ (Kd.C_below hr2 hbw); have HC1 := B_ hc1; have HC2 := B_ hc2; have HX := B_ hx; have HY := B_ hy; have HQ := B_ hq; clear hB1 hB2 hr1 hc1 hr2 hc2 hF hb hb2 hbw h hx hy hq
 show Calls Tryz.prog 29 #[.int .i64 t, .pointer (some ⟨B, 0, none⟩), .pointer (some ⟨B2, 0, none⟩)] W _
 go_enter Tryz.func29, Tryz.ntmps29; go_wp2_with fail
 refine start_ (n := 9) (S := fun w' => w'.cell? ⟨B, 0, none⟩ = some (.slice A1 l1.length c1) ∧ w'.cell? ⟨B2, 0, none⟩ = some (.slice A2 l2.length c2)) (ds := []) (bs_ 9 0) (by kernel_rfl) rfl rfl ⟨blk_cell HB1.out 0, blk_cell HB2.out 0⟩ (fun hHeld => ?_); refine with_tabW hof_SameStands.tab1 hof_SameStands.bits1 (fun HT_ HW_ => ?_); have HBW : Aside0 (Below W.heap.size W W.drew) := ⟨below_drew1 (A__ _ _)⟩; have HB1 : Aside0 (W.drew.heap[B]? = some (.cells #[.slice A1 l1.length c1] 27 (0, 0))) := ⟨X_ HB1.out⟩; have HB2 : Aside0 (W.drew.heap[B2]? = some (.cells #[.slice A2 l2.length c2] 27 (0, 0))) := ⟨X_ HB2.out⟩; generalize W.drew = W1 at HBW HB1 HB2 hHeld ⊢; refine tq_ 0 5 9 1 HT_ HW_ hHeld ?_; refine pq_ 1 6 9 3 HT_ ?_; refine tq_ 3 8 9 11 HT_ HW_ hHeld ?_; refine pq_ 4 9 9 27 HT_ ?_; refine on_ 2 7 9 31 HT_ (fun K hK => ?_); refine gO_ Tryz.func31 #[.slice A1 l1.length c1, .int .i64 t] ?_
 with_reducible refine (impl_standsAt.calls k _ _ l1 t x _ ?side1 ?side2 HX.out).mono ?_
 (case side1 => exact Kd.C_below m1.out HBW.out)
 (case side2 => exact HC1.out)
 rintro e W2 ⟨v7, rfl, O0, hb⟩; refine ⟨_, rfl, ?_⟩; have p0 := B_ (Kd.R_lower O0 (H_ HBW.out)); have g0 := B_ (below_step HBW.out hb); have j0 := B_ (blk_below HB1.out hb); have m0 := B_ (blk_below HB2.out hb); clear HBW HB1 HB2 O0 hb; have HBW := g0; have HB1 := j0; have HB2 := m0; clear g0 j0 m0; refine hK.out _ _ ⟨blk_cell HB1.out 0, blk_cell HB2.out 0⟩ (fun hHeld => ?_); clear hK K; refine norm_ (a' := ?_) ?_ ?_; rotate_left
 ·show Act.put _ (some 7) _ = _
  simp only [Act.put, pt_]
  rfl
 refine on_ 5 10 9 63 HT_ (fun K hK => ?_); refine gO_ Tryz.func31 #[.slice A2 l2.length c2, .int .i64 t] ?_
 with_reducible refine (impl_standsAt.calls k _ _ l2 t y _ ?side1 ?side2 HY.out).mono ?_
 (case side1 => exact Kd.C_below n1.out HBW.out)
 (case side2 => exact HC2.out)
 rintro e W3 ⟨v10, rfl, P0, hb⟩; refine ⟨_, rfl, ?_⟩; have G0 := B_ (Kd.R_lower P0 (H_ HBW.out)); have Q0 := B_ (Kd.R_below p0.out hb); have g0 := B_ (below_step HBW.out hb); have j0 := B_ (blk_below HB1.out hb); have m0 := B_ (blk_below HB2.out hb); clear HBW HB1 HB2 P0 hb p0; have HBW := g0; have HB1 := j0; have HB2 := m0; have p0 := Q0; clear g0 j0 m0 Q0; obtain ⟨A7, c7, rfl⟩ := Kd.R_slice p0.out; obtain ⟨A10, o1, rfl⟩ := Kd.R_slice G0.out; refine hK.out _ _ ⟨blk_cell HB1.out 0, blk_cell HB2.out 0⟩ (fun hHeld => ?_); clear hK K; refine norm_ (a' := ?_) ?_ ?_; rotate_left
 ·show Act.put _ (some 10) _ = _
  simp only [Act.put, pt_]
  rfl
 refine on_ 6 11 9 127 HT_ (fun K hK => ?_); refine gO_ Tryz.func30 #[.slice A7 x.length c7, .slice A10 y.length o1] ?_
 with_reducible refine (slices_Equal_int_int.calls k _ _ x _ _ y q _ ?side1 ?side2 ?side3 ?side4 HQ.out).mono ?_
 (case side1 => exact (S_ p0.out).2.2)
 (case side2 => exact (S_ p0.out).2.1)
 (case side3 => exact (S_ G0.out).2.2)
 (case side4 => exact (S_ G0.out).2.1)
 rintro e W4 ⟨rfl, hd⟩; refine ⟨_, rfl, ?_⟩; have hb := (by first | exact hd.below | exact hd); have g0 := B_ (below_step HBW.out hb); have j0 := B_ (blk_below HB1.out hb); have m0 := B_ (blk_below HB2.out hb); clear HBW HB1 HB2 hb hd; have HBW := g0; have HB1 := j0; have HB2 := m0; clear g0 j0 m0; refine hK.out _ _ ⟨blk_cell HB1.out 0, blk_cell HB2.out 0⟩ (fun hHeld => ?_); clear hK K; refine norm_ (a' := ?_) ?_ ?_; rotate_left
 ·show Act.put _ (some 11) _ = _
  simp only [Act.put, pt_]
  rfl
 refine pq_ 7 12 9 255 HT_ ?_; refine pq_ 8 4 9 511 HT_ ?_; refine done_ (done_of HT_.out (by kernel_rfl)) ?_; go_wp2; go_ret; exact ⟨rfl, HBW.out⟩

/-! ### impl_SameStands: function 11 -/
def impl_SameStands.f (k : Nat) (l0 : List (S43)) (l1 : List (S43)) : Option (Bool) := (impl_areRegular.f k l0).bind fun z0 => (if z0 = true then ((impl_areRegular.f k l1).bind fun C0 => (if C0 = true then (if 0 < (l0.length : Int) then (if 0 < (l1.length : Int) then (if (((rd_T43 l0 0).f0).length : Int) = (((rd_T43 l1 0).f0).length : Int) then ((hof_SameStands.f k (((rd_T43 l0 0).f0).length : Int) l0 l1).bind fun D0 => (some (!D0))) else (some false)) else (none)) else (none)) else (some false))) else (some false))
def impl_SameStands.T1 : Bool × List (List Nat × List Nat) := (true, [([], []), ([0], [0]), ([1], [1]), ([2, 1], [2]), ([3], [3]), ([4, 3, 3], [3, 4]), ([5, 3], [3, 5]), ([3, 6], [3, 6]), ([7, 5], [7]), ([8], [8]), ([9, 8], [8, 9]), ([10, 8], [8, 10]), ([11, 8], [8, 11]), ([12, 8], [8, 12]), ([8], [8]), ([14, 8], [8, 14]), ([15, 8], [8, 15]), ([16, 8], [8, 16]), ([17, 8], [8, 17]), ([13, 18, 8], [8, 13, 18]), ([8, 19], [8, 19])])
def impl_SameStands.B1 : List Nat := [0, 1, 3, 7, 15, 31, 63, 127, 255, 511, 1023, 2047, 4095, 8191, 511, 16895, 49663, 115199, 246271, 524287, 1048575]
theorem impl_SameStands.tab1 : rtab .any (opsOf Tryz.f11 1) = impl_SameStands.T1 := by kernel_rfl
theorem impl_SameStands.bits1 : waitsOk impl_SameStands.T1.2 impl_SameStands.B1 = true := by kernel_rfl
set_option maxHeartbeats 8000000 in
set_option maxRecDepth 100000 in
theorem impl_SameStands.calls (k : Nat) (A0 : Option Addr) (c0 : Nat) (l0 : List (S43)) (A1 : Option Addr) (c1 : Nat) (l1 : List (S43)) (r : Bool) (w : World) (hr0 : Kd.C k43 w A0 l0.length l0) (hc0 : l0.length ≤ c0) (hr1 : Kd.C k43 w A1 l1.length l1) (hc1 : l1.length ≤ c1) (h : impl_SameStands.f k l0 l1 = some r) :
  Calls Tryz.prog 11 #[.slice A0 l0.length c0, .slice A1 l1.length c1] w fun e w' => e = .returned (.bool r) ∧ Below w.heap.size w w' := by
 have o0 := B_ hr0; have HC0 := B_ hc0; clear hr0 hc0; have x0 := B_ hr1; have HC1 := B_ hc1; clear hr1 hc1; have HB := B_ (A__ w.heap.size w); have H : ((impl_areRegular.f k l0).bind fun z0 => (if z0 = true then ((impl_areRegular.f k l1).bind fun C0 => (if C0 = true then (if 0 < (l0.length : Int) then (if 0 < (l1.length : Int) then (if (((rd_T43 l0 0).f0).length : Int) = (((rd_T43 l1 0).f0).length : Int) then ((hof_SameStands.f k (((rd_T43 l0 0).f0).length : Int) l0 l1).bind fun D0 => (some (!D0))) else (some false)) else (none)) else (none)) else (some false))) else (some false))) = some r := h; clear h; obtain ⟨z0, A3, H⟩ := ob_ H; by_cases c4 : z0 = true
 ·subst c4; rw [G_ rfl] at H; obtain ⟨C0, A5, H⟩ := ob_ H; by_cases c6 : C0 = true
  ·subst c6; rw [G_ rfl] at H; by_cases c7 : 0 < (l0.length : Int)
   ·rw [G_ c7] at H; have x1 := C_ c7; have y1 : decide (0 < l0.length) = true := C_ (by omega); clear c7; by_cases c8 : 0 < (l1.length : Int)
    ·rw [G_ c8] at H; have z1 := C_ c8; have C1 : decide (0 < l1.length) = true := C_ (by omega); clear c8; by_cases c9 : (((rd_T43 l0 0).f0).length : Int) = (((rd_T43 l1 0).f0).length : Int)
     ·rw [G_ c9] at H; have n1 := D__ c9; have o1 := T_ c9; have p1 : (((rd_T43 l0 0).f0).length == ((rd_T43 l1 0).f0).length) = true := by first | simpa using c9 | (simp at c9 ⊢; omega)
      clear c9; obtain ⟨D0, A10, H⟩ := ob_ H; obtain rfl := F_ H; go_enter Tryz.func11, Tryz.ntmps11
      try go_wp2_with (first | ((with_reducible refine Y_ (N := 2) rfl ?_); (try (refine gate_guard (by rfl) ?_; dsimp only)); refine be_ (N := 2) (cs := #[.slice A0 l0.length c0]) (t := 27) ?_; intro m0 hg D1 hbox hb; have a0 := B_ (hbox); have O0 := B_ ((by rw [hg]; exact (H_ (uB HB.out)) : w.heap.size ≤ m0)); have P0 := ge_ hg HB; replace HB := hB_ HB hb; clear hb hbox hg) | ((with_reducible refine Y_ (N := 3) rfl ?_); (try (refine gate_guard (by rfl) ?_; dsimp only)); refine be_ (N := 3) (cs := #[.slice A1 l1.length c1]) (t := 27) ?_; intro n0 hg q1 hbox hb; have b0 := B_ (hbox); have Q0 := B_ ((by rw [hg]; exact (H_ (uB HB.out)) : w.heap.size ≤ n0)); have R0 := ge_ hg HB; replace HB := hB_ HB hb; have M0 := nl_ hg a0; have N0 := nr_ hg a0; replace a0 := kb_ a0 hb; clear hb hbox hg))
      replace a0 := B_ (X_ a0.out); replace b0 := B_ (X_ b0.out); replace HB := B_ (below_drew1 HB.out); have q0 : 0 ≤ (0 : Int) := (by omega); have r0 : 0 < (l0.length : Int) := od_; obtain ⟨p0, U0, V0, X0, g0, E0, G0⟩ := at_T43 o0.out 0 q0 r0; have d0 := g0; (try rw [show ((0 : Int)).toNat = 0 from rfl] at d0); (try rw [show 0 * 1 = 0 from rfl] at d0); (try rw [Addr.add_zero'] at d0)
      cases X0; have qi571 : (0 < l0.length) = True := E_ (by omega); (try rw [show ((0 : Int)).toNat = 0 from rfl] at g0); (try rw [Addr.add_zero'] at g0); replace g0 := (HB.out.cell (D_ w _ g0)).trans g0; have Y0 := B_ G0; have HC571_0 := B_ E0; clear G0 E0; replace q0 := E_ q0; replace r0 := E_ r0; have t0 : 0 ≤ (0 : Int) := (by omega); have u0 : 0 < (l1.length : Int) := od_; obtain ⟨v0, Z0, a1, b1, j0, J0, L0⟩ := at_T43 x0.out 0 t0 u0; have e0 := j0; (try rw [show ((0 : Int)).toNat = 0 from rfl] at e0); (try rw [show 0 * 1 = 0 from rfl] at e0); (try rw [Addr.add_zero'] at e0)
      cases b1; have qi572 : (0 < l1.length) = True := E_ (by omega); (try rw [show ((0 : Int)).toNat = 0 from rfl] at j0); (try rw [Addr.add_zero'] at j0); replace j0 := (HB.out.cell (D_ w _ j0)).trans j0; have d1 := B_ L0; have HC572_0 := B_ J0; clear L0 J0; replace t0 := E_ t0; replace u0 := E_ u0; refine start_ (n := 21) (S := fun w' => w'.cell? ⟨m0, 0, none⟩ = some (.slice (some p0) l0.length c0) ∧ w'.cell? ⟨n0, 0, none⟩ = some (.slice (some v0) l1.length c1) ∧ w'.cell? p0 = some (.slice U0 ((rd_T43 l0 0).f0).length V0) ∧ w'.cell? v0 = some (.slice Z0 ((rd_T43 l1 0).f0).length a1)) (ds := []) (bs_ 21 0) (by kernel_rfl) rfl rfl ⟨bc_ a0 0, bc_ b0 0, ((HB.out.cell (D_ w _ d0)).trans d0), ((HB.out.cell (D_ w _ e0)).trans e0)⟩ (fun hHeld => ?_); refine with_tabW impl_SameStands.tab1 impl_SameStands.bits1 (fun HT_ HW_ => ?_); generalize q1.drew = E1 at a0 b0 HB Y0 d1 g0 j0 hHeld ⊢; refine tq_ 0 5 21 1 HT_ HW_ hHeld ?_; refine on_ 1 6 21 3 HT_ (fun K hK => ?_); refine gO_ Tryz.func16 #[.slice (some p0) l0.length c0] ?_
      with_reducible refine (impl_areRegular.calls k _ _ l0 true _ ?side1 ?side2 A3.out).mono ?_
      (case side1 => exact cu_ o0 HB)
      (case side2 => exact HC0.out)
      rintro e G1 ⟨rfl, hb⟩; refine ⟨_, rfl, ?_⟩; replace a0 := kb_ a0 hb; replace b0 := kb_ b0 hb; replace HB := hB_ HB hb; (try clear hb); refine hK.out _ _ ⟨bc_ a0 0, bc_ b0 0, ((HB.out.cell (D_ w _ d0)).trans d0), ((HB.out.cell (D_ w _ e0)).trans e0)⟩ (fun hHeld => ?_); clear hK K; refine norm_ (a' := ?_) ?_ ?_; rotate_left
      ·show Act.put _ (some 6) _ = _
       simp only [Act.put, pt_]
       rfl
      refine pq_ 2 7 21 7 HT_ ?_; refine pq_ 3 8 21 15 HT_ ?_; refine tq_ 4 9 21 31 HT_ HW_ hHeld ?_; refine on_ 5 10 21 63 HT_ (fun K hK => ?_); refine gO_ Tryz.func16 #[.slice (some v0) l1.length c1] ?_
      with_reducible refine (impl_areRegular.calls k _ _ l1 true _ ?side1 ?side2 A5.out).mono ?_
      (case side1 => exact cu_ x0 HB)
      (case side2 => exact HC1.out)
      rintro e J1 ⟨rfl, hb⟩; refine ⟨_, rfl, ?_⟩; replace a0 := kb_ a0 hb; replace b0 := kb_ b0 hb; replace HB := hB_ HB hb; (try clear hb); refine hK.out _ _ ⟨bc_ a0 0, bc_ b0 0, ((HB.out.cell (D_ w _ d0)).trans d0), ((HB.out.cell (D_ w _ e0)).trans e0)⟩ (fun hHeld => ?_); clear hK K; refine norm_ (a' := ?_) ?_ ?_; rotate_left
      ·show Act.put _ (some 10) _ = _
       simp only [Act.put, pt_]
       rfl
      refine pq_ 6 11 21 127 HT_ ?_; refine pq_ 7 12 21 255 HT_ ?_; refine pq_ 8 13 21 511 HT_ ?_; refine tq_ 9 14 21 1023 HT_ HW_ hHeld ?_; refine pq_ 10 15 21 2047 HT_ ?_; refine pq_ 11 16 21 4095 HT_ ?_; refine tq_ 12 17 21 8191 HT_ HW_ hHeld ?_; refine pq_ 13 18 21 16383 HT_ ?_; refine tq_ 14 19 21 32767 HT_ HW_ hHeld ?_; refine pq_ 15 20 21 65535 HT_ ?_; refine pq_ 16 21 21 131071 HT_ ?_; refine tq_ 17 22 21 262143 HT_ HW_ hHeld ?_; refine pq_ 18 23 21 524287 HT_ ?_; refine pq_ 19 24 21 1048575 HT_ ?_; refine pq_ 20 25 21 2097151 HT_ ?_; refine done_ (done_of HT_.out (by kernel_rfl)) ?_; have L1 := M0.out; have M1 := N0.out; have N1 := bx1 a0.out; have e1 : 0 ≤ (0 : Int) := (by omega); have g1 : 0 < (l0.length : Int) := od_; obtain ⟨r1, O1, P1, s1, y0, j1, m1⟩ := at_T43 o0.out 0 e1 g1; obtain rfl : p0 = r1 := (by injection s1); have qi573 : (0 < l0.length) = True := E_ (by omega); (try rw [show ((0 : Int)).toNat = 0 from rfl] at y0); (try rw [Addr.add_zero'] at y0); replace y0 := (HB.out.cell (D_ w _ y0)).trans y0; have Q1 := B_ m1; have HC573_0 := B_ j1; clear m1 j1; replace e1 := E_ e1; replace g1 := E_ g1; have ea_ := F_ (((HB.out.cell (D_ w _ d0)).trans d0).symm.trans y0); injection ea_ with ea_ en_ ec_
      subst ea_; subst ec_; clear en_
      try go_wp2_with (first | ((with_reducible refine J_ (f := 28) rfl ?_); refine gL_ (some 32) Tryz.func28 #[.int .i64 (((rd_T43 l0 0).f0).length : Int), .func (.func 29) #[] #[.pointer (some ⟨m0, 0, none⟩), .pointer (some ⟨n0, 0, none⟩)]] ?_; (with_reducible refine (hof_SameStands.calls k (((rd_T43 l0 0).f0).length : Int) _ _ l0 _ _ l1 _ _ D0 _ ?side1 ?side2 ?side3 ?side4 (by exact (uK a0.out)) (by exact (uK b0.out)) A10.out).mono ?_); (case side1 => exact cu_ o0 HB); (case side2 => exact HC0.out); (case side3 => exact cu_ x0 HB); (case side4 => exact HC1.out); rintro e R1 ⟨rfl, hb⟩; refine ⟨_, rfl, ?_⟩; replace a0 := kb_ a0 hb; replace b0 := kb_ b0 hb; replace HB := hB_ HB hb; (try clear hb)))
      go_ret; exact ⟨ew_, uB HB.out⟩
     ·rw [I_ c9] at H; have n1 := P_ c9; have o1 := B__ c9; have p1 : (((rd_T43 l0 0).f0).length == ((rd_T43 l1 0).f0).length) = false := by first | simpa using c9 | (simp at c9 ⊢; omega)
      obtain rfl := F_ H; go_enter Tryz.func11, Tryz.ntmps11
      try go_wp2_with (first | ((with_reducible refine Y_ (N := 2) rfl ?_); (try (refine gate_guard (by rfl) ?_; dsimp only)); refine be_ (N := 2) (cs := #[.slice A0 l0.length c0]) (t := 27) ?_; intro m0 hg U1 hbox hb; have a0 := B_ (hbox); have O0 := B_ ((by rw [hg]; exact (H_ (uB HB.out)) : w.heap.size ≤ m0)); have P0 := ge_ hg HB; replace HB := hB_ HB hb; clear hb hbox hg) | ((with_reducible refine Y_ (N := 3) rfl ?_); (try (refine gate_guard (by rfl) ?_; dsimp only)); refine be_ (N := 3) (cs := #[.slice A1 l1.length c1]) (t := 27) ?_; intro n0 hg t1 hbox hb; have b0 := B_ (hbox); have Q0 := B_ ((by rw [hg]; exact (H_ (uB HB.out)) : w.heap.size ≤ n0)); have R0 := ge_ hg HB; replace HB := hB_ HB hb; have M0 := nl_ hg a0; have N0 := nr_ hg a0; replace a0 := kb_ a0 hb; clear hb hbox hg))
      replace a0 := B_ (X_ a0.out); replace b0 := B_ (X_ b0.out); replace HB := B_ (below_drew1 HB.out); have q0 : 0 ≤ (0 : Int) := (by omega); have r0 : 0 < (l0.length : Int) := od_; obtain ⟨p0, U0, V0, X0, g0, E0, G0⟩ := at_T43 o0.out 0 q0 r0; have d0 := g0; (try rw [show ((0 : Int)).toNat = 0 from rfl] at d0); (try rw [show 0 * 1 = 0 from rfl] at d0); (try rw [Addr.add_zero'] at d0)
      cases X0; have qi571 : (0 < l0.length) = True := E_ (by omega); (try rw [show ((0 : Int)).toNat = 0 from rfl] at g0); (try rw [Addr.add_zero'] at g0); replace g0 := (HB.out.cell (D_ w _ g0)).trans g0; have Y0 := B_ G0; have HC571_0 := B_ E0; clear G0 E0; replace q0 := E_ q0; replace r0 := E_ r0; have t0 : 0 ≤ (0 : Int) := (by omega); have u0 : 0 < (l1.length : Int) := od_; obtain ⟨v0, Z0, a1, b1, j0, J0, L0⟩ := at_T43 x0.out 0 t0 u0; have e0 := j0; (try rw [show ((0 : Int)).toNat = 0 from rfl] at e0); (try rw [show 0 * 1 = 0 from rfl] at e0); (try rw [Addr.add_zero'] at e0)
      cases b1; have qi572 : (0 < l1.length) = True := E_ (by omega); (try rw [show ((0 : Int)).toNat = 0 from rfl] at j0); (try rw [Addr.add_zero'] at j0); replace j0 := (HB.out.cell (D_ w _ j0)).trans j0; have d1 := B_ L0; have HC572_0 := B_ J0; clear L0 J0; replace t0 := E_ t0; replace u0 := E_ u0; refine start_ (n := 21) (S := fun w' => w'.cell? ⟨m0, 0, none⟩ = some (.slice (some p0) l0.length c0) ∧ w'.cell? ⟨n0, 0, none⟩ = some (.slice (some v0) l1.length c1) ∧ w'.cell? p0 = some (.slice U0 ((rd_T43 l0 0).f0).length V0) ∧ w'.cell? v0 = some (.slice Z0 ((rd_T43 l1 0).f0).length a1)) (ds := []) (bs_ 21 0) (by kernel_rfl) rfl rfl ⟨bc_ a0 0, bc_ b0 0, ((HB.out.cell (D_ w _ d0)).trans d0), ((HB.out.cell (D_ w _ e0)).trans e0)⟩ (fun hHeld => ?_); refine with_tabW impl_SameStands.tab1 impl_SameStands.bits1 (fun HT_ HW_ => ?_); generalize t1.drew = V1 at a0 b0 HB Y0 d1 g0 j0 hHeld ⊢; refine tq_ 0 5 21 1 HT_ HW_ hHeld ?_; refine on_ 1 6 21 3 HT_ (fun K hK => ?_); refine gO_ Tryz.func16 #[.slice (some p0) l0.length c0] ?_
      with_reducible refine (impl_areRegular.calls k _ _ l0 true _ ?side1 ?side2 A3.out).mono ?_
      (case side1 => exact cu_ o0 HB)
      (case side2 => exact HC0.out)
      rintro e X1 ⟨rfl, hb⟩; refine ⟨_, rfl, ?_⟩; replace a0 := kb_ a0 hb; replace b0 := kb_ b0 hb; replace HB := hB_ HB hb; (try clear hb); refine hK.out _ _ ⟨bc_ a0 0, bc_ b0 0, ((HB.out.cell (D_ w _ d0)).trans d0), ((HB.out.cell (D_ w _ e0)).trans e0)⟩ (fun hHeld => ?_); clear hK K; refine norm_ (a' := ?_) ?_ ?_; rotate_left
      ·show Act.put _ (some 6) _ = _
       simp only [Act.put, pt_]
       rfl
      refine pq_ 2 7 21 7 HT_ ?_; refine pq_ 3 8 21 15 HT_ ?_; refine tq_ 4 9 21 31 HT_ HW_ hHeld ?_; refine on_ 5 10 21 63 HT_ (fun K hK => ?_); refine gO_ Tryz.func16 #[.slice (some v0) l1.length c1] ?_
      with_reducible refine (impl_areRegular.calls k _ _ l1 true _ ?side1 ?side2 A5.out).mono ?_
      (case side1 => exact cu_ x0 HB)
      (case side2 => exact HC1.out)
      rintro e Y1 ⟨rfl, hb⟩; refine ⟨_, rfl, ?_⟩; replace a0 := kb_ a0 hb; replace b0 := kb_ b0 hb; replace HB := hB_ HB hb; (try clear hb); refine hK.out _ _ ⟨bc_ a0 0, bc_ b0 0, ((HB.out.cell (D_ w _ d0)).trans d0), ((HB.out.cell (D_ w _ e0)).trans e0)⟩ (fun hHeld => ?_); clear hK K; refine norm_ (a' := ?_) ?_ ?_; rotate_left
      ·show Act.put _ (some 10) _ = _
       simp only [Act.put, pt_]
       rfl
      refine pq_ 6 11 21 127 HT_ ?_; refine pq_ 7 12 21 255 HT_ ?_; refine pq_ 8 13 21 511 HT_ ?_; refine tq_ 9 14 21 1023 HT_ HW_ hHeld ?_; refine pq_ 10 15 21 2047 HT_ ?_; refine pq_ 11 16 21 4095 HT_ ?_; refine tq_ 12 17 21 8191 HT_ HW_ hHeld ?_; refine pq_ 13 18 21 16383 HT_ ?_; refine tq_ 14 19 21 32767 HT_ HW_ hHeld ?_; refine pq_ 15 20 21 65535 HT_ ?_; refine pq_ 16 21 21 131071 HT_ ?_; refine tq_ 17 22 21 262143 HT_ HW_ hHeld ?_; refine pq_ 18 23 21 524287 HT_ ?_; refine pq_ 19 24 21 1048575 HT_ ?_; refine pq_ 20 25 21 2097151 HT_ ?_; refine done_ (done_of HT_.out (by kernel_rfl)) ?_
      try go_wp2
      go_ret; exact ⟨ew_, uB HB.out⟩
    ·rw [I_ c8] at H; exact absurd H (by simp)
   ·rw [I_ c7] at H; exact absurd H (by simp)
  ·replace c6 := L_ c6; subst c6; rw [I_ (show ¬ (false = true) by decide)] at H; obtain rfl := F_ H; go_enter Tryz.func11, Tryz.ntmps11
   try go_wp2_with (first | ((with_reducible refine Y_ (N := 2) rfl ?_); (try (refine gate_guard (by rfl) ?_; dsimp only)); refine be_ (N := 2) (cs := #[.slice A0 l0.length c0]) (t := 27) ?_; intro m0 hg Z1 hbox hb; have a0 := B_ (hbox); have O0 := B_ ((by rw [hg]; exact (H_ (uB HB.out)) : w.heap.size ≤ m0)); have P0 := ge_ hg HB; replace HB := hB_ HB hb; clear hb hbox hg) | ((with_reducible refine Y_ (N := 3) rfl ?_); (try (refine gate_guard (by rfl) ?_; dsimp only)); refine be_ (N := 3) (cs := #[.slice A1 l1.length c1]) (t := 27) ?_; intro n0 hg u1 hbox hb; have b0 := B_ (hbox); have Q0 := B_ ((by rw [hg]; exact (H_ (uB HB.out)) : w.heap.size ≤ n0)); have R0 := ge_ hg HB; replace HB := hB_ HB hb; have M0 := nl_ hg a0; have N0 := nr_ hg a0; replace a0 := kb_ a0 hb; clear hb hbox hg))
   replace a0 := B_ (X_ a0.out); replace b0 := B_ (X_ b0.out); replace HB := B_ (below_drew1 HB.out); refine start_ (n := 21) (S := fun w' => w'.cell? ⟨m0, 0, none⟩ = some (.slice A0 l0.length c0) ∧ w'.cell? ⟨n0, 0, none⟩ = some (.slice A1 l1.length c1)) (ds := []) (bs_ 21 0) (by kernel_rfl) rfl rfl ⟨bc_ a0 0, bc_ b0 0⟩ (fun hHeld => ?_); refine with_tabW impl_SameStands.tab1 impl_SameStands.bits1 (fun HT_ HW_ => ?_); generalize u1.drew = a2 at a0 b0 HB hHeld ⊢; refine tq_ 0 5 21 1 HT_ HW_ hHeld ?_; refine on_ 1 6 21 3 HT_ (fun K hK => ?_); refine gO_ Tryz.func16 #[.slice A0 l0.length c0] ?_
   with_reducible refine (impl_areRegular.calls k _ _ l0 true _ ?side1 ?side2 A3.out).mono ?_
   (case side1 => exact cu_ o0 HB)
   (case side2 => exact HC0.out)
   rintro e b2 ⟨rfl, hb⟩; refine ⟨_, rfl, ?_⟩; replace a0 := kb_ a0 hb; replace b0 := kb_ b0 hb; replace HB := hB_ HB hb; (try clear hb); refine hK.out _ _ ⟨bc_ a0 0, bc_ b0 0⟩ (fun hHeld => ?_); clear hK K; refine norm_ (a' := ?_) ?_ ?_; rotate_left
   ·show Act.put _ (some 6) _ = _
    simp only [Act.put, pt_]
    rfl
   refine pq_ 2 7 21 7 HT_ ?_; refine pq_ 3 8 21 15 HT_ ?_; refine tq_ 4 9 21 31 HT_ HW_ hHeld ?_; refine on_ 5 10 21 63 HT_ (fun K hK => ?_); refine gO_ Tryz.func16 #[.slice A1 l1.length c1] ?_
   with_reducible refine (impl_areRegular.calls k _ _ l1 false _ ?side1 ?side2 A5.out).mono ?_
   (case side1 => exact cu_ x0 HB)
   (case side2 => exact HC1.out)
   rintro e c2 ⟨rfl, hb⟩; refine ⟨_, rfl, ?_⟩; replace a0 := kb_ a0 hb; replace b0 := kb_ b0 hb; replace HB := hB_ HB hb; (try clear hb); refine hK.out _ _ ⟨bc_ a0 0, bc_ b0 0⟩ (fun hHeld => ?_); clear hK K; refine norm_ (a' := ?_) ?_ ?_; rotate_left
   ·show Act.put _ (some 10) _ = _
    simp only [Act.put, pt_]
    rfl
   refine pq_ 6 11 21 127 HT_ ?_; refine pq_ 7 12 21 255 HT_ ?_; refine pq_ 8 13 21 511 HT_ ?_; refine pr_ 9 14 21 1023 HT_ ?_; refine pr_ 10 15 21 2047 HT_ ?_; refine pr_ 11 16 21 4095 HT_ ?_; refine pr_ 12 17 21 8191 HT_ ?_; refine pr_ 13 18 21 16383 HT_ ?_; refine pr_ 14 19 21 32767 HT_ ?_; refine pr_ 15 20 21 65535 HT_ ?_; refine pr_ 16 21 21 131071 HT_ ?_; refine pr_ 17 22 21 262143 HT_ ?_; refine pr_ 18 23 21 524287 HT_ ?_; refine pr_ 19 24 21 1048575 HT_ ?_; refine pq_ 20 25 21 2097151 HT_ ?_; refine done_ (done_of HT_.out (by kernel_rfl)) ?_
   try go_wp2
   go_ret; exact ⟨ew_, uB HB.out⟩
 ·replace c4 := L_ c4; subst c4; rw [I_ (show ¬ (false = true) by decide)] at H; obtain rfl := F_ H; go_enter Tryz.func11, Tryz.ntmps11
  try go_wp2_with (first | ((with_reducible refine Y_ (N := 2) rfl ?_); (try (refine gate_guard (by rfl) ?_; dsimp only)); refine be_ (N := 2) (cs := #[.slice A0 l0.length c0]) (t := 27) ?_; intro m0 hg d2 hbox hb; have a0 := B_ (hbox); have O0 := B_ ((by rw [hg]; exact (H_ (uB HB.out)) : w.heap.size ≤ m0)); have P0 := ge_ hg HB; replace HB := hB_ HB hb; clear hb hbox hg) | ((with_reducible refine Y_ (N := 3) rfl ?_); (try (refine gate_guard (by rfl) ?_; dsimp only)); refine be_ (N := 3) (cs := #[.slice A1 l1.length c1]) (t := 27) ?_; intro n0 hg v1 hbox hb; have b0 := B_ (hbox); have Q0 := B_ ((by rw [hg]; exact (H_ (uB HB.out)) : w.heap.size ≤ n0)); have R0 := ge_ hg HB; replace HB := hB_ HB hb; have M0 := nl_ hg a0; have N0 := nr_ hg a0; replace a0 := kb_ a0 hb; clear hb hbox hg))
  replace a0 := B_ (X_ a0.out); replace b0 := B_ (X_ b0.out); replace HB := B_ (below_drew1 HB.out); refine start_ (n := 21) (S := fun w' => w'.cell? ⟨m0, 0, none⟩ = some (.slice A0 l0.length c0)) (ds := []) (bs_ 21 0) (by kernel_rfl) rfl rfl (bc_ a0 0) (fun hHeld => ?_); refine with_tabW impl_SameStands.tab1 impl_SameStands.bits1 (fun HT_ HW_ => ?_); generalize v1.drew = e2 at a0 b0 HB hHeld ⊢; refine tk_ 0 5 21 1 ?_ HT_ HW_ rfl rfl (by kernel_rfl) (fun _ _ _ h => h) (Or.inl ⟨by rfl, ?_⟩) hHeld ?_ ?_ ?_; rotate_left
  ·intro w' s0; go_simp
   with_reducible rfl
  rotate_left
  ·simp only [Act.put, pt_]
   rfl
  refine on_ 1 6 21 3 HT_ (fun K hK => ?_); refine gO_ Tryz.func16 #[.slice A0 l0.length c0] ?_
  with_reducible refine (impl_areRegular.calls k _ _ l0 false _ ?side1 ?side2 A3.out).mono ?_
  (case side1 => exact cu_ o0 HB)
  (case side2 => exact HC0.out)
  rintro e g2 ⟨rfl, hb⟩; refine ⟨_, rfl, ?_⟩; replace a0 := kb_ a0 hb; replace b0 := kb_ b0 hb; replace HB := hB_ HB hb; (try clear hb); refine hK.out _ _ (bc_ a0 0) (fun hHeld => ?_); clear hK K; refine norm_ (a' := ?_) ?_ ?_; rotate_left
  ·show Act.put _ (some 6) _ = _
   simp only [Act.put, pt_]
   rfl
  refine pq_ 2 7 21 7 HT_ ?_; refine pq_ 3 8 21 15 HT_ ?_; refine pr_ 4 9 21 31 HT_ ?_; refine pr_ 5 10 21 63 HT_ ?_; refine pr_ 6 11 21 127 HT_ ?_; refine pq_ 7 12 21 255 HT_ ?_; refine pq_ 8 13 21 511 HT_ ?_; refine pr_ 9 14 21 1023 HT_ ?_; refine pr_ 10 15 21 2047 HT_ ?_; refine pr_ 11 16 21 4095 HT_ ?_; refine pr_ 12 17 21 8191 HT_ ?_; refine pr_ 13 18 21 16383 HT_ ?_; refine pr_ 14 19 21 32767 HT_ ?_; refine pr_ 15 20 21 65535 HT_ ?_; refine pr_ 16 21 21 131071 HT_ ?_; refine pr_ 17 22 21 262143 HT_ ?_; refine pr_ 18 23 21 524287 HT_ ?_; refine pr_ 19 24 21 1048575 HT_ ?_; refine pq_ 20 25 21 2097151 HT_ ?_; refine done_ (done_of HT_.out (by kernel_rfl)) ?_
  try go_wp2
  go_ret; exact ⟨ew_, uB HB.out⟩

end Go.Proofs.YtdebpmdbeogglaaGreat.Q
