-- Written by a session's own program (wip/tools/myprint.py) over the kit's printer, out of the translation. Not trusted: Lean checks it.
import Derived.Test.YtdebpmdbeogglaaQ0
import Derived.Test.YtdebpmdbeogglaaQ7
-- squeezed
namespace Go.Proofs.Ytdebpmdbeogglaa.Q
open Go.RowKit Go.Proofs.YtdebpmdbeogglaaW.PrintWords Go.Proofs.YtdebpmdbeogglaaW.PrintLast Go.Proofs.YtdebpmdbeogglaaW.PrintMore
attribute [local go_sem] max2_int min2_int max_two min_two max_three min_three max_four min_four   -- for this text's walks alone
set_option linter.unusedVariables false
set_option linter.unusedSimpArgs false

/-! ### impl_ordered: function 56 -/
/-! ### Rows of whole numbers of the call's own that the library's sort has turned -/
theorem R_setCells (g n cap base e : Nat) (ok : Nat → Prop) (w0 : World) (hge : w0.heap.size ≤ g) : ∀ (vs : List Int) (i : Nat) (W : World) (xs : List Int), i + vs.length ≤ xs.length → Kd.R (Kd.int .i64) e W base ok (.slice (some ⟨g, 0, none⟩) n cap) xs → Below w0.heap.size w0 W →
    Kd.R (Kd.int .i64) e (W.setCells g i (vs.map (Value.int .i64))) base ok (.slice (some ⟨g, 0, none⟩) n cap) (xs.take i ++ vs ++ xs.drop (i + vs.length)) ∧ Below w0.heap.size w0 (W.setCells g i (vs.map (Value.int .i64))) ∧ (∀ k, k ≠ g → (W.setCells g i (vs.map (Value.int .i64))).heap[k]? = W.heap[k]?) ∧ (W.setCells g i (vs.map (Value.int .i64))).heap.size = W.heap.size
  | [], i, W, xs, _, h, hb => ⟨by rw [List.length_nil, Nat.add_zero, List.append_nil, List.take_append_drop]; exact h, hb, fun _ _ => rfl, rfl⟩
  | v :: vs, i, W, xs, hl, h, hb => by
    have h1 := Kd.R_putn h (i : Int) v
    rw [Int.toNat_natCast] at h1
    obtain ⟨h2, h3, h4, h5⟩ := R_setCells g n cap base e ok w0 hge vs (i + 1) _ _ (by simp at hl ⊢; omega) h1 (below_set hb hge)
    refine ⟨?_, h3, fun k hk => (h4 k hk).trans (Below.heap_setCell _ _ _ _ hk), h5.trans (by simp [World.setCell])⟩
    have e : (xs.set i v).take (i + 1) ++ vs ++ (xs.set i v).drop (i + 1 + vs.length) = xs.take i ++ (v :: vs) ++ xs.drop (i + (v :: vs).length) := by
      have hi : i < xs.length := by simp at hl; omega
      rw [List.take_succ_eq_append_getElem (by simpa using hi), List.drop_set_of_lt (by omega), List.take_set_of_le (Nat.le_refl i)]
      simp [show i + 1 + vs.length = i + (vs.length + 1) by omega]
    rw [← e]
    exact h2
theorem R_putRow {g n cap base e q : Nat} {ok : Nat → Prop} {W : World} {xs ys : List Int} {os : Array Obj} (w0 : World) (hge : w0.heap.size ≤ g) (hl : ys.length = xs.length) (h : Kd.R (Kd.int .i64) e W base ok (.slice (some ⟨g, 0, none⟩) n cap) xs) (hb : Below w0.heap.size w0 W) :
    Kd.R (Kd.int .i64) e (Go.Sort.grow (Go.Sort.putRow (Value.int .i64) (Go.Sort.ahead W q) g 0 ys.toArray) os) base ok (.slice (some ⟨g, 0, none⟩) n cap) ys ∧ Below w0.heap.size w0 (Go.Sort.grow (Go.Sort.putRow (Value.int .i64) (Go.Sort.ahead W q) g 0 ys.toArray) os) ∧ (∀ k, k < W.heap.size → k ≠ g → (Go.Sort.grow (Go.Sort.putRow (Value.int .i64) (Go.Sort.ahead W q) g 0 ys.toArray) os).heap[k]? = W.heap[k]?) ∧ W.heap.size ≤ (Go.Sort.grow (Go.Sort.putRow (Value.int .i64) (Go.Sort.ahead W q) g 0 ys.toArray) os).heap.size := by
  have hn := (Kd.R_reads' h).1
  have hH : Go.Sort.Holds (Value.int .i64) W g 0 xs.toArray := by
    intro j hj
    have hj' : j < xs.length := by simpa using hj
    obtain ⟨h1, h2⟩ := Kd.R_celln (0 : Int) h (j : Int) (by omega) (by omega)
    rw [Int.toNat_natCast] at h1 h2
    refine ⟨?_, by rw [Nat.zero_add]; exact h2⟩
    rw [Nat.zero_add, h1]
    congr 2
    rw [getElem!_pos xs.toArray j hj]
    unfold rdOf
    rw [Int.toNat_natCast, List.getD_eq_getElem?_getD, List.getElem?_eq_getElem hj']
    simp
  have hA : Go.Sort.putRow (Value.int .i64) (Go.Sort.ahead W q) g 0 xs.toArray = Go.Sort.ahead W q := Go.Sort.putRow_self (Value.int .i64) _ g 0 xs.toArray (Go.Sort.holds_ahead (Value.int .i64) W q g 0 xs.toArray hH)
  have hlay : Lib.lay xs.toArray 0 ys = ys.toArray := by
    apply Array.ext_getElem?
    intro j
    rw [Lib.lay_get? _ _ _ _ (by simp [hl])]
    by_cases c : j < ys.length
    · rw [if_pos (by omega), Nat.sub_zero]; simp
    · rw [if_neg (by omega), Array.getElem?_eq_none (by simp; omega), Array.getElem?_eq_none (by simp; omega)]
  have hS := Lib.putRow_setCells (Value.int .i64) (Go.Sort.ahead W q) g 0 ys xs.toArray 0 (by simp [hl])
  rw [hA, hlay, Nat.add_zero] at hS
  rw [← hS]
  have hRa : Kd.R (Kd.int .i64) e (Go.Sort.ahead W q) base ok (.slice (some ⟨g, 0, none⟩) n cap) xs := Kd.R_step h (fun _ _ _ => rfl)
  obtain ⟨h1, h2, h3, h4⟩ := R_setCells g n cap base e ok w0 hge ys 0 (Go.Sort.ahead W q) xs (by omega) hRa (hb.trans ⟨rfl, rfl, rfl, Nat.le_refl _, fun _ _ => rfl⟩)
  have e1 : xs.take 0 ++ ys ++ xs.drop (0 + ys.length) = ys := by rw [List.drop_of_length_le (by omega)]; simp
  rw [e1] at h1
  have h4' : ((Go.Sort.ahead W q).setCells g 0 (ys.map (Value.int .i64))).heap.size = W.heap.size := h4
  refine ⟨Kd.R_step h1 (fun k _ hk => Go.Sort.heap_grow_old _ os hk), h2.trans ⟨rfl, rfl, rfl, by simp, fun k hk => Go.Sort.heap_grow_old _ os (by have := h2.size; omega)⟩, fun k hk hne => (Go.Sort.heap_grow_old _ os (by omega)).trans (h3 k hne), by rw [Go.Sort.size_grow]; omega⟩
theorem R_holds {g n cap base e : Nat} {ok : Nat → Prop} {W : World} {xs : List Int} (h : Kd.R (Kd.int .i64) e W base ok (.slice (some ⟨g, 0, none⟩) n cap) xs) : Go.Sort.Holds (Value.int .i64) W g 0 xs.toArray := by
  have hn := (Kd.R_reads' h).1
  intro j hj
  have hj' : j < xs.length := by simpa using hj
  obtain ⟨h1, h2⟩ := Kd.R_celln (0 : Int) h (j : Int) (by omega) (by omega)
  rw [Int.toNat_natCast] at h1 h2
  refine ⟨?_, by rw [Nat.zero_add]; exact h2⟩
  rw [Nat.zero_add, h1]
  congr 2
  rw [getElem!_pos xs.toArray j hj]
  unfold rdOf
  rw [Int.toNat_natCast, List.getD_eq_getElem?_getD, List.getElem?_eq_getElem hj']
  simp

/-! ### ordered: a list in ascending order, each number once -/
def ascI (l : List Int) : List Int := Lib.compact (l.mergeSort fun x y => decide (x ≤ y))
def impl_ordered.f (l0 : List Int) : Option (List Int) := if l0.length < 4611686018427387904 then some (ascI l0) else none
theorem compact_len (l : List Int) : (Lib.compact l).length ≤ l.length := by
  unfold Lib.compact Lib.compactUpTo
  rw [List.length_map]
  exact Nat.le_trans (List.length_filter_le _ _) (by simp)
set_option maxHeartbeats 8000000 in
set_option maxRecDepth 100000 in
theorem impl_ordered.calls (P0_ : Nat → Prop) (u9000_ : Value) (l0 : List Int) (r : List Int) (w0 w : World) (hB : Below w0.heap.size w0 w) (ho0 : Kd.R (Kd.int .i64) 3 w w0.heap.size P0_ u9000_ l0) (h : impl_ordered.f l0 = some r) :
    Calls Try.prog 56 #[u9000_] w fun e w' => ∃ v0_ : Value, e = .returned (v0_) ∧ Kd.R (Kd.int .i64) 3 w' w0.heap.size (fun k_ => (P0_ k_ ∨ w.heap.size ≤ k_)) v0_ r ∧ Below w0.heap.size w0 w' ∧ Kept w w' (fun k_ => P0_ k_) := by
  unfold impl_ordered.f at h
  by_cases hsz : l0.length < 4611686018427387904
  · rw [if_pos hsz] at h
    obtain rfl := Option.some.inj h; obtain ⟨A, c, rfl⟩ := Kd.R_slice ho0
    rcases Nat.eq_zero_or_pos l0.length with hz | hp
    · obtain rfl := List.eq_nil_of_length_eq_zero hz
      have HS := Aside0.mk (fun W => Any.slices_Sort_int_none Try.sortL A c W); have HC := Aside0.mk (fun W => Any.slices_Compact_int_empty Try.compactL A c W); have HB := Aside0.mk hB; have e0 : ascI [] = [] := by simp [ascI, Lib.compact, Lib.compactUpTo]
      have HO : Aside0 (Kd.R (Kd.int .i64) 3 w w0.heap.size P0_ (.slice A 0 c) (ascI [])) := ⟨by rw [e0]; exact ho0⟩; generalize ascI [] = r0 at HO ⊢; clear hB ho0 hz hsz h e0
      show Calls Try.prog 56 #[.slice A 0 c] w _
      go_enter Try.func56, Try.ntmps56; go_wp2_with (first
        | (go_at_call 82; refine (HS.out _).mono ?_; rintro e w1 ⟨rfl, rfl⟩)
        | (go_at_call 83; refine (HC.out _).mono ?_; rintro e w2 ⟨rfl, rfl⟩))
      go_ret; exact ⟨_, rfl, Kd.R_mono HO.out (fun k hk => .inl hk), HB.out, Kept.refl _ _⟩
    · obtain ⟨g, cap, e, hge, hlt, _⟩ := Kd.R_form ho0 hp
      cases e; have hP : P0_ g := ho0.1 g rfl; have hcap : l0.length ≤ c := (Kd.R_reads' ho0).2.1; have HS := Aside0.mk (Any.slices_Sort_int Try.sortL g 0 c l0 w (R_holds ho0) hlt hsz); have HO := Aside0.mk ho0; have HB := Aside0.mk hB; have HGE := Aside0.mk hge; have HLT := Aside0.mk hlt; have HP := Aside0.mk hP; have HCP := Aside0.mk hcap; have HSZ := Aside0.mk hsz; have hml : (l0.mergeSort fun x y => decide (x ≤ y)).length = l0.length := List.length_mergeSort _; have HA : Aside0 (ascI l0 = Lib.compact (l0.mergeSort fun x y => decide (x ≤ y))) := ⟨rfl⟩; have HML := Aside0.mk hml; generalize (l0.mergeSort fun x y => decide (x ≤ y)) = s at HS HA HML; generalize ascI l0 = r at HA; clear hB ho0 hge hlt hP hcap hsz h hml hp; go_enter Try.func56, Try.ntmps56; go_wp2_with (go_at_call 82; refine HS.out.mono ?_; rintro e w1 ⟨rfl, q1, os1, hw1⟩; obtain ⟨x1, x2, x3, x4⟩ := R_putRow (q := q1) (os := os1) w0 HGE.out HML.out HO.out HB.out; rw [← hw1] at x1 x2 x3 x4; clear hw1; have HO1 := Aside0.mk x1; have HB1 := Aside0.mk x2; have HK1 := Aside0.mk x3; have HL1 := Aside0.mk x4; clear x1 x2 x3 x4; have HC := Aside0.mk (Any.slices_Compact_int Try.compactL g 0 c s w1 (R_holds HO1.out) (by have := HSZ.out; have := HML.out; omega) (by have := HCP.out; have := HML.out; omega)))
      rw [HML.out] at HC; go_wp2_with (go_at_call 83; refine HC.out.mono ?_; rintro e w2 ⟨rfl, q2, hw2⟩; obtain ⟨x1, x2, x3, x4⟩ := R_putRow (q := q2) (os := #[]) (ys := Lib.compact s ++ List.replicate (l0.length - (Lib.compact s).length) 0) w0 HGE.out (by have := compact_len s; have := HML.out; simp; omega) HO1.out HB1.out; rw [Go.Sort.grow_empty, ← hw2] at x1 x2 x3 x4; clear hw2; have HO2 := Aside0.mk x1; have HB2 := Aside0.mk x2; have HK2 := Aside0.mk x3; have HL2 := Aside0.mk x4; clear x1 x2 x3 x4)
      go_ret; have hR := Kd.R_take (m := (Lib.compact s).length) HO2.out (by simp); rw [List.take_left] at hR; rw [← HA.out] at hR ⊢; exact ⟨_, rfl, Kd.R_mono hR (fun k hk => .inl hk), HB2.out, Nat.le_trans HL1.out HL2.out, fun k hk hne => (HK2.out k (Nat.lt_of_lt_of_le hk HL1.out) (fun e => hne (e ▸ HP.out))).trans (HK1.out k hk (fun e => hne (e ▸ HP.out)))⟩
  · rw [if_neg hsz] at h
    cases h


/-! ### impl_EndsOf: function 23 -/
def impl_EndsOf.l0 : Nat → List Int → List (S52) → Int → Int → Option (List Int)
 | 0, _, _, _, _ => none
 | k + 1, x3, x6, x7, x8 => if x8 < x7 then (if 0 ≤ x8 then (if x8 < (x6.length : Int) then (if (((rd_T52 x6 x8).f0).length : Int) > 0 then (if 0 ≤ (wrap64 ((((rd_T52 x6 x8).f0).length : Int) - 1)) then (if (wrap64 ((((rd_T52 x6 x8).f0).length : Int) - 1)) < (((rd_T52 x6 x8).f0).length : Int) then (if x3.length < 17592186044416 then (impl_EndsOf.l0 k (x3 ++ [rd ((rd_T52 x6 x8).f0) (wrap64 ((((rd_T52 x6 x8).f0).length : Int) - 1))]) x6 x7 (wrap64 (x8 + 1))) else (none)) else (none)) else (none)) else (impl_EndsOf.l0 k x3 x6 x7 (wrap64 (x8 + 1)))) else (none)) else (none)) else ((impl_ordered.f x3).bind fun t469 => (some t469))
def impl_EndsOf.f (k : Nat) (l0 : List (S52)) : Option (List Int) := impl_EndsOf.l0 k ([] : List Int) l0 (l0.length : Int) 0
set_option maxHeartbeats 8000000 in
set_option maxRecDepth 100000 in
theorem impl_EndsOf.calls (k : Nat) (A0 : Option Addr) (c0 : Nat) (l0 : List (S52)) (r : List Int) (w : World) (hr0 : Kd.C k52 w A0 l0.length l0) (hc0 : l0.length ≤ c0) (h : impl_EndsOf.f k l0 = some r) :
  Calls Try.prog 23 #[.slice A0 l0.length c0] w fun e w' => ∃ v0_ : Value, e = .returned (v0_) ∧ Kd.R (Kd.int .i64) 3 w' w.heap.size (fun _ => True) v0_ r ∧ Below w.heap.size w w' := by
 have hu52 := Try.underlying52; have HR0 := Aside0.mk hr0; have HC0 := Aside0.mk hc0; clear hr0 hc0; have HB := Aside0.mk (Below.refl w.heap.size w); have H : (impl_EndsOf.l0 k ([] : List Int) l0 (l0.length : Int) 0) = some r := h; clear h; have H' := Aside0.mk H; clear H; go_enter Try.func23, Try.ntmps23; go_wp2; go_loopg [3, 8] k (fun kq v3 v8 w' => ∃ (x3_1 : List Int) (x8_1 : Int), v8 = .int .i64 x8_1 ∧ Aside0 (impl_EndsOf.l0 kq x3_1 l0 (l0.length : Int) x8_1 = some r) ∧ Aside0 (kq ≤ k) ∧ Aside0 (Kd.R (Kd.int .i64) 3 w' w.heap.size (fun _ => True) v3 x3_1) ∧ Aside0 (Below w.heap.size w w'))
 case atStart => exact ⟨(([] : List Int)), (0), ev_, H', ⟨Nat.le_refl _⟩, ⟨by first | exact Kd.R_nil _ _ _ _ _ | exact Kd.N_nil _ _ _ _ _ | exact Kd.V_nil _ _ _ _ _ | exact Kd.Q_nil _ _ _ _ _ | exact Kd.S_nil _ _ _ _ _⟩, ⟨uB HB.out⟩⟩
 case round =>
  clear H'; obtain ⟨x3_1, x8_1, rfl, HA, HK1, HO_3, HB⟩ := hrel
  cases gk with
  | zero => exact absurd HA.out (by simp [impl_EndsOf.l0])
  | succ k1 =>
   have H := HA.out; clear HA; simp only [impl_EndsOf.l0] at H; by_cases c2 : x8_1 < (l0.length : Int)
   ·rw [if_pos c2] at H; have c2b0 : decide (x8_1 < (l0.length : Int)) = true := decide_eq_true c2; clear c2; by_cases c3 : 0 ≤ x8_1
    ·rw [if_pos c3] at H; have c3b0 : decide (0 ≤ x8_1) = true := decide_eq_true c3; clear c3; by_cases c4 : x8_1 < (l0.length : Int)
     ·rw [if_pos c4] at H; have c4b0 : decide (x8_1 < (l0.length : Int)) = true := decide_eq_true c4; clear c4; by_cases c5 : (((rd_T52 l0 x8_1).f0).length : Int) > 0
      ·rw [if_pos c5] at H; have c5b0 : decide (0 < (((rd_T52 l0 x8_1).f0).length : Int)) = true := decide_eq_true c5; have c5b1 : decide (0 < ((rd_T52 l0 x8_1).f0).length) = true := decide_eq_true (by omega); clear c5; obtain ⟨ji6, hji6⟩ : ∃ j_ : Int, (wrap64 ((((rd_T52 l0 x8_1).f0).length : Int) - 1)) = j_ := ⟨_, rfl⟩; replace H : (if 0 ≤ (ji6) then (if (ji6) < (((rd_T52 l0 x8_1).f0).length : Int) then (if x3_1.length < 17592186044416 then (impl_EndsOf.l0 k1 (x3_1 ++ [rd ((rd_T52 l0 x8_1).f0) (ji6)]) l0 (l0.length : Int) (wrap64 (x8_1 + 1))) else (none)) else (none)) else (none)) = some r := by first | (rw [hji6] at H; exact H) | (simp only [hji6] at H ⊢; exact H)
       have hji6w : (IntKind.i64.wrap ((((rd_T52 l0 x8_1).f0).length : Int) - 1)) = ji6 := (i64_w _).trans hji6; by_cases c7 : 0 ≤ (ji6)
       ·rw [if_pos c7] at H; have c7b0 : decide (0 ≤ (ji6)) = true := decide_eq_true c7; clear c7; by_cases c8 : (ji6) < (((rd_T52 l0 x8_1).f0).length : Int)
        ·rw [if_pos c8] at H; have c8b0 : decide ((ji6) < (((rd_T52 l0 x8_1).f0).length : Int)) = true := decide_eq_true c8; clear c8; by_cases c9 : x3_1.length < 17592186044416
         ·rw [if_pos c9] at H; have LMc9 := Aside0.mk c9; clear c9; obtain ⟨y466, hy466⟩ : ∃ y_ : List Int, y_ = (x3_1 ++ [rd ((rd_T52 l0 x8_1).f0) (ji6)]) := ⟨_, rfl⟩; replace H : (impl_EndsOf.l0 k1 y466 l0 (l0.length : Int) (wrap64 (x8_1 + 1))) = some r := by first | (rw [hy466]; with_reducible exact H) | (have H2_ := (Option.bind_some _ _).symm.trans H; rw [hy466]; with_reducible exact H2_) | (have H2_ := (Option.bind_some _ _).symm.trans H; with_reducible exact H2_) | with_reducible exact H | (rw [hy466]; exact H) | exact H
          have Ny466 := Aside0.mk hy466; clear hy466; have H' := Aside0.mk H; clear H; have p463 : 0 ≤ (x8_1 : Int) := od_; have q463 : x8_1 < (l0.length : Int) := od_; obtain ⟨ad463, A463_0, c463_0, e463, hx463_0, hl463_0, hi463_0⟩ := at_T52 HR0.out x8_1 p463 q463
          cases e463; replace hx463_0 := (HB.out.cell (World.block_lt_of_cell? w _ hx463_0)).trans hx463_0; have HR463_0 := Aside0.mk hi463_0; have HC463_0 := Aside0.mk hl463_0; clear hi463_0 hl463_0; replace p463 := eq_true p463; replace q463 := eq_true q463; go_wp2_with (first | ((with_reducible refine gate_dst (N := 5) rfl ?_); refine box_event ?hg (N := 5) ?hd (cs := #[.slice none 0 0]) (t := 52) ?hr ?_; (case hd => rfl); (case hg => rfl); (case hr => first | (go_simp; done) | (go_simp; rfl)); intro gb464 hg w10 hbox hb; replace HO_3 := Aside0.mk (Kd.R_below (uR HO_3.out) hb); have BK464 := Aside0.mk (hbox); have GW464 := Aside0.mk ((by rw [hg]; exact (below_size (uB HB.out)) : w.heap.size ≤ gb464)); have GE464 := Aside0.mk ((by rw [hg]; exact (below_size (uB HB.out)) : w.heap.size ≤ gb464)); replace HB := Aside0.mk (below_step (uB HB.out) hb); clear hb hbox hg; obtain ⟨hcz11_0, hfz11_0⟩ := bx1 BK464.out; have p465 : 0 ≤ ((ji6) : Int) := od_; have q465 : (ji6) < (((rd_T52 l0 x8_1).f0).length : Int) := od_; obtain ⟨ad465, e465, hx465_0⟩ := Kd.at_int HR463_0.out (ji6) p465 q465; cases e465; have hn465_0 : ad465.block ≠ gb464 := Nat.ne_of_lt (Nat.lt_of_lt_of_le (by have := World.block_lt_of_cell? _ _ hx465_0; first | rwa [add_block] at this | exact this) GW464.out); replace hx465_0 := (HB.out.cell (World.block_lt_of_cell? w _ hx465_0)).trans hx465_0; replace hx465_0 := (cell_far (p := ⟨gb464, 0, none⟩) (by first | (rw [add_block]; exact hn465_0) | (show (Addr.add _ _).block ≠ _; rw [add_block]; exact hn465_0) | exact hn465_0) (.slice (some ad465) ((rd_T52 l0 x8_1).f0).length c463_0)).trans hx465_0; clear hn465_0; replace p465 := eq_true p465; replace q465 := eq_true q465) | ((with_reducible refine gate_builtin (b := .append) (xs := #[.tmp 16, .tmp 25]) rfl ?_); at_builtin; refine Kd.R_append (Kd.int .i64) (w0 := w) w.heap.size rfl (.tmp 16) (.tmp 25) 26 3 (.int .i64 0) 8 rfl Try.underlying26 info3 rfl (by decide) (by omega) u3 x3_1 (rd ((rd_T52 l0 x8_1).f0) (ji6)) [.int .i64 (rd ((rd_T52 l0 x8_1).f0) (ji6))] (fun _ => True) (fun _ => False) rfl (by first | (go_simp; done) | (go_simp; rfl)) ?aP (fun _ hk => hk.elim) ?aF ?aO ?aB ?aS ?aL ?_; (case aP => exact rfl); (case aB => exact bw_); (case aF => exact (fun _ _ => trivial)); (case aO => exact (uR (Kd.R_mono (Kd.R_far (p := ⟨gb464, 0, none⟩) (Kd.R_types HO_3.out BK464.out (by decide)) (fun _ hk => hk.2) (.slice (some ad465) ((rd_T52 l0 x8_1).f0).length c463_0)) (fun _ hk => trivial)))); (case aS => exact (below_size bw_)); (case aL => have := LMc9.out; omega); intro v467 w12 ho hb hg hat; rw [← Ny466.out] at ho; replace BK464 := Aside0.mk (blk_grown (g := gb464) (o := .cells #[.slice (some ad465) ((rd_T52 l0 x8_1).f0).length c463_0] 52 (0, 0)) (by (with_reducible repeat (first | refine blk_drewN ?_ _ | refine blk_drew ?_ | refine blk_alloc ?_ _)); refine blk_put (cs := #[.slice none 0 0]) ?_ 0 _ rfl; (with_reducible repeat (first | refine blk_drewN ?_ _ | refine blk_drew ?_ | refine blk_alloc ?_ _)); exact BK464.out) hg (Kd.R_ne HO_3.out BK464.out (by decide))); replace HB := Aside0.mk (hb); have HO468 := Aside0.mk (ho); clear HO_3; clear ho hb hg hat))
          go_roundg k1
          case measure => have := HK1.out; omega
          case rel => exact ⟨(y466), (wrap64 (x8_1 + 1)), ev_, H', ⟨by have := HK1.out; omega⟩, ⟨uR HO468.out⟩, ⟨bw_⟩⟩
         ·rw [if_neg c9] at H; exact absurd H (by simp)
        ·rw [if_neg c8] at H; exact absurd H (by simp)
       ·rw [if_neg c7] at H; exact absurd H (by simp)
      ·rw [if_neg c5] at H; have c5b0 : decide (0 < (((rd_T52 l0 x8_1).f0).length : Int)) = false := decide_eq_false c5; have c5b1 : decide (0 < ((rd_T52 l0 x8_1).f0).length) = false := decide_eq_false (by omega); clear c5; have H' := Aside0.mk H; clear H; have p463 : 0 ≤ (x8_1 : Int) := od_; have q463 : x8_1 < (l0.length : Int) := od_; obtain ⟨ad463, A463_0, c463_0, e463, hx463_0, hl463_0, hi463_0⟩ := at_T52 HR0.out x8_1 p463 q463
       cases e463; replace hx463_0 := (HB.out.cell (World.block_lt_of_cell? w _ hx463_0)).trans hx463_0; have HR463_0 := Aside0.mk hi463_0; have HC463_0 := Aside0.mk hl463_0; clear hi463_0 hl463_0; replace p463 := eq_true p463; replace q463 := eq_true q463; go_wp2_with (first | ((with_reducible refine gate_dst (N := 5) rfl ?_); refine box_event ?hg (N := 5) ?hd (cs := #[.slice none 0 0]) (t := 52) ?hr ?_; (case hd => rfl); (case hg => rfl); (case hr => first | (go_simp; done) | (go_simp; rfl)); intro gb464 hg w13 hbox hb; replace HO_3 := Aside0.mk (Kd.R_below (uR HO_3.out) hb); have BK464 := Aside0.mk (hbox); have GW464 := Aside0.mk ((by rw [hg]; exact (below_size (uB HB.out)) : w.heap.size ≤ gb464)); have GE464 := Aside0.mk ((by rw [hg]; exact (below_size (uB HB.out)) : w.heap.size ≤ gb464)); replace HB := Aside0.mk (below_step (uB HB.out) hb); clear hb hbox hg; obtain ⟨hcz14_0, hfz14_0⟩ := bx1 BK464.out))
       go_roundg k1
       case measure => have := HK1.out; omega
       case rel => exact ⟨(x3_1), (wrap64 (x8_1 + 1)), ev_, H', ⟨by have := HK1.out; omega⟩, ⟨uR (Kd.R_mono (Kd.R_far (p := ⟨gb464, 0, none⟩) (Kd.R_types HO_3.out BK464.out (by decide)) (fun _ hk => hk.2) (.slice A463_0 ((rd_T52 l0 x8_1).f0).length c463_0)) (fun _ hk => trivial))⟩, ⟨bw_⟩⟩
     ·rw [if_neg c4] at H; exact absurd H (by simp)
    ·rw [if_neg c3] at H; exact absurd H (by simp)
   ·rw [if_neg c2] at H; have c2b0 : decide (x8_1 < (l0.length : Int)) = false := decide_eq_false c2; clear c2; replace H := Option.bind_eq_some_iff.mp H; obtain ⟨t469, A150, H⟩ := H; have A15 := Aside0.mk A150; clear A150; obtain rfl := Option.some.inj H; obtain ⟨Ao16, co16, eo16⟩ := Kd.R_slice HO_3.out; subst eo16; go_wp2_with (first | ((with_reducible refine gate_callee (f := 56) rfl ?_); refine gL_ (some 29) Try.func56 #[.slice Ao16 x3_1.length co16] ?_; (with_reducible refine (impl_ordered.calls (fun k_ => some k_ = (.slice Ao16 x3_1.length co16 : Value).ownBlock) (.slice Ao16 x3_1.length co16) x3_1 t469 w _ ?side1 ?side2 A15.out).mono ?_); (case side1 => repeat (first | (with_reducible first | exact HB.out | apply below_alloc | apply pw_below_drewN | apply below_drew1) | exact HB.out)); (case side2 => exact Kd.R_tight rfl HO_3.out); rintro e w17 ⟨v470, rfl, ho0, hb, hkp⟩; refine ⟨_, rfl, ?_⟩; have HO471 := Aside0.mk (Kd.R_mono (ok' := fun k_ => True) ho0 (fun k_ hk_ => trivial)); replace HB := Aside0.mk (hb); clear HO_3; (try clear hb); (try clear hkp); (try clear ho0)))
    go_ret; exact ⟨_, by first | rfl | (simp [errW_none, errW_some] <;> rfl) | (simp [*, errW_none, errW_some] <;> rfl), by (with_reducible repeat (first | apply Kd.R_alloc | apply Kd.R_drewN | apply Kd.R_drew)); exact HO471.out, uB HB.out⟩

/-! ### slices_IndexFunc_int_int: function 61 -/
set_option maxHeartbeats 8000000 in
set_option maxRecDepth 100000 in
theorem indexFunc_int (p : Int → Bool) (g : Nat) (lb : Array Value) (eg : ∀ args w, (callFunc g args).run Try.prog w = .ok (.enter g args) w)
    (A : Option Addr) (c : Nat) (l : List Int) (w : World) (hr : Kd.C (Kd.int .i64) w A l.length l) (hc : l.length ≤ c) (hp : Tells g lb (Value.int .i64) p l w) :
    Calls Try.prog 61 #[.slice A l.length c, .func (.func g) #[] lb] w fun e w' => e = .returned (.int .i64 (findI p l)) ∧ Below w.heap.size w w' := by
  have HP : Aside0 (∀ (W : World) (x : Int), x ∈ l → Below w.heap.size w W → Calls Try.prog g (#[Value.int .i64 x] ++ lb) W fun e w' => e = .returned (.bool (p x)) ∧ Below W.heap.size W w') := ⟨hp⟩
  have HR := Aside0.mk hr
  have hn : l.length ≤ 9223372036854775807 := hr.2.1
  clear hp hr
  go_enter Try.func61, Try.ntmps61
  go_wp2
  go_loopg [5, 8] l.length (fun gg _ s8 wr => ∃ kk : Nat, kk ≤ l.length ∧ l.length - kk ≤ gg ∧ s8 = .int .i64 kk ∧ Aside0 (Below w.heap.size w wr) ∧ Aside0 (∀ j, j < kk → p (l.getD j 0) = false))
  case atStart => exact ⟨0, Nat.zero_le _, by omega, rfl, ⟨Below.refl _ _⟩, ⟨fun j hj => absurd hj (Nat.not_lt_zero _)⟩⟩
  case round =>
    obtain ⟨kk, hkk, hg, rfl, HB, HA⟩ := hrel
    by_cases hlt : kk < l.length
    · have hltz : (kk : Int) < (l.length : Int) := by omega
      obtain ⟨ad, ead, hx⟩ := Kd.at_int HR.out (kk : Int) (by omega) hltz
      cases ead
      rw [Int.toNat_natCast] at hx
      replace hx := (HB.out.cell (World.block_lt_of_cell? w _ hx)).trans hx
      have hcall := HP.out _ (rd l kk) (by rw [rd, Int.toNat_natCast, List.getD_eq_getElem?_getD, List.getElem?_eq_getElem hlt]; exact List.getElem_mem hlt) HB.out
      have HX : Aside0 (rd l kk = l.getD kk 0) := ⟨by simp [rd]⟩
      generalize hy : rd l kk = y at hcall hx HX
      clear hy
      cases hq : p y with
      | true =>
        rw [hq] at hcall
        have HCALL := Aside0.mk hcall
        clear hcall
        have HQ := Aside0.mk hq
        clear hq
        go_wp2_with fail
        refine HCALL.out.mono ?_
        rintro e w' ⟨rfl, hb⟩
        go_wp2
        go_ret
        refine ⟨?_, below_step HB.out hb⟩
        rw [findI_hit p l 0 kk hlt (by rw [← HX.out]; exact HQ.out) HA.out]
        rfl
      | false =>
        rw [hq] at hcall
        have HCALL := Aside0.mk hcall
        clear hcall
        have HQ := Aside0.mk hq
        clear hq
        go_wp2_with fail
        refine HCALL.out.mono ?_
        rintro e w' ⟨rfl, hb⟩
        go_wp2
        have HB2 := Aside0.mk (below_step HB.out hb)
        go_roundg (l.length - (kk + 1))
        case measure => omega
        case rel =>
          refine ⟨kk + 1, by omega, by omega, by go_num, HB2, ⟨fun j hj => ?_⟩⟩
          by_cases e : j = kk
          · subst e; rw [← HX.out]; exact HQ.out
          · exact HA.out j (by omega)
    · have hltz : ¬ (kk : Int) < (l.length : Int) := by omega
      have hkl : kk = l.length := by omega
      have HA2 : Aside0 (∀ j, j < l.length → p (l.getD j 0) = false) := ⟨by rw [← hkl]; exact HA.out⟩
      clear hkl HA
      go_wp2
      go_ret
      exact ⟨by rw [findI_miss p l 0 HA2.out]; rfl, HB.out⟩


/-! ### slices_ContainsFunc_int_int: function 31 -/
set_option maxHeartbeats 8000000 in
set_option maxRecDepth 100000 in
theorem containsFunc_int (p : Int → Bool) (g : Nat) (lb : Array Value) (eg : ∀ args w, (callFunc g args).run Try.prog w = .ok (.enter g args) w)
    (A : Option Addr) (c : Nat) (l : List Int) (w : World) (hr : Kd.C (Kd.int .i64) w A l.length l) (hc : l.length ≤ c) (hp : Tells g lb (Value.int .i64) p l w) :
    Calls Try.prog 31 #[.slice A l.length c, .func (.func g) #[] lb] w fun e w' => e = .returned (.bool (l.any p)) ∧ Below w.heap.size w w' := by
  have H := indexFunc_int p g lb eg A c l w hr hc hp
  rw [← findI_any]
  generalize findI p l = y at H
  clear hp hr
  go_enter Try.func31, Try.ntmps31
  go_wp2_with (go_at_call 61; refine H.mono ?_; rintro e w' ⟨rfl, hb⟩)
  go_ret
  exact ⟨rfl, hb⟩


/-! ### impl_isFree: function 59 -/
def impl_isFree.f (a0_0 : Int) (a0_1 : Int) (a0_2 : ByteArray) (a1 : Int) : Option (Bool) := if a1 ≥ 0 then (if a1 < (a0_2.size : Int) then (if 0 ≤ a1 then (some ((bt a0_2 a1) != 35)) else (none)) else (some false)) else (some false)
set_option maxHeartbeats 8000000 in
set_option maxRecDepth 100000 in
theorem impl_isFree.calls (a0_0 : Int) (a0_1 : Int) (a0_2 : ByteArray) (a1 : Int) (r : Bool) (w : World) (h : impl_isFree.f a0_0 a0_1 a0_2 a1 = some r) :
  Calls Try.prog 59 #[.agg #[.int .i64 a0_0, .int .i64 a0_1, .string a0_2], .int .i64 a1] w fun e w' => e = .returned (.bool r) ∧ Below w.heap.size w w' := by
 have hu25 := Try.underlying25; have HB := Aside0.mk (Below.refl w.heap.size w); have H : (if a1 ≥ 0 then (if a1 < (a0_2.size : Int) then (if 0 ≤ a1 then (some ((bt a0_2 a1) != 35)) else (none)) else (some false)) else (some false)) = some r := h; clear h; by_cases c3 : a1 ≥ 0
 ·rw [if_pos c3] at H; have c3b0 : decide (0 ≤ a1) = true := decide_eq_true c3; clear c3; by_cases c4 : a1 < (a0_2.size : Int)
  ·rw [if_pos c4] at H; have c4b0 : decide (a1 < (a0_2.size : Int)) = true := decide_eq_true c4; clear c4; by_cases c5 : 0 ≤ a1
   ·rw [if_pos c5] at H; have c5b0 : decide (0 ≤ a1) = true := decide_eq_true c5; clear c5; obtain rfl := Option.some.inj H; go_enter Try.func59, Try.ntmps59; go_wp2_with (first | ((with_reducible refine gate_dst (N := 2) rfl ?_); (try (refine gate_guard (by rfl) ?_; dsimp only)); refine box_event ?hg (N := 2) ?hd (cs := #[.int .i64 a0_0, .int .i64 a0_1, .string a0_2]) (t := 25) ?hr ?_; (case hd => rfl); (case hg => rfl); (case hr => first | (go_simp; done) | (go_simp; rfl)); intro gb472 hg w7 hbox hb; have BK472 := Aside0.mk (hbox); have GW472 := Aside0.mk ((by rw [hg]; exact (below_size (uB HB.out)) : w.heap.size ≤ gb472)); have GE472 := Aside0.mk ((by rw [hg]; exact (below_size (uB HB.out)) : w.heap.size ≤ gb472)); replace HB := Aside0.mk (below_step (uB HB.out) hb); clear hb hbox hg; obtain ⟨hcz8_0, hcz8_1, hcz8_2, hfz8_0, hfz8_1, hfz8_2⟩ := bx3 BK472.out; have p6 : 0 ≤ (a1 : Int) := od_; have q6 : a1 < (a0_2.size : Int) := od_; have hx6 := bt_at a0_2 a1; replace p6 := eq_true p6; replace q6 := eq_true q6))
    go_ret; exact ⟨by first | rfl | (simp [errW_none, errW_some] <;> rfl) | (simp [*, errW_none, errW_some] <;> rfl), uB HB.out⟩
   ·rw [if_neg c5] at H; exact absurd H (by simp)
  ·rw [if_neg c4] at H; have c4b0 : decide (a1 < (a0_2.size : Int)) = false := decide_eq_false c4; clear c4; obtain rfl := Option.some.inj H; go_enter Try.func59, Try.ntmps59; go_wp2_with (first | ((with_reducible refine gate_dst (N := 2) rfl ?_); (try (refine gate_guard (by rfl) ?_; dsimp only)); refine box_event ?hg (N := 2) ?hd (cs := #[.int .i64 a0_0, .int .i64 a0_1, .string a0_2]) (t := 25) ?hr ?_; (case hd => rfl); (case hg => rfl); (case hr => first | (go_simp; done) | (go_simp; rfl)); intro gb472 hg w9 hbox hb; have BK472 := Aside0.mk (hbox); have GW472 := Aside0.mk ((by rw [hg]; exact (below_size (uB HB.out)) : w.heap.size ≤ gb472)); have GE472 := Aside0.mk ((by rw [hg]; exact (below_size (uB HB.out)) : w.heap.size ≤ gb472)); replace HB := Aside0.mk (below_step (uB HB.out) hb); clear hb hbox hg; obtain ⟨hcz10_0, hcz10_1, hcz10_2, hfz10_0, hfz10_1, hfz10_2⟩ := bx3 BK472.out))
   go_ret; exact ⟨by first | rfl | (simp [errW_none, errW_some] <;> rfl) | (simp [*, errW_none, errW_some] <;> rfl), uB HB.out⟩
 ·rw [if_neg c3] at H; have c3b0 : decide (0 ≤ a1) = false := decide_eq_false c3; clear c3; obtain rfl := Option.some.inj H; go_enter Try.func59, Try.ntmps59; go_wp2_with (first | ((with_reducible refine gate_dst (N := 2) rfl ?_); (try (refine gate_guard (by rfl) ?_; dsimp only)); refine box_event ?hg (N := 2) ?hd (cs := #[.int .i64 a0_0, .int .i64 a0_1, .string a0_2]) (t := 25) ?hr ?_; (case hd => rfl); (case hg => rfl); (case hr => first | (go_simp; done) | (go_simp; rfl)); intro gb472 hg w11 hbox hb; have BK472 := Aside0.mk (hbox); have GW472 := Aside0.mk ((by rw [hg]; exact (below_size (uB HB.out)) : w.heap.size ≤ gb472)); have GE472 := Aside0.mk ((by rw [hg]; exact (below_size (uB HB.out)) : w.heap.size ≤ gb472)); replace HB := Aside0.mk (below_step (uB HB.out) hb); clear hb hbox hg))
  go_ret; exact ⟨by first | rfl | (simp [errW_none, errW_some] <;> rfl) | (simp [*, errW_none, errW_some] <;> rfl), uB HB.out⟩

/-! ### impl_GridOk: function 86 -/
mutual
def impl_GridOk.j0 : Nat → Bool → Int → Int → ByteArray → Option (Bool)
 | 0, _, _, _, _ => none
 | k + 1, x33, x474000, x474001, x474002 => if x33 = true then (some false) else (impl_GridOk.l0 k 0 x474000 x474001 x474002)
def impl_GridOk.l0 : Nat → Int → Int → Int → ByteArray → Option (Bool)
 | 0, _, _, _, _ => none
 | k + 1, x3, x474000, x474001, x474002 => if x3 < (x474002.size : Int) then (if 0 ≤ x3 then (if (bt x474002 x3) = 46 then (impl_GridOk.l0 k (wrap64 (x3 + 1)) x474000 x474001 x474002) else (if (bt x474002 x3) = 35 then (impl_GridOk.l0 k (wrap64 (x3 + 1)) x474000 x474001 x474002) else (if (bt x474002 x3) < 97 then (if (bt x474002 x3) < 65 then (some false) else (if (bt x474002 x3) > 70 then (some false) else (impl_GridOk.l0 k (wrap64 (x3 + 1)) x474000 x474001 x474002))) else (if (bt x474002 x3) > 102 then (if (bt x474002 x3) < 65 then (some false) else (if (bt x474002 x3) > 70 then (some false) else (impl_GridOk.l0 k (wrap64 (x3 + 1)) x474000 x474001 x474002))) else (impl_GridOk.l0 k (wrap64 (x3 + 1)) x474000 x474001 x474002))))) else (none)) else (some true)
end
def impl_GridOk.f (k : Nat) (a0_0 : Int) (a0_1 : Int) (a0_2 : ByteArray) : Option (Bool) := if a0_0 < 1 then (impl_GridOk.j0 k true a0_0 a0_1 a0_2) else (if a0_0 > 8 then (impl_GridOk.j0 k true a0_0 a0_1 a0_2) else (if a0_1 < 1 then (impl_GridOk.j0 k true a0_0 a0_1 a0_2) else (if a0_1 > 8 then (impl_GridOk.j0 k true a0_0 a0_1 a0_2) else (impl_GridOk.j0 k ((a0_2.size : Int) != (wrap64 (a0_0 * a0_1))) a0_0 a0_1 a0_2))))
set_option maxHeartbeats 8000000 in
set_option maxRecDepth 100000 in
theorem impl_GridOk.calls (k : Nat) (a0_0 : Int) (a0_1 : Int) (a0_2 : ByteArray) (r : Bool) (w : World) (h : impl_GridOk.f k a0_0 a0_1 a0_2 = some r) :
  Calls Try.prog 86 #[.agg #[.int .i64 a0_0, .int .i64 a0_1, .string a0_2]] w fun e w' => e = .returned (.bool r) ∧ Below w.heap.size w w' := by
 have hu25 := Try.underlying25; have HB := Aside0.mk (Below.refl w.heap.size w); have H : (if a0_0 < 1 then (impl_GridOk.j0 k true a0_0 a0_1 a0_2) else (if a0_0 > 8 then (impl_GridOk.j0 k true a0_0 a0_1 a0_2) else (if a0_1 < 1 then (impl_GridOk.j0 k true a0_0 a0_1 a0_2) else (if a0_1 > 8 then (impl_GridOk.j0 k true a0_0 a0_1 a0_2) else (impl_GridOk.j0 k ((a0_2.size : Int) != (wrap64 (a0_0 * a0_1))) a0_0 a0_1 a0_2))))) = some r := h; clear h; have HC2 := Aside0.mk H; clear H; go_enter Try.func86, Try.ntmps86; go_upto_region 1 with (first | ((with_reducible refine gate_dst (N := 1) rfl ?_); (try (refine gate_guard (by rfl) ?_; dsimp only)); refine box_event ?hg (N := 1) ?hd (cs := #[.int .i64 a0_0, .int .i64 a0_1, .string a0_2]) (t := 25) ?hr ?_; (case hd => rfl); (case hg => rfl); (case hr => first | (go_simp; done) | (go_simp; rfl)); intro gb473 hg w3 hbox hb; have BK473 := Aside0.mk (hbox); have GW473 := Aside0.mk ((by rw [hg]; exact (below_size (uB HB.out)) : w.heap.size ≤ gb473)); have GE473 := Aside0.mk ((by rw [hg]; exact (below_size (uB HB.out)) : w.heap.size ≤ gb473)); replace HB := Aside0.mk (below_step (uB HB.out) hb); clear hb hbox hg))
 (try simp only [Act.put, List.setIfInBounds_toArray, List.set_cons_zero, List.set_cons_succ]); go_cut [33] (fun v33 wc => ∃ (kq : Nat) (x33_1 : Bool), v33 = .bool x33_1 ∧ Aside0 (impl_GridOk.j0 kq x33_1 a0_0 a0_1 a0_2 = some r) ∧ Aside0 (kq ≤ k) ∧ Aside0 (wc.heap[gb473]? = some (.cells #[.int .i64 a0_0, .int .i64 a0_1, .string a0_2] 25 (0, 0))) ∧ Aside0 (Below w.heap.size w wc))
 case first =>
  have H := HC2.out; clear HC2; by_cases c4 : a0_0 < 1
  ·rw [if_pos c4] at H; have c4b0 : decide (a0_0 < 1) = true := decide_eq_true c4; clear c4; (first | rw [c4b0] | (simp only [i64_w, i32_w]; rw [c4b0]) | skip); have H' := Aside0.mk H; clear H; obtain ⟨hcz5_0, hcz5_1, hcz5_2, hfz5_0, hfz5_1, hfz5_2⟩ := bx3 BK473.out; go_wp2; go_meet
   case rel => exact ⟨_, (true), ev_, H', ⟨by first | omega | exact Nat.le_refl _⟩, ⟨uK BK473.out⟩, ⟨uB HB.out⟩⟩
  ·rw [if_neg c4] at H; have c4b0 : decide (a0_0 < 1) = false := decide_eq_false c4; clear c4; (first | rw [c4b0] | (simp only [i64_w, i32_w]; rw [c4b0]) | skip); by_cases c6 : a0_0 > 8
   ·rw [if_pos c6] at H; have c6b0 : decide (8 < a0_0) = true := decide_eq_true c6; clear c6; have H' := Aside0.mk H; clear H; obtain ⟨hcz7_0, hcz7_1, hcz7_2, hfz7_0, hfz7_1, hfz7_2⟩ := bx3 BK473.out; go_wp2; go_meet
    case rel => exact ⟨_, (true), ev_, H', ⟨by first | omega | exact Nat.le_refl _⟩, ⟨uK BK473.out⟩, ⟨uB HB.out⟩⟩
   ·rw [if_neg c6] at H; have c6b0 : decide (8 < a0_0) = false := decide_eq_false c6; clear c6; by_cases c8 : a0_1 < 1
    ·rw [if_pos c8] at H; have c8b0 : decide (a0_1 < 1) = true := decide_eq_true c8; clear c8; have H' := Aside0.mk H; clear H; obtain ⟨hcz9_0, hcz9_1, hcz9_2, hfz9_0, hfz9_1, hfz9_2⟩ := bx3 BK473.out; go_wp2; go_meet
     case rel => exact ⟨_, (true), ev_, H', ⟨by first | omega | exact Nat.le_refl _⟩, ⟨uK BK473.out⟩, ⟨uB HB.out⟩⟩
    ·rw [if_neg c8] at H; have c8b0 : decide (a0_1 < 1) = false := decide_eq_false c8; clear c8; by_cases c10 : a0_1 > 8
     ·rw [if_pos c10] at H; have c10b0 : decide (8 < a0_1) = true := decide_eq_true c10; clear c10; have H' := Aside0.mk H; clear H; obtain ⟨hcz11_0, hcz11_1, hcz11_2, hfz11_0, hfz11_1, hfz11_2⟩ := bx3 BK473.out; go_wp2; go_meet
      case rel => exact ⟨_, (true), ev_, H', ⟨by first | omega | exact Nat.le_refl _⟩, ⟨uK BK473.out⟩, ⟨uB HB.out⟩⟩
     ·rw [if_neg c10] at H; have c10b0 : decide (8 < a0_1) = false := decide_eq_false c10; clear c10; have H' := Aside0.mk H; clear H; obtain ⟨hcz12_0, hcz12_1, hcz12_2, hfz12_0, hfz12_1, hfz12_2⟩ := bx3 BK473.out; go_wp2; go_meet
      case rel => exact ⟨_, (((a0_2.size : Int) != (wrap64 (a0_0 * a0_1)))), ev_, H', ⟨by first | omega | exact Nat.le_refl _⟩, ⟨uK BK473.out⟩, ⟨uB HB.out⟩⟩
 case rest =>
  clear HC2; (try clear c1); (try clear p2); (try clear c4); (try clear c4b0); (try clear c6); (try clear c6b0); (try clear p6); (try clear c8); (try clear c8b0); (try clear c10); (try clear c10b0); (try clear hcz11_0); (try clear hcz11_1); (try clear hcz11_2); (try clear hcz12_0); (try clear hcz12_1); (try clear hcz12_2); (try clear hcz5_0); (try clear hcz5_1); (try clear hcz5_2); (try clear hcz7_0); (try clear hcz7_1); (try clear hcz7_2); (try clear hcz9_0); (try clear hcz9_1); (try clear hcz9_2); (try clear hfz11_0); (try clear hfz11_1); (try clear hfz11_2); (try clear hfz12_0); (try clear hfz12_1); (try clear hfz12_2); (try clear hfz5_0); (try clear hfz5_1); (try clear hfz5_2); (try clear hfz7_0); (try clear hfz7_1); (try clear hfz7_2); (try clear hfz9_0); (try clear hfz9_1); (try clear hfz9_2); obtain ⟨kq, x33_1, rfl, HA, HJ1, BK473, HB⟩ := hcut
  cases kq with
  | zero => exact absurd HA.out (by simp [impl_GridOk.j0])
  | succ kj1 =>
   have H := HA.out; clear HA; simp only [impl_GridOk.j0] at H; by_cases c13 : x33_1 = true
   ·subst c13; rw [if_pos rfl] at H; obtain rfl := Option.some.inj H; go_wp2; go_ret; exact ⟨by first | rfl | (simp [errW_none, errW_some] <;> rfl) | (simp [*, errW_none, errW_some] <;> rfl), uB HB.out⟩
   ·replace c13 := Bool.eq_false_iff.mpr c13; subst c13; rw [if_neg (show ¬ (false = true) by decide)] at H; have H' := Aside0.mk H; clear H; go_wp2; go_loopg [3] kj1 (fun kq v3 w' => ∃ (x3_2 : Int), v3 = .int .i64 x3_2 ∧ Aside0 (impl_GridOk.l0 kq x3_2 a0_0 a0_1 a0_2 = some r) ∧ Aside0 (kq ≤ kj1) ∧ Aside0 (w'.heap[gb473]? = some (.cells #[.int .i64 a0_0, .int .i64 a0_1, .string a0_2] 25 (0, 0))) ∧ Aside0 (Below w.heap.size w w'))
    case atStart => exact ⟨(0), ev_, H', ⟨Nat.le_refl _⟩, ⟨uK BK473.out⟩, ⟨uB HB.out⟩⟩
    case round =>
     clear H'; (try clear c1); (try clear p2); (try clear c4); (try clear c4b0); (try clear c6); (try clear c6b0); (try clear p6); (try clear c8); (try clear c8b0); (try clear c10); (try clear c10b0); (try clear c13); (try clear hcz11_0); (try clear hcz11_1); (try clear hcz11_2); (try clear hcz12_0); (try clear hcz12_1); (try clear hcz12_2); (try clear hcz5_0); (try clear hcz5_1); (try clear hcz5_2); (try clear hcz7_0); (try clear hcz7_1); (try clear hcz7_2); (try clear hcz9_0); (try clear hcz9_1); (try clear hcz9_2); (try clear hfz11_0); (try clear hfz11_1); (try clear hfz11_2); (try clear hfz12_0); (try clear hfz12_1); (try clear hfz12_2); (try clear hfz5_0); (try clear hfz5_1); (try clear hfz5_2); (try clear hfz7_0); (try clear hfz7_1); (try clear hfz7_2); (try clear hfz9_0); (try clear hfz9_1); (try clear hfz9_2); (try clear p2); (try clear p6); obtain ⟨x3_2, rfl, HA, HK2, BK473, HB⟩ := hrel
     cases gk with
     | zero => exact absurd HA.out (by simp [impl_GridOk.l0])
     | succ k2 =>
      have H := HA.out; clear HA; simp only [impl_GridOk.l0] at H; by_cases c14 : x3_2 < (a0_2.size : Int)
      ·rw [if_pos c14] at H; have c14b0 : decide (x3_2 < (a0_2.size : Int)) = true := decide_eq_true c14; clear c14; by_cases c15 : 0 ≤ x3_2
       ·rw [if_pos c15] at H; have c15b0 : decide (0 ≤ x3_2) = true := decide_eq_true c15; clear c15; by_cases c17 : (bt a0_2 x3_2) = 46
        ·rw [if_pos c17] at H; have c17b0 : ((bt a0_2 x3_2) == 46) = true := beq_iff_eq.mpr c17; have c17b1 : ((bt a0_2 x3_2) != 46) = false := bne_eq_false_iff_eq.mpr c17; clear c17; have H' := Aside0.mk H; clear H; obtain ⟨hcz18_0, hcz18_1, hcz18_2, hfz18_0, hfz18_1, hfz18_2⟩ := bx3 BK473.out; have p16 : 0 ≤ (x3_2 : Int) := od_; have q16 : x3_2 < (a0_2.size : Int) := od_; have hx16 := bt_at a0_2 x3_2; replace p16 := eq_true p16; replace q16 := eq_true q16; go_wp2; go_roundg k2
         case measure => have := HJ1.out; have := HK2.out; omega
         case rel => exact ⟨(wrap64 (x3_2 + 1)), ev_, H', ⟨by have := HJ1.out; have := HK2.out; omega⟩, ⟨uK BK473.out⟩, ⟨uB HB.out⟩⟩
        ·rw [if_neg c17] at H; have c17b0 : ((bt a0_2 x3_2) == 46) = false := beq_eq_false_iff_ne.mpr c17; have c17b1 : ((bt a0_2 x3_2) != 46) = true := bne_iff_ne.mpr c17; by_cases c19 : (bt a0_2 x3_2) = 35
         ·rw [if_pos c19] at H; have c19b0 : ((bt a0_2 x3_2) == 35) = true := beq_iff_eq.mpr c19; have c19b1 : ((bt a0_2 x3_2) != 35) = false := bne_eq_false_iff_eq.mpr c19; clear c19; have H' := Aside0.mk H; clear H; obtain ⟨hcz20_0, hcz20_1, hcz20_2, hfz20_0, hfz20_1, hfz20_2⟩ := bx3 BK473.out; have p16 : 0 ≤ (x3_2 : Int) := od_; have q16 : x3_2 < (a0_2.size : Int) := od_; have hx16 := bt_at a0_2 x3_2; replace p16 := eq_true p16; replace q16 := eq_true q16; go_wp2; go_roundg k2
          case measure => have := HJ1.out; have := HK2.out; omega
          case rel => exact ⟨(wrap64 (x3_2 + 1)), ev_, H', ⟨by have := HJ1.out; have := HK2.out; omega⟩, ⟨uK BK473.out⟩, ⟨uB HB.out⟩⟩
         ·rw [if_neg c19] at H; have c19b0 : ((bt a0_2 x3_2) == 35) = false := beq_eq_false_iff_ne.mpr c19; have c19b1 : ((bt a0_2 x3_2) != 35) = true := bne_iff_ne.mpr c19; by_cases c21 : (bt a0_2 x3_2) < 97
          ·rw [if_pos c21] at H; have c21b0 : decide ((bt a0_2 x3_2) < 97) = true := decide_eq_true c21; clear c21; by_cases c22 : (bt a0_2 x3_2) < 65
           ·rw [if_pos c22] at H; have c22b0 : decide ((bt a0_2 x3_2) < 65) = true := decide_eq_true c22; clear c22; obtain rfl := Option.some.inj H; obtain ⟨hcz23_0, hcz23_1, hcz23_2, hfz23_0, hfz23_1, hfz23_2⟩ := bx3 BK473.out; have p16 : 0 ≤ (x3_2 : Int) := od_; have q16 : x3_2 < (a0_2.size : Int) := od_; have hx16 := bt_at a0_2 x3_2; replace p16 := eq_true p16; replace q16 := eq_true q16; go_wp2; go_ret; exact ⟨by first | rfl | (simp [errW_none, errW_some] <;> rfl) | (simp [*, errW_none, errW_some] <;> rfl), uB HB.out⟩
           ·rw [if_neg c22] at H; have c22b0 : decide ((bt a0_2 x3_2) < 65) = false := decide_eq_false c22; clear c22; by_cases c24 : (bt a0_2 x3_2) > 70
            ·rw [if_pos c24] at H; have c24b0 : decide (70 < (bt a0_2 x3_2)) = true := decide_eq_true c24; clear c24; obtain rfl := Option.some.inj H; obtain ⟨hcz25_0, hcz25_1, hcz25_2, hfz25_0, hfz25_1, hfz25_2⟩ := bx3 BK473.out; have p16 : 0 ≤ (x3_2 : Int) := od_; have q16 : x3_2 < (a0_2.size : Int) := od_; have hx16 := bt_at a0_2 x3_2; replace p16 := eq_true p16; replace q16 := eq_true q16; go_wp2; go_ret; exact ⟨by first | rfl | (simp [errW_none, errW_some] <;> rfl) | (simp [*, errW_none, errW_some] <;> rfl), uB HB.out⟩
            ·rw [if_neg c24] at H; have c24b0 : decide (70 < (bt a0_2 x3_2)) = false := decide_eq_false c24; clear c24; have H' := Aside0.mk H; clear H; obtain ⟨hcz26_0, hcz26_1, hcz26_2, hfz26_0, hfz26_1, hfz26_2⟩ := bx3 BK473.out; have p16 : 0 ≤ (x3_2 : Int) := od_; have q16 : x3_2 < (a0_2.size : Int) := od_; have hx16 := bt_at a0_2 x3_2; replace p16 := eq_true p16; replace q16 := eq_true q16; go_wp2; go_roundg k2
             case measure => have := HJ1.out; have := HK2.out; omega
             case rel => exact ⟨(wrap64 (x3_2 + 1)), ev_, H', ⟨by have := HJ1.out; have := HK2.out; omega⟩, ⟨uK BK473.out⟩, ⟨uB HB.out⟩⟩
          ·rw [if_neg c21] at H; have c21b0 : decide ((bt a0_2 x3_2) < 97) = false := decide_eq_false c21; clear c21; by_cases c27 : (bt a0_2 x3_2) > 102
           ·rw [if_pos c27] at H; have c27b0 : decide (102 < (bt a0_2 x3_2)) = true := decide_eq_true c27; clear c27; by_cases c28 : (bt a0_2 x3_2) < 65
            ·rw [if_pos c28] at H; have c28b0 : decide ((bt a0_2 x3_2) < 65) = true := decide_eq_true c28; clear c28; obtain rfl := Option.some.inj H; obtain ⟨hcz29_0, hcz29_1, hcz29_2, hfz29_0, hfz29_1, hfz29_2⟩ := bx3 BK473.out; have p16 : 0 ≤ (x3_2 : Int) := od_; have q16 : x3_2 < (a0_2.size : Int) := od_; have hx16 := bt_at a0_2 x3_2; replace p16 := eq_true p16; replace q16 := eq_true q16; go_wp2; go_ret; exact ⟨by first | rfl | (simp [errW_none, errW_some] <;> rfl) | (simp [*, errW_none, errW_some] <;> rfl), uB HB.out⟩
            ·rw [if_neg c28] at H; have c28b0 : decide ((bt a0_2 x3_2) < 65) = false := decide_eq_false c28; clear c28; by_cases c30 : (bt a0_2 x3_2) > 70
             ·rw [if_pos c30] at H; have c30b0 : decide (70 < (bt a0_2 x3_2)) = true := decide_eq_true c30; clear c30; obtain rfl := Option.some.inj H; obtain ⟨hcz31_0, hcz31_1, hcz31_2, hfz31_0, hfz31_1, hfz31_2⟩ := bx3 BK473.out; have p16 : 0 ≤ (x3_2 : Int) := od_; have q16 : x3_2 < (a0_2.size : Int) := od_; have hx16 := bt_at a0_2 x3_2; replace p16 := eq_true p16; replace q16 := eq_true q16; go_wp2; go_ret; exact ⟨by first | rfl | (simp [errW_none, errW_some] <;> rfl) | (simp [*, errW_none, errW_some] <;> rfl), uB HB.out⟩
             ·rw [if_neg c30] at H; have c30b0 : decide (70 < (bt a0_2 x3_2)) = false := decide_eq_false c30; clear c30; have H' := Aside0.mk H; clear H; obtain ⟨hcz32_0, hcz32_1, hcz32_2, hfz32_0, hfz32_1, hfz32_2⟩ := bx3 BK473.out; have p16 : 0 ≤ (x3_2 : Int) := od_; have q16 : x3_2 < (a0_2.size : Int) := od_; have hx16 := bt_at a0_2 x3_2; replace p16 := eq_true p16; replace q16 := eq_true q16; go_wp2; go_roundg k2
              case measure => have := HJ1.out; have := HK2.out; omega
              case rel => exact ⟨(wrap64 (x3_2 + 1)), ev_, H', ⟨by have := HJ1.out; have := HK2.out; omega⟩, ⟨uK BK473.out⟩, ⟨uB HB.out⟩⟩
           ·rw [if_neg c27] at H; have c27b0 : decide (102 < (bt a0_2 x3_2)) = false := decide_eq_false c27; clear c27; have H' := Aside0.mk H; clear H; obtain ⟨hcz33_0, hcz33_1, hcz33_2, hfz33_0, hfz33_1, hfz33_2⟩ := bx3 BK473.out; have p16 : 0 ≤ (x3_2 : Int) := od_; have q16 : x3_2 < (a0_2.size : Int) := od_; have hx16 := bt_at a0_2 x3_2; replace p16 := eq_true p16; replace q16 := eq_true q16; go_wp2; go_roundg k2
            case measure => have := HJ1.out; have := HK2.out; omega
            case rel => exact ⟨(wrap64 (x3_2 + 1)), ev_, H', ⟨by have := HJ1.out; have := HK2.out; omega⟩, ⟨uK BK473.out⟩, ⟨uB HB.out⟩⟩
       ·rw [if_neg c15] at H; exact absurd H (by simp)
      ·rw [if_neg c14] at H; have c14b0 : decide (x3_2 < (a0_2.size : Int)) = false := decide_eq_false c14; clear c14; obtain rfl := Option.some.inj H; obtain ⟨hcz34_0, hcz34_1, hcz34_2, hfz34_0, hfz34_1, hfz34_2⟩ := bx3 BK473.out; go_wp2; go_ret; exact ⟨by first | rfl | (simp [errW_none, errW_some] <;> rfl) | (simp [*, errW_none, errW_some] <;> rfl), uB HB.out⟩

end Go.Proofs.Ytdebpmdbeogglaa.Q
