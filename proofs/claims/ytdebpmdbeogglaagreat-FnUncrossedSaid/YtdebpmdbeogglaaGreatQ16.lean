-- Written by a session's own program (wip/tools/myprint.py) over the kit's printer, out of the translation. Not trusted: Lean checks it.
import Derived.Test.YtdebpmdbeogglaaGreatQ0
import Derived.Test.YtdebpmdbeogglaaGreatQ9
import Derived.Test.YtdebpmdbeogglaaGreatQ14
import Derived.Test.YtdebpmdbeogglaaGreatQ15
-- squeezed
-- renamed
-- squeezed4
namespace Go.Proofs.YtdebpmdbeogglaaGreat.Q
open Go.RowKit Go.Proofs.YtdebpmdbeogglaaGreatW.PrintWords Go.Proofs.YtdebpmdbeogglaaGreatW.PrintLast Go.Proofs.YtdebpmdbeogglaaGreatW.PrintMore
attribute [local go_sem] max2_int min2_int max_two min_two max_three min_three max_four min_four   -- for this text's walks alone
set_option linter.unusedVariables false
set_option linter.unusedSimpArgs false

/-! ### impl_FreeCells: function 60 -/
/-! ### a range over a string of plain bytes, whose iterator lies at whatever block -/
def setIter (W : World) (B : Nat) (s : ByteArray) (p : Nat) : World := { W with heap := W.heap.setIfInBounds B (.stringIter s p) }
theorem setIter_at {W : World} {B : Nat} {o : Obj} {s : ByteArray} {p : Nat} (h : W.heap[B]? = some o) : (setIter W B s p).heap[B]? = some (.stringIter s p) := by
  have := blk_lt h
  simp [setIter, Array.getElem?_setIfInBounds, this]
theorem setIter_grown (W : World) (B : Nat) (s : ByteArray) (p : Nat) : W.grownBy (setIter W B s p) (some B) :=
  ⟨rfl, rfl, rfl, by simp [setIter], fun i hi hne => by
    have : ¬ B = i := fun e => hne (by rw [e])
    simp [setIter, Array.getElem?_setIfInBounds, this]⟩
theorem run_next_at (W : World) (B : Nat) (s : ByteArray) (pos : Nat) (hB : W.heap[B]? = some (.stringIter s pos)) (h : pos < s.size) (ha : (s[pos]'h).toNat < 128) :
    ∃ W1, (∀ ty, (Instr.next (.pointer (some ⟨B, 0, none⟩)) true ty).run Tryz.prog W = .ok (.tuple #[.bool true, .int .i64 pos, .int .i32 (s[pos]'h).toNat]) W1) ∧ W.grownBy W1 (some B) ∧ W1.heap[B]? = some (.stringIter s (pos + 1)) := by
  refine ⟨setIter W B s (pos + 1), fun ty => ?_, setIter_grown W B s (pos + 1), setIter_at hB⟩
  simp only [Instr.next, getObj, setObj, Sem.run_bind, Sem.run, hB, Result.andThen, h, if_true, decode_ascii s pos h ha]
  simp [goInt, Sem.run, hB, setIter]
theorem run_next_done (W : World) (B : Nat) (s : ByteArray) (pos : Nat) (hB : W.heap[B]? = some (.stringIter s pos)) (h : ¬ pos < s.size) (ty : TypeId) :
    (Instr.next (.pointer (some ⟨B, 0, none⟩)) true ty).run Tryz.prog W = .ok (.tuple #[.bool false]) W := by
  simp [Instr.next, getObj, Sem.run, hB, h]

def impl_FreeCells.go (b0 c0 : Int) (a0 : ByteArray) : Nat → Nat → List Int → Option (List Int)
  | 0, _, acc => some acc
  | d + 1, pos, acc => if h : pos < a0.size then (if (a0[pos]'h).toNat < 128 then ((impl_isFree.f b0 c0 a0 (pos : Int)).bind fun t => (if t = true then (if acc.length < 17592186044416 then impl_FreeCells.go b0 c0 a0 d (pos + 1) (acc ++ [(pos : Int)]) else none) else impl_FreeCells.go b0 c0 a0 d (pos + 1) acc)) else none) else none
def impl_FreeCells.f (k : Nat) (b0 : Int) (c0 : Int) (a0 : ByteArray) : Option (List Int) := (impl_GridOk.f k b0 c0 a0).bind fun t => (if t = true then (impl_FreeCells.go b0 c0 a0 a0.size 0 []) else (some ([] : List Int)))
set_option maxHeartbeats 8000000 in
set_option maxRecDepth 100000 in
theorem impl_FreeCells.calls (k : Nat) (b0 : Int) (c0 : Int) (a0 : ByteArray) (r : List Int) (w : World) (h : impl_FreeCells.f k b0 c0 a0 = some r) :
    Calls Tryz.prog 60 #[.agg #[.int .i64 b0, .int .i64 c0, .string a0]] w fun e w' => ∃ v0_ : Value, e = .returned (v0_) ∧ Kd.R (Kd.int .i64) 3 w' w.heap.size (fun _ => True) v0_ r ∧ Below w.heap.size w w' := by
  have hu26 := Tryz.underlying25; have hu9 := Tryz.underlying9; have HB := B_ (A__ w.heap.size w); obtain ⟨t1, hG, H⟩ := M_ h; clear h; have HG := B_ hG; clear hG; go_enter Tryz.func60, Tryz.ntmps60
  cases t1 with
  | false =>
    obtain rfl := F_ H; go_wp2_with (first | ((with_reducible refine Y_ (N := 1) rfl ?_); (try (refine gate_guard (by rfl) ?_; dsimp only)); refine be_ (N := 1) (cs := #[.int .i64 b0, .int .i64 c0, .string a0]) (t := 25) ?_; intro gb hg w3 hbox hb; have HB1 := B_ (below_step HB.out hb); have BK := B_ hbox; clear HB hb hbox hg; have hcz0 : w3.cell? ⟨gb, 0, none⟩ = some (.int .i64 b0) := (blk_cell BK.out 0).trans rfl; have hcz1 : w3.cell? ⟨gb, 1, none⟩ = some (.int .i64 c0) := (blk_cell BK.out 1).trans rfl; have hcz2 : w3.cell? ⟨gb, 2, none⟩ = some (.string a0) := (blk_cell BK.out 2).trans rfl) | (go_at_call 80; refine (impl_GridOk.calls k b0 c0 a0 false _ HG.out).mono ?_; rintro e w4 ⟨rfl, hb4⟩; have HB2 := B_ (below_step HB1.out hb4); clear hb4 hcz0 hcz1 hcz2))
    go_ret; exact ⟨_, rfl, Kd.R_nil _ _ _ _ _, HB2.out⟩
  | true =>
    have H' := B_ H; clear H; go_wp2_with (first | ((with_reducible refine Y_ (N := 1) rfl ?_); (try (refine gate_guard (by rfl) ?_; dsimp only)); refine be_ (N := 1) (cs := #[.int .i64 b0, .int .i64 c0, .string a0]) (t := 25) ?_; intro gb hg w3 hbox hb; have GE := B_ (by rw [hg]; exact N_ _ : w.heap.size ≤ gb); have HB1 := B_ (below_step HB.out hb); have BK := B_ hbox; clear HB hb hbox hg; have hcz0 : w3.cell? ⟨gb, 0, none⟩ = some (.int .i64 b0) := (blk_cell BK.out 0).trans rfl; have hcz1 : w3.cell? ⟨gb, 1, none⟩ = some (.int .i64 c0) := (blk_cell BK.out 1).trans rfl; have hcz2 : w3.cell? ⟨gb, 2, none⟩ = some (.string a0) := (blk_cell BK.out 2).trans rfl) | (go_at_call 80; refine (impl_GridOk.calls k b0 c0 a0 true _ HG.out).mono ?_; rintro e w4 ⟨rfl, hb4⟩; have HB2 := B_ (below_step HB1.out hb4); have g0 := B_ (blk_below BK.out hb4); clear hb4 hcz0 hcz1 hcz2; have hcy2 : w4.cell? ⟨gb, 2, none⟩ = some (.string a0) := bc_ g0 2))
    have GI : Aside0 (w.heap.size ≤ w4.heap.size) := ⟨H_ HB2.out⟩; have HB3 : Aside0 (Below w.heap.size w (w4.iter a0 0)) := ⟨HB2.out.alloc GI.out (.stringIter a0 0)⟩; have l0 : Aside0 ((w4.iter a0 0).heap[gb]? = some (.cells #[.int .i64 b0, .int .i64 c0, .string a0] 25 (0, 0))) := ⟨blk_alloc g0.out (.stringIter a0 0)⟩; have IT3 := B_ (World.iter_heap w4 a0 0); have NE := B_ (Nat.ne_of_lt (blk_lt g0.out)); clear hcy2; generalize w4.heap.size = it at *; generalize w4.iter a0 0 = w5 at *; have HG0 : Aside0 (impl_FreeCells.go b0 c0 a0 a0.size 0 [] = some r) := ⟨H'.out⟩; clear H' HG; go_loopg [3] a0.size (fun d v3 w' => ∃ (pos : Nat) (acc : List Int), pos + d = a0.size ∧ Aside0 (impl_FreeCells.go b0 c0 a0 d pos acc = some r) ∧ Aside0 (Kd.R (Kd.int .i64) 3 w' w.heap.size (fun k_ => k_ ≠ gb ∧ k_ ≠ it) v3 acc) ∧ Aside0 (Below w.heap.size w w') ∧ Aside0 (w'.heap[gb]? = some (.cells #[.int .i64 b0, .int .i64 c0, .string a0] 25 (0, 0))) ∧ Aside0 (w'.heap[it]? = some (.stringIter a0 pos)))
    case atStart => exact ⟨0, [], by omega, HG0, ⟨Kd.R_nil _ _ _ _ _⟩, HB3, l0, IT3⟩
    case round =>
      clear HB3 l0 IT3 HG0 HB1 HB2 BK g0; obtain ⟨pos, acc, hpd, HA, HO, HB, BK, IT⟩ := hrel
      cases gk with
      | zero =>
        have hnx := fun ty => run_next_done wr it a0 pos IT.out (by omega) ty
        have hr := F_ HA.out; subst hr; clear HA; go_wp2; go_ret; exact ⟨_, rfl, O_ HO.out (fun _ _ => trivial), HB.out⟩
      | succ d =>
        have hp : pos < a0.size := by omega
        have H := HA.out; clear HA; simp only [impl_FreeCells.go] at H; rw [dif_pos hp] at H; by_cases ha : (a0[pos]'hp).toNat < 128
        · rw [G_ ha] at H
          obtain ⟨W1, hnx, hgr, hit⟩ := run_next_at wr it a0 pos IT.out hp ha; obtain ⟨t, hF, H⟩ := M_ H; have HF := B_ hF; have d0 := B_ (blk_grown BK.out hgr (by intro e; injection e with e; exact NE.out e)); have HB1 := B_ (HB.out.grown hgr (H_ HB.out) (fun k e => by injection e with e; rw [← e]; exact GI.out)); have m0 := B_ (Kd.R_grown HO.out hgr (fun k hk e => by injection e with e; exact hk.2 e)); have IT1 := B_ hit; have hcz0 : W1.cell? ⟨gb, 0, none⟩ = some (.int .i64 b0) := bc_ d0 0; have hcz1 : W1.cell? ⟨gb, 1, none⟩ = some (.int .i64 c0) := bc_ d0 1; have hcz2 : W1.cell? ⟨gb, 2, none⟩ = some (.string a0) := bc_ d0 2; generalize (a0[pos]'hp).toNat = q at hnx; clear hF hgr hit HO HB BK IT ha hp
          cases t with
          | false =>
            rw [I_ (by decide)] at H; have H2 := B_ H; clear H; go_wp2_with (go_at_call 61; refine (impl_isFree.calls b0 c0 a0 (pos : Int) false _ HF.out).mono ?_; rintro e w6 ⟨rfl, hb6⟩; have HB6 := B_ (below_step HB1.out hb6); have e0 := B_ (Kd.R_below m0.out hb6); have j0 := B_ (blk_below d0.out hb6); have IT6 := B_ (blk_below IT1.out hb6); clear hb6 hcz0 hcz1 hcz2)
            go_roundg d
            case measure => omega
            case rel => exact ⟨pos + 1, acc, by omega, H2, e0, HB6, j0, IT6⟩
          | true =>
            rw [G_ rfl] at H; by_cases hl : acc.length < 17592186044416
            · rw [G_ hl] at H
              have H2 := B_ H; have HL := B_ hl; clear H hl; go_wp2_with (first | (go_at_call 61; refine (impl_isFree.calls b0 c0 a0 (pos : Int) true _ HF.out).mono ?_; rintro e w6 ⟨rfl, hb6⟩; have HB6 := B_ (below_step HB1.out hb6); have e0 := B_ (Kd.R_below m0.out hb6); have j0 := B_ (blk_below d0.out hb6); have IT6 := B_ (blk_below IT1.out hb6); clear hb6 hcz0 hcz1 hcz2) | ((with_reducible refine gate_builtin (b := .append) (xs := #[.tmp 17, .tmp 19]) rfl ?_); at_builtin; refine Kd.R_append (Kd.int .i64) (w0 := w) w.heap.size rfl (.tmp 17) (.tmp 19) 26 3 (.int .i64 0) 8 rfl Tryz.underlying26 info3 rfl (by decide) (by omega) u3 acc (pos : Int) [.int .i64 (pos : Int)] (fun k_ => k_ ≠ gb ∧ k_ ≠ it) (fun _ => False) rfl rfl ?aP (fun _ hk => hk.elim) ?aF ?aO ?aB ?aS ?aL ?_; (case aP => exact rfl); (case aB => exact HB6.out); (case aF => exact (fun k_ hk => ⟨Kd.freshB j0.out k_ hk, Kd.freshB IT6.out k_ hk⟩)); (case aO => exact e0.out); (case aS => exact H_ HB6.out); (case aL => have := HL.out; omega); intro v7 w7 ho hb hg hat; have HB7 := B_ hb; have n0 := B_ ho; have o0 := B_ (blk_grown j0.out hg (Kd.R_away e0.out (fun _ hk => hk.1))); have IT7 := B_ (blk_grown IT6.out hg (Kd.R_away e0.out (fun _ hk => hk.2))); clear ho hb hg hat))
              go_roundg d
              case measure => omega
              case rel => exact ⟨pos + 1, acc ++ [(pos : Int)], by omega, H2, n0, HB7, o0, IT7⟩
            · rw [I_ hl] at H
              exact absurd H (by simp)
        · rw [I_ ha] at H
          exact absurd H (by simp)


/-! ### impl_AskOk: function 34 -/
def impl_AskOk.f (k : Nat) (a0 : Int) (b0 : Int) (c0 : ByteArray) (l1 : List Int) (l2 : List Int) (a3 : Int) : Option (Bool) := (impl_isAsked.f k a0 b0 c0 l1 l2).bind fun g0 => (if g0 = true then (if a3 ≥ 0 then (if a3 ≤ 20 then ((impl_FreeCells.f k a0 b0 c0).bind fun j0 => (some (decide ((wrap64 ((j0.length : Int) * (wrap64 (a3 + 1)))) ≤ 240)))) else (some false)) else (some false)) else (some false))
set_option maxHeartbeats 8000000 in
set_option maxRecDepth 100000 in
theorem impl_AskOk.calls (k : Nat) (a0 : Int) (b0 : Int) (c0 : ByteArray) (A1 : Option Addr) (c1 : Nat) (l1 : List Int) (A2 : Option Addr) (c2 : Nat) (l2 : List Int) (a3 : Int) (r : Bool) (w : World) (hr1 : Kd.C (Kd.int .i64) w A1 l1.length l1) (hc1 : l1.length ≤ c1) (hr2 : Kd.C (Kd.int .i64) w A2 l2.length l2) (hc2 : l2.length ≤ c2) (h : impl_AskOk.f k a0 b0 c0 l1 l2 a3 = some r) :
  Calls Tryz.prog 34 #[.agg #[.int .i64 a0, .int .i64 b0, .string c0], .slice A1 l1.length c1, .slice A2 l2.length c2, .int .i64 a3] w fun e w' => e = .returned (.bool r) ∧ Below w.heap.size w w' := by
 have hu25 := Tryz.underlying25; have l0 := B_ hr1; have HC1 := B_ hc1; clear hr1 hc1; have m0 := B_ hr2; have HC2 := B_ hc2; clear hr2 hc2; have HB := B_ (A__ w.heap.size w); have H : ((impl_isAsked.f k a0 b0 c0 l1 l2).bind fun g0 => (if g0 = true then (if a3 ≥ 0 then (if a3 ≤ 20 then ((impl_FreeCells.f k a0 b0 c0).bind fun j0 => (some (decide ((wrap64 ((j0.length : Int) * (wrap64 (a3 + 1)))) ≤ 240)))) else (some false)) else (some false)) else (some false))) = some r := h; clear h; obtain ⟨g0, A5, H⟩ := ob_ H; by_cases c6 : g0 = true
 ·subst c6; rw [G_ rfl] at H; by_cases c7 : a3 ≥ 0
  ·rw [G_ c7] at H; have q0 := C_ c7; clear c7; by_cases c8 : a3 ≤ 20
   ·rw [G_ c8] at H; have r0 := C_ c8; clear c8; obtain ⟨j0, A9, H⟩ := ob_ H; obtain rfl := F_ H; go_enter Tryz.func34, Tryz.ntmps34; go_wp2_with (first | ((with_reducible refine Y_ (N := 4) rfl ?_); (try (refine gate_guard (by rfl) ?_; dsimp only)); refine be_ (N := 4) (cs := #[.int .i64 a0, .int .i64 b0, .string c0]) (t := 25) ?_; intro e0 hg u0 hbox hb; have d0 := B_ (hbox); have n0 := B_ ((by rw [hg]; exact (H_ (uB HB.out)) : w.heap.size ≤ e0)); have o0 := ge_ hg HB; replace HB := hB_ HB hb; clear hb hbox hg; have v0 := bx3 d0.out) | ((with_reducible refine J_ (f := 59) rfl ?_); refine gL_ (some 12) Tryz.func59 #[.agg #[.int .i64 a0, .int .i64 b0, .string c0], .slice A1 l1.length c1, .slice A2 l2.length c2] ?_; (with_reducible refine (impl_isAsked.calls k a0 b0 c0 _ _ l1 _ _ l2 true _ ?side1 ?side2 ?side3 ?side4 A5.out).mono ?_); (case side1 => exact cu_ l0 HB); (case side2 => exact HC1.out); (case side3 => exact cu_ m0 HB); (case side4 => exact HC2.out); rintro e x0 ⟨rfl, hb⟩; refine ⟨_, rfl, ?_⟩; replace d0 := kb_ d0 hb; replace HB := hB_ HB hb; (try clear hb); have y0 := bx3 d0.out) | (go_at_call 60; (with_reducible refine (impl_FreeCells.calls k a0 b0 c0 j0 _ A9.out).mono ?_); rintro e z0 ⟨v605, rfl, p0, hb⟩; have s0 := B_ (Kd.R_lower p0 (H_ (uB HB.out))); replace d0 := kb_ d0 hb; replace HB := hB_ HB hb; (try clear hb p0); obtain ⟨A0, C0, t0⟩ := Kd.R_slice s0.out; subst t0))
    go_ret; exact ⟨ew_, uB HB.out⟩
   ·rw [I_ c8] at H; have r0 := K_ c8; clear c8; obtain rfl := F_ H; go_enter Tryz.func34, Tryz.ntmps34; go_wp2_with (first | ((with_reducible refine Y_ (N := 4) rfl ?_); (try (refine gate_guard (by rfl) ?_; dsimp only)); refine be_ (N := 4) (cs := #[.int .i64 a0, .int .i64 b0, .string c0]) (t := 25) ?_; intro e0 hg D0 hbox hb; have d0 := B_ (hbox); have n0 := B_ ((by rw [hg]; exact (H_ (uB HB.out)) : w.heap.size ≤ e0)); have o0 := ge_ hg HB; replace HB := hB_ HB hb; clear hb hbox hg; have E0 := bx3 d0.out) | ((with_reducible refine J_ (f := 59) rfl ?_); refine gL_ (some 12) Tryz.func59 #[.agg #[.int .i64 a0, .int .i64 b0, .string c0], .slice A1 l1.length c1, .slice A2 l2.length c2] ?_; (with_reducible refine (impl_isAsked.calls k a0 b0 c0 _ _ l1 _ _ l2 true _ ?side1 ?side2 ?side3 ?side4 A5.out).mono ?_); (case side1 => exact cu_ l0 HB); (case side2 => exact HC1.out); (case side3 => exact cu_ m0 HB); (case side4 => exact HC2.out); rintro e G0 ⟨rfl, hb⟩; refine ⟨_, rfl, ?_⟩; replace d0 := kb_ d0 hb; replace HB := hB_ HB hb; (try clear hb)))
    go_ret; exact ⟨ew_, uB HB.out⟩
  ·rw [I_ c7] at H; have q0 := K_ c7; clear c7; obtain rfl := F_ H; go_enter Tryz.func34, Tryz.ntmps34; go_wp2_with (first | ((with_reducible refine Y_ (N := 4) rfl ?_); (try (refine gate_guard (by rfl) ?_; dsimp only)); refine be_ (N := 4) (cs := #[.int .i64 a0, .int .i64 b0, .string c0]) (t := 25) ?_; intro e0 hg J0 hbox hb; have d0 := B_ (hbox); have n0 := B_ ((by rw [hg]; exact (H_ (uB HB.out)) : w.heap.size ≤ e0)); have o0 := ge_ hg HB; replace HB := hB_ HB hb; clear hb hbox hg; have L0 := bx3 d0.out) | ((with_reducible refine J_ (f := 59) rfl ?_); refine gL_ (some 12) Tryz.func59 #[.agg #[.int .i64 a0, .int .i64 b0, .string c0], .slice A1 l1.length c1, .slice A2 l2.length c2] ?_; (with_reducible refine (impl_isAsked.calls k a0 b0 c0 _ _ l1 _ _ l2 true _ ?side1 ?side2 ?side3 ?side4 A5.out).mono ?_); (case side1 => exact cu_ l0 HB); (case side2 => exact HC1.out); (case side3 => exact cu_ m0 HB); (case side4 => exact HC2.out); rintro e M0 ⟨rfl, hb⟩; refine ⟨_, rfl, ?_⟩; replace d0 := kb_ d0 hb; replace HB := hB_ HB hb; (try clear hb)))
   go_ret; exact ⟨ew_, uB HB.out⟩
 ·replace c6 := L_ c6; subst c6; rw [I_ (show ¬ (false = true) by decide)] at H; obtain rfl := F_ H; go_enter Tryz.func34, Tryz.ntmps34; go_wp2_with (first | ((with_reducible refine Y_ (N := 4) rfl ?_); (try (refine gate_guard (by rfl) ?_; dsimp only)); refine be_ (N := 4) (cs := #[.int .i64 a0, .int .i64 b0, .string c0]) (t := 25) ?_; intro e0 hg N0 hbox hb; have d0 := B_ (hbox); have n0 := B_ ((by rw [hg]; exact (H_ (uB HB.out)) : w.heap.size ≤ e0)); have o0 := ge_ hg HB; replace HB := hB_ HB hb; clear hb hbox hg; have O0 := bx3 d0.out) | ((with_reducible refine J_ (f := 59) rfl ?_); refine gL_ (some 12) Tryz.func59 #[.agg #[.int .i64 a0, .int .i64 b0, .string c0], .slice A1 l1.length c1, .slice A2 l2.length c2] ?_; (with_reducible refine (impl_isAsked.calls k a0 b0 c0 _ _ l1 _ _ l2 false _ ?side1 ?side2 ?side3 ?side4 A5.out).mono ?_); (case side1 => exact cu_ l0 HB); (case side2 => exact HC1.out); (case side3 => exact cu_ m0 HB); (case side4 => exact HC2.out); rintro e P0 ⟨rfl, hb⟩; refine ⟨_, rfl, ?_⟩; replace d0 := kb_ d0 hb; replace HB := hB_ HB hb; (try clear hb)))
  go_ret; exact ⟨ew_, uB HB.out⟩

/-! ### impl_formFault: function 35 -/
def impl_formFault.l0 : Nat → List Int → List (S43) → Int → Int → Int → Int → List (S43) → Option (Bool)
 | 0, _, _, _, _, _, _, _ => none
 | k + 1, x0, J0, d1, s0, e1, s1, t1 => if s0 < d1 then (if 0 ≤ s0 then (if s0 < (J0.length : Int) then (if (((rd_T43 J0 s0).f0).length : Int) = (wrap64 (e1 + 1)) then (if 0 < (((rd_T43 J0 s0).f0).length : Int) then (if s0 < (x0.length : Int) then (if (rd ((rd_T43 J0 s0).f0) 0) = (rd x0 s0) then (impl_formFault.l0 k x0 J0 d1 (wrap64 (s0 + 1)) e1 s1 t1) else (some true)) else (none)) else (none)) else (some true)) else (none)) else (none)) else (some false)
def impl_formFault.f (k : Nat) (l0 : List Int) (q0 : Int) (t0 : Int) (a0 : List (S43)) : Option (Bool) := if (a0.length : Int) = (l0.length : Int) then (impl_formFault.l0 k l0 a0 (a0.length : Int) 0 q0 t0 a0) else (some true)
set_option maxHeartbeats 8000000 in
set_option maxRecDepth 100000 in
theorem impl_formFault.calls (k : Nat) (A0 : Option Addr) (c0 : Nat) (l0 : List Int) (q0 : Int) (t0 : Int) (L0 : Option Addr) (M0 : Nat) (a0 : List (S43)) (r : Bool) (w : World) (hr0 : Kd.C (Kd.int .i64) w A0 l0.length l0) (hc0 : l0.length ≤ c0) (hr1_2 : Kd.C k43 w L0 a0.length a0) (hc1_2 : a0.length ≤ M0) (h : impl_formFault.f k l0 q0 t0 a0 = some r) :
  Calls Tryz.prog 35 #[.slice A0 l0.length c0, .agg #[.int .i64 q0, .int .i64 t0, .slice L0 a0.length M0]] w fun e w' => e = .returned (.bool r) ∧ Below w.heap.size w w' := by
 have hu29 := Tryz.underlying29; have hu43 := Tryz.underlying43; have g1 := B_ hr0; have HC0 := B_ hc0; clear hr0 hc0; have Y0 := B_ hr1_2; have HC1_2 := B_ hc1_2; clear hr1_2 hc1_2; have HB := B_ (A__ w.heap.size w); have H : (if (a0.length : Int) = (l0.length : Int) then (impl_formFault.l0 k l0 a0 (a0.length : Int) 0 q0 t0 a0) else (some true)) = some r := h; clear h; by_cases c3 : (a0.length : Int) = (l0.length : Int)
 ·rw [G_ c3] at H; have j1 := D__ c3; have l1 := T_ c3; have m1 : (a0.length == l0.length) = true := by first | simpa using c3 | (simp at c3 ⊢; omega)
  clear c3; have H' := B_ H; clear H; go_enter Tryz.func35, Tryz.ntmps35
  repeat ((fail_if_success (first | clear z_ | done)); go_wp2_with (first | ((with_reducible refine Y_ (N := 3) rfl ?_); refine be_ (N := 3) (cs := #[.int .i64 q0, .int .i64 t0, .slice L0 a0.length M0]) (t := 29) ?_; intro R0 hg w4 hbox hb; have d0 := B_ (hbox); have u1 := B_ ((by rw [hg]; exact (H_ (uB HB.out)) : w.heap.size ≤ R0)); have v1 := ge_ hg HB; replace HB := hB_ HB hb; clear hb hbox hg; have x1 := bx3 d0.out)); first | go_quiet (fail) | have z_ := True.intro | skip)
  (try clear z_); go_loopg [16] k (fun kq v16 w' => ∃ (b0 : Int), v16 = .int .i64 b0 ∧ Aside0 (impl_formFault.l0 kq l0 a0 (a0.length : Int) b0 q0 t0 a0 = some r) ∧ Aside0 (kq ≤ k) ∧ Aside0 (w'.heap[R0]? = some (.cells #[.int .i64 q0, .int .i64 t0, (.slice L0 a0.length M0)] 29 (0, 0))) ∧ Aside0 (Below w.heap.size w w'))
  case atStart => exact ⟨(0), ev_, H', ⟨N_ _⟩, ⟨uK d0.out⟩, ⟨bw_⟩⟩
  case round =>
   clear H'; (try clear c1); (try clear p2); (try clear c3); (try clear j1); (try clear l1); (try clear m1); (try clear x1); obtain ⟨b0, rfl, HA, HK1, d0, HB⟩ := hrel
   cases gk with
   | zero => exact absurd HA.out (by simp [impl_formFault.l0])
   | succ k1 =>
    have H := HA.out; clear HA; simp only [impl_formFault.l0] at H; by_cases c6 : b0 < (a0.length : Int)
    ·rw [G_ c6] at H; have y1 := C_ c6; clear c6; by_cases c7 : 0 ≤ b0
     ·rw [G_ c7] at H; have E1 := C_ c7; clear c7; by_cases c8 : b0 < (a0.length : Int)
      ·rw [G_ c8] at H; have G1 := C_ c8; clear c8; by_cases c9 : (((rd_T43 a0 b0).f0).length : Int) = (wrap64 (q0 + 1))
       ·rw [G_ c9] at H; have z1 := D__ c9; have A1 := T_ c9; clear c9; by_cases U0 : 0 < (((rd_T43 a0 b0).f0).length : Int)
        ·rw [G_ U0] at H; have J1 := C_ U0; have L1 : decide (0 < ((rd_T43 a0 b0).f0).length) = true := C_ (by omega); clear U0; by_cases V0 : b0 < (l0.length : Int)
         ·rw [G_ V0] at H; have M1 := C_ V0; clear V0; by_cases y0 : (rd ((rd_T43 a0 b0).f0) 0) = (rd l0 b0)
          ·rw [G_ y0] at H; have C1 := D__ y0; have D1 := T_ y0; clear y0; have H' := B_ H; clear H; have m0 : 0 ≤ (b0 : Int) := od_; have n0 : b0 < (a0.length : Int) := od_; obtain ⟨n1, o1, r0, N0, o0, u0, v0⟩ := at_T43 Y0.out b0 m0 n0
           cases N0; replace o0 := (HB.out.cell (D_ w _ o0)).trans o0; have X0 := B_ v0; have HC608_0 := B_ u0; clear v0 u0; replace m0 := E_ m0; replace n0 := E_ n0
           repeat ((fail_if_success (first | clear z_ | done)); go_wp2_with (first | ((with_reducible refine Y_ (N := 6) rfl ?_); refine be_ (N := 6) (cs := #[.slice none 0 0]) (t := 43) ?_; intro e0 hg p1 hbox hb; have O0 := B_ (hbox); have G0 := B_ ((by rw [hg]; exact (H_ bw_) : w.heap.size ≤ e0)); have q1 := B_ ((by rw [hg]; exact (H_ bw_) : w.heap.size ≤ e0)); replace HB := hw_ hb; have P0 := nl_ hg d0; have Q0 := nr_ hg d0; replace d0 := kb_ d0 hb; clear hb hbox hg; have N1 := Q0.out; have O1 := P0.out; have P1 := bx1 O0.out; have Q1 := bx3 d0.out; have z0 : 0 ≤ (0 : Int) := (by omega); have C0 : 0 < (((rd_T43 a0 b0).f0).length : Int) := od_; obtain ⟨p0, Z0, g0⟩ := U_ X0.out 0 z0 C0; cases Z0; have qi610 : (0 < ((rd_T43 a0 b0).f0).length) = True := E_ (by omega); (try rw [show ((0 : Int)).toNat = 0 from rfl] at g0); (try rw [Addr.add_zero'] at g0); have hn610_0 : p0.block ≠ e0 := Nat.ne_of_lt (Nat.lt_of_lt_of_le (by have := D_ _ _ g0; first | rwa [add_block] at this | exact this) G0.out); replace g0 := (HB.out.cell (D_ w _ g0)).trans g0; replace g0 := (cell_far (p := ⟨e0, 0, none⟩) (by first | (rw [add_block]; exact hn610_0) | (show (Addr.add _ _).block ≠ _; rw [add_block]; exact hn610_0) | exact hn610_0) (.slice (some p0) ((rd_T43 a0 b0).f0).length r0)).trans g0; (try have hy610_0 := fun (n_ : Nat) => (show (((p1.drewN n_).setCell ⟨e0, 0, none⟩ (.slice (some p0) ((rd_T43 a0 b0).f0).length r0))).cell? _ = some _ from g0)); clear hn610_0; replace z0 := E_ z0; replace C0 := E_ C0; have D0 : 0 ≤ (b0 : Int) := od_; have E0 : b0 < (l0.length : Int) := od_; obtain ⟨a1, b1, j0⟩ := U_ g1.out b0 D0 E0; cases b1; have hn611_0 : a1.block ≠ e0 := Nat.ne_of_lt (Nat.lt_of_lt_of_le (by have := D_ _ _ j0; first | rwa [add_block] at this | exact this) G0.out); replace j0 := (HB.out.cell (D_ w _ j0)).trans j0; replace j0 := (cell_far (p := ⟨e0, 0, none⟩) (by first | (rw [add_block]; exact hn611_0) | (show (Addr.add _ _).block ≠ _; rw [add_block]; exact hn611_0) | exact hn611_0) (.slice (some p0) ((rd_T43 a0 b0).f0).length r0)).trans j0; (try have hy611_0 := fun (n_ : Nat) => (show (((p1.drewN n_).setCell ⟨e0, 0, none⟩ (.slice (some p0) ((rd_T43 a0 b0).f0).length r0))).cell? _ = some _ from j0)); clear hn611_0; replace D0 := E_ D0; replace E0 := E_ E0)); first | go_quiet (fail) | have z_ := True.intro | skip)
           (try clear z_); go_roundg k1
           case measure => have := HK1.out; omega
           case rel => exact ⟨(wrap64 (b0 + 1)), ev_, H', ⟨by have := HK1.out; omega⟩, ⟨zk_⟩, ⟨bw_⟩⟩
          ·rw [I_ y0] at H; have C1 := P_ y0; have D1 := B__ y0; obtain rfl := F_ H; have m0 : 0 ≤ (b0 : Int) := od_; have n0 : b0 < (a0.length : Int) := od_; obtain ⟨n1, o1, r0, N0, o0, u0, v0⟩ := at_T43 Y0.out b0 m0 n0
           cases N0; replace o0 := (HB.out.cell (D_ w _ o0)).trans o0; have X0 := B_ v0; have HC608_0 := B_ u0; clear v0 u0; replace m0 := E_ m0; replace n0 := E_ n0
           repeat ((fail_if_success (first | clear z_ | done)); go_wp2_with (first | ((with_reducible refine Y_ (N := 6) rfl ?_); refine be_ (N := 6) (cs := #[.slice none 0 0]) (t := 43) ?_; intro e0 hg r1 hbox hb; have O0 := B_ (hbox); have G0 := B_ ((by rw [hg]; exact (H_ bw_) : w.heap.size ≤ e0)); have q1 := B_ ((by rw [hg]; exact (H_ bw_) : w.heap.size ≤ e0)); replace HB := hw_ hb; have P0 := nl_ hg d0; have Q0 := nr_ hg d0; replace d0 := kb_ d0 hb; clear hb hbox hg; have R1 := Q0.out; have U1 := P0.out; have V1 := bx1 O0.out; have X1 := bx3 d0.out; have z0 : 0 ≤ (0 : Int) := (by omega); have C0 : 0 < (((rd_T43 a0 b0).f0).length : Int) := od_; obtain ⟨p0, Z0, g0⟩ := U_ X0.out 0 z0 C0; cases Z0; have qi610 : (0 < ((rd_T43 a0 b0).f0).length) = True := E_ (by omega); (try rw [show ((0 : Int)).toNat = 0 from rfl] at g0); (try rw [Addr.add_zero'] at g0); have hn610_0 : p0.block ≠ e0 := Nat.ne_of_lt (Nat.lt_of_lt_of_le (by have := D_ _ _ g0; first | rwa [add_block] at this | exact this) G0.out); replace g0 := (HB.out.cell (D_ w _ g0)).trans g0; replace g0 := (cell_far (p := ⟨e0, 0, none⟩) (by first | (rw [add_block]; exact hn610_0) | (show (Addr.add _ _).block ≠ _; rw [add_block]; exact hn610_0) | exact hn610_0) (.slice (some p0) ((rd_T43 a0 b0).f0).length r0)).trans g0; (try have hy610_0 := fun (n_ : Nat) => (show (((r1.drewN n_).setCell ⟨e0, 0, none⟩ (.slice (some p0) ((rd_T43 a0 b0).f0).length r0))).cell? _ = some _ from g0)); clear hn610_0; replace z0 := E_ z0; replace C0 := E_ C0; have D0 : 0 ≤ (b0 : Int) := od_; have E0 : b0 < (l0.length : Int) := od_; obtain ⟨a1, b1, j0⟩ := U_ g1.out b0 D0 E0; cases b1; have hn611_0 : a1.block ≠ e0 := Nat.ne_of_lt (Nat.lt_of_lt_of_le (by have := D_ _ _ j0; first | rwa [add_block] at this | exact this) G0.out); replace j0 := (HB.out.cell (D_ w _ j0)).trans j0; replace j0 := (cell_far (p := ⟨e0, 0, none⟩) (by first | (rw [add_block]; exact hn611_0) | (show (Addr.add _ _).block ≠ _; rw [add_block]; exact hn611_0) | exact hn611_0) (.slice (some p0) ((rd_T43 a0 b0).f0).length r0)).trans j0; (try have hy611_0 := fun (n_ : Nat) => (show (((r1.drewN n_).setCell ⟨e0, 0, none⟩ (.slice (some p0) ((rd_T43 a0 b0).f0).length r0))).cell? _ = some _ from j0)); clear hn611_0; replace D0 := E_ D0; replace E0 := E_ E0)); first | go_quiet (fail) | have z_ := True.intro | skip)
           (try clear z_); go_ret; exact ⟨ew_, bw_⟩
         ·rw [I_ V0] at H; exact absurd H (by simp)
        ·rw [I_ U0] at H; exact absurd H (by simp)
       ·rw [I_ c9] at H; have z1 := P_ c9; have A1 := B__ c9; obtain rfl := F_ H; have m0 : 0 ≤ (b0 : Int) := od_; have n0 : b0 < (a0.length : Int) := od_; obtain ⟨n1, o1, r0, N0, o0, u0, v0⟩ := at_T43 Y0.out b0 m0 n0
        cases N0; replace o0 := (HB.out.cell (D_ w _ o0)).trans o0; have X0 := B_ v0; have HC608_0 := B_ u0; clear v0 u0; replace m0 := E_ m0; replace n0 := E_ n0
        repeat ((fail_if_success (first | clear z_ | done)); go_wp2_with (first | ((with_reducible refine Y_ (N := 6) rfl ?_); refine be_ (N := 6) (cs := #[.slice none 0 0]) (t := 43) ?_; intro e0 hg Y1 hbox hb; have O0 := B_ (hbox); have G0 := B_ ((by rw [hg]; exact (H_ bw_) : w.heap.size ≤ e0)); have q1 := B_ ((by rw [hg]; exact (H_ bw_) : w.heap.size ≤ e0)); replace HB := hw_ hb; have P0 := nl_ hg d0; have Q0 := nr_ hg d0; replace d0 := kb_ d0 hb; clear hb hbox hg; have Z1 := Q0.out; have a2 := P0.out; have b2 := bx1 O0.out; have c2 := bx3 d0.out)); first | go_quiet (fail) | have z_ := True.intro | skip)
        (try clear z_); go_ret; exact ⟨ew_, bw_⟩
      ·rw [I_ c8] at H; exact absurd H (by simp)
     ·rw [I_ c7] at H; exact absurd H (by simp)
    ·rw [I_ c6] at H; have y1 := K_ c6; clear c6; obtain rfl := F_ H; go_wp2
     repeat (go_quiet (fail); try go_wp2)
     go_ret; exact ⟨ew_, bw_⟩
 ·rw [I_ c3] at H; have j1 := P_ c3; have l1 := B__ c3; have m1 : (a0.length == l0.length) = false := by first | simpa using c3 | (simp at c3 ⊢; omega)
  obtain rfl := F_ H; go_enter Tryz.func35, Tryz.ntmps35
  repeat ((fail_if_success (first | clear z_ | done)); go_wp2_with (first | ((with_reducible refine Y_ (N := 3) rfl ?_); refine be_ (N := 3) (cs := #[.int .i64 q0, .int .i64 t0, .slice L0 a0.length M0]) (t := 29) ?_; intro R0 hg d2 hbox hb; have d0 := B_ (hbox); have u1 := B_ ((by rw [hg]; exact (H_ (uB HB.out)) : w.heap.size ≤ R0)); have v1 := ge_ hg HB; replace HB := hB_ HB hb; clear hb hbox hg; have e2 := bx3 d0.out)); first | go_quiet (fail) | have z_ := True.intro | skip)
  (try clear z_); go_ret; exact ⟨ew_, bw_⟩

/-! ### slices_Contains_int_int: function 43 -/
def slices_Contains_int_int.f (k : Nat) (l0 : List Int) (a1 : Int) : Option (Bool) := (slices_Index_int_int.f k l0 a1).bind fun a0 => (some (decide (a0 ≥ 0)))
set_option maxHeartbeats 8000000 in
set_option maxRecDepth 100000 in
theorem slices_Contains_int_int.calls (k : Nat) (A0 : Option Addr) (c0 : Nat) (l0 : List Int) (a1 : Int) (r : Bool) (w : World) (hr0 : Kd.C (Kd.int .i64) w A0 l0.length l0) (hc0 : l0.length ≤ c0) (h : slices_Contains_int_int.f k l0 a1 = some r) :
  Calls Tryz.prog 43 #[.slice A0 l0.length c0, .int .i64 a1] w fun e w' => e = .returned (.bool r) ∧ Below w.heap.size w w' := by
 have b0 := B_ hr0; have HC0 := B_ hc0; clear hr0 hc0; have HB := B_ (A__ w.heap.size w); have H : ((slices_Index_int_int.f k l0 a1).bind fun a0 => (some (decide (a0 ≥ 0)))) = some r := h; clear h; obtain ⟨a0, A3, H⟩ := ob_ H; obtain rfl := F_ H; go_enter Tryz.func43, Tryz.ntmps43; go_wp2_with (first | ((with_reducible refine J_ (f := 20) rfl ?_); refine gL_ (some 7) Tryz.func20 #[.slice A0 l0.length c0, .int .i64 a1] ?_; (with_reducible refine (slices_Index_int_int.calls k _ _ l0 a1 a0 _ ?side1 ?side2 A3.out).mono ?_); (case side1 => exact uC b0.out); (case side2 => exact HC0.out); rintro e w4 ⟨rfl, hb⟩; refine ⟨_, rfl, ?_⟩; replace HB := hB_ HB hb; (try clear hb)))
 go_ret; exact ⟨ew_, uB HB.out⟩

end Go.Proofs.YtdebpmdbeogglaaGreat.Q
