-- Written by a session's own program (wip/tools/myprint.py) over the kit's printer, out of the translation. Not trusted: Lean checks it.
import Derived.Test.YtpjmfmnnkcibjaaQ0
import Derived.Test.YtpjmfmnnkcibjaaQ8
namespace Go.Proofs.Ytpjmfmnnkcibjaa.Q
open Go.RowKit Go.Proofs.YtpjmfmnnkcibjaaW.PrintWords Go.Proofs.YtpjmfmnnkcibjaaW.PrintLast Go.Proofs.YtpjmfmnnkcibjaaW.PrintMore
attribute [local go_sem] max2_int min2_int max_two min_two max_three min_three max_four min_four   -- for this text's walks alone
set_option linter.unusedVariables false
set_option linter.unusedSimpArgs false

/-! ### slices_ContainsFunc_int_int: function 36 -/
set_option maxHeartbeats 8000000 in
set_option maxRecDepth 100000 in
theorem containsFunc_int (p : Int → Bool) (g : Nat) (lb : Array Value) (eg : ∀ args w, (callFunc g args).run Try.prog w = .ok (.enter g args) w)
    (A : Option Addr) (c : Nat) (l : List Int) (w : World) (hr : Kd.C (Kd.int .i64) w A l.length l) (hc : l.length ≤ c) (hp : Tells g lb (Value.int .i64) p l w) :
    Calls Try.prog 36 #[.slice A l.length c, .func (.func g) #[] lb] w fun e w' => e = .returned (.bool (l.any p)) ∧ Below w.heap.size w w' := by
  have H := indexFunc_int p g lb eg A c l w hr hc hp
  rw [← findI_any]
  generalize findI p l = y at H
  clear hp hr
  go_enter Try.func36, Try.ntmps36
  go_wp2_with (go_at_call 46; refine H.mono ?_; rintro e w' ⟨rfl, hb⟩)
  go_ret
  exact ⟨rfl, hb⟩


/-! ### impl_WindowOk: function 18 -/
/-! ### impl_WindowOk: by hand (a closure) -/
def impl_WindowOk.bad (a0_1 : Int) (n : Int) : Bool := decide (n < 0) || decide (n > a0_1)
def impl_WindowOk.head (a0_0 a0_1 : Int) (l0_2 : List Int) : Bool := decide (1 ≤ a0_0 ∧ a0_0 ≤ 8 ∧ 1 ≤ a0_1 ∧ a0_1 ≤ 100 ∧ (l0_2.length : Int) = a0_0 * 6)
def impl_WindowOk.f (a0_0 : Int) (a0_1 : Int) (l0_2 : List Int) : Option (Bool) := some (impl_WindowOk.head a0_0 a0_1 l0_2 && !(l0_2.any (impl_WindowOk.bad a0_1)))
theorem impl_WindowOk.tells (a0_0 a0_1 : Int) (v : Value) (B : Nat) (l : List Int) (w : World) (hB : w.heap[B]? = some (.cells #[.int .i64 a0_0, .int .i64 a0_1, v] 24 (0, 0))) :
    Tells 37 #[.pointer (some ⟨B, 0, none⟩)] (Value.int .i64) (impl_WindowOk.bad a0_1) l w := by
  intro W x _ hb
  have hB2 : W.heap[B]? = some (.cells #[.int .i64 a0_0, .int .i64 a0_1, v] 24 (0, 0)) := (hb.block B (blk_lt hB)).trans hB
  have hc1 : W.cell? ⟨B, 1, none⟩ = some (.int .i64 a0_1) := blk_cell hB2 1
  clear hB hB2 hb
  show Calls Try.prog 37 #[.int .i64 x, .pointer (some ⟨B, 0, none⟩)] W _
  unfold impl_WindowOk.bad
  by_cases h1 : x < 0
  · rw [decide_eq_true h1, Bool.true_or]
    go_enter Try.func37, Try.ntmps37
    go_wp2
    go_ret
    exact ⟨rfl, Below.refl _ _⟩
  · rw [decide_eq_false h1, Bool.false_or]
    have h1b := decide_eq_false h1
    go_enter Try.func37, Try.ntmps37
    go_wp2
    all_goals go_ret
    all_goals exact ⟨by simp_all, Below.refl _ _⟩
set_option maxHeartbeats 8000000 in
set_option maxRecDepth 100000 in
theorem impl_WindowOk.calls (a0_0 : Int) (a0_1 : Int) (A0_2 : Option Addr) (c0_2 : Nat) (l0_2 : List Int) (r : Bool) (w : World) (hr0_2 : Kd.C (Kd.int .i64) w A0_2 l0_2.length l0_2) (hc0_2 : l0_2.length ≤ c0_2) (h : impl_WindowOk.f a0_0 a0_1 l0_2 = some r) :
    Calls Try.prog 18 #[.agg #[.int .i64 a0_0, .int .i64 a0_1, .slice A0_2 l0_2.length c0_2]] w fun e w' => e = .returned (.bool r) ∧ Below w.heap.size w w' := by
  obtain rfl := Option.some.inj h
  clear h
  have hu := Try.underlying24
  have hbox : (w.alloc (.cells #[.int .i64 a0_0, .int .i64 a0_1, .slice A0_2 l0_2.length c0_2] 24)).heap[w.heap.size]? = some (.cells #[.int .i64 a0_0, .int .i64 a0_1, .slice A0_2 l0_2.length c0_2] 24 (0, 0)) := heap_alloc_new w _
  have eg : ∀ args w, (callFunc 37 args).run Try.prog w = .ok (.enter 37 args) w := entersOf Try.func37 (by kernel_rfl) rfl
  have hcon := containsFunc_int (impl_WindowOk.bad a0_1) 37 #[.pointer (some ⟨w.heap.size, 0, none⟩)] eg A0_2 c0_2 l0_2 _ (Kd.C_below hr0_2 ((Below.refl _ w).alloc (Nat.le_refl _) _)) hc0_2 (impl_WindowOk.tells a0_0 a0_1 _ w.heap.size l0_2 _ hbox)
  have HCON := Aside0.mk hcon
  clear hcon hbox eg hr0_2 hc0_2
  unfold impl_WindowOk.head
  by_cases c1 : a0_0 < 1
  · rw [decide_eq_false (by omega), Bool.false_and]
    have c1b := decide_eq_true c1
    clear c1
    go_enter Try.func18, Try.ntmps18
    go_wp2
    go_ret
    exact ⟨rfl, (Below.refl _ w).alloc (Nat.le_refl _) _⟩
  by_cases c2 : 8 < a0_0
  · rw [decide_eq_false (by omega), Bool.false_and]
    have c1b := decide_eq_false c1
    have c2b := decide_eq_true c2
    clear c1 c2
    go_enter Try.func18, Try.ntmps18
    go_wp2
    go_ret
    exact ⟨rfl, (Below.refl _ w).alloc (Nat.le_refl _) _⟩
  by_cases c3 : a0_1 < 1
  · rw [decide_eq_false (by omega), Bool.false_and]
    have c1b := decide_eq_false c1
    have c2b := decide_eq_false c2
    have c3b := decide_eq_true c3
    clear c1 c2 c3
    go_enter Try.func18, Try.ntmps18
    go_wp2
    go_ret
    exact ⟨rfl, (Below.refl _ w).alloc (Nat.le_refl _) _⟩
  by_cases c4 : 100 < a0_1
  · rw [decide_eq_false (by omega), Bool.false_and]
    have c1b := decide_eq_false c1
    have c2b := decide_eq_false c2
    have c3b := decide_eq_false c3
    have c4b := decide_eq_true c4
    clear c1 c2 c3 c4
    go_enter Try.func18, Try.ntmps18
    go_wp2
    go_ret
    exact ⟨rfl, (Below.refl _ w).alloc (Nat.le_refl _) _⟩
  have hw : wrap64 (a0_0 * 6) = a0_0 * 6 := by unfold wrap64; omega
  by_cases c5 : (l0_2.length : Int) = a0_0 * 6
  · rw [decide_eq_true (by omega), Bool.true_and]
    have c1b := decide_eq_false c1
    have c2b := decide_eq_false c2
    have c3b := decide_eq_false c3
    have c4b := decide_eq_false c4
    have c5b : ((l0_2.length : Int) != wrap64 (a0_0 * 6)) = false := by rw [hw]; exact bne_eq_false_iff_eq.mpr c5
    have c5c : ((l0_2.length : Int) != a0_0 * 6) = false := bne_eq_false_iff_eq.mpr c5
    clear c1 c2 c3 c4 c5 hw
    generalize l0_2.any (impl_WindowOk.bad a0_1) = q at HCON
    go_enter Try.func18, Try.ntmps18
    go_wp2_with (go_at_call 36; refine HCON.out.mono ?_; rintro e w' ⟨rfl, hb⟩)
    go_ret
    exact ⟨by first | rfl | simp, below_step ((Below.refl _ w).alloc (Nat.le_refl _) _) hb⟩
  · rw [decide_eq_false (by omega), Bool.false_and]
    have c1b := decide_eq_false c1
    have c2b := decide_eq_false c2
    have c3b := decide_eq_false c3
    have c4b := decide_eq_false c4
    have c5b : ((l0_2.length : Int) != wrap64 (a0_0 * 6)) = true := by rw [hw]; exact bne_iff_ne.mpr c5
    have c5c : ((l0_2.length : Int) != a0_0 * 6) = true := bne_iff_ne.mpr c5
    clear c1 c2 c3 c4 c5 hw
    go_enter Try.func18, Try.ntmps18
    go_wp2
    go_ret
    exact ⟨rfl, (Below.refl _ w).alloc (Nat.le_refl _) _⟩


end Go.Proofs.Ytpjmfmnnkcibjaa.Q
