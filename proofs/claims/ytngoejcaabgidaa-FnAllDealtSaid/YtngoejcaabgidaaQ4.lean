-- Written by a session's own program (wip/tools/myprint.py) over the kit's printer, out of the translation. Not trusted: Lean checks it.
import Derived.Test.YtngoejcaabgidaaQ0
import Derived.Test.YtngoejcaabgidaaQ3
namespace Go.Proofs.Ytngoejcaabgidaa.Q
open Go.RowKit Go.Proofs.YtngoejcaabgidaaW.PrintWords Go.Proofs.YtngoejcaabgidaaW.PrintLast Go.Proofs.YtngoejcaabgidaaW.PrintMore
attribute [local go_sem] max2_int min2_int max_two min_two max_three min_three max_four min_four   -- for this text's walks alone
set_option linter.unusedVariables false
set_option linter.unusedSimpArgs false

/-! ### impl_areWants: function 28 -/
/-! ### impl_areWants: by hand (a closure) -/
def impl_areWants.bad (n : Int) : Bool := decide (n < 0) || decide (n > 10000)
def impl_areWants.f (l0 : List Int) : Option (Bool) := some (!(l0.any impl_areWants.bad))
theorem impl_areWants.tells (l : List Int) (w : World) : Tells 36 #[] (Value.int .i64) impl_areWants.bad l w := by
  intro W x _ hb
  clear hb
  show Calls Try.prog 36 #[.int .i64 x] W _
  unfold impl_areWants.bad
  by_cases h1 : x < 0
  · rw [decide_eq_true h1, Bool.true_or]
    go_enter Try.func36, Try.ntmps36
    go_wp2
    go_ret
    exact ⟨rfl, Below.refl _ _⟩
  · rw [decide_eq_false h1, Bool.false_or]
    have h1b := decide_eq_false h1
    go_enter Try.func36, Try.ntmps36
    go_wp2
    all_goals go_ret
    all_goals exact ⟨by simp_all, Below.refl _ _⟩
set_option maxHeartbeats 8000000 in
set_option maxRecDepth 100000 in
theorem impl_areWants.calls (A0 : Option Addr) (c0 : Nat) (l0 : List Int) (r : Bool) (w : World) (hr0 : Kd.C (Kd.int .i64) w A0 l0.length l0) (hc0 : l0.length ≤ c0) (h : impl_areWants.f l0 = some r) :
    Calls Try.prog 28 #[.slice A0 l0.length c0] w fun e w' => e = .returned (.bool r) ∧ Below w.heap.size w w' := by
  obtain rfl := Option.some.inj h
  clear h
  have eg : ∀ args w, (callFunc 36 args).run Try.prog w = .ok (.enter 36 args) w := entersOf Try.func36 (by kernel_rfl) rfl
  have hcon := containsFunc_int impl_areWants.bad 36 #[] eg A0 c0 l0 w hr0 hc0 (impl_areWants.tells l0 w)
  have HCON := Aside0.mk hcon
  clear hcon eg hr0 hc0
  generalize l0.any impl_areWants.bad = q at HCON
  go_enter Try.func28, Try.ntmps28
  go_wp2_with (go_at_call 35; refine HCON.out.mono ?_; rintro e w' ⟨rfl, hb⟩)
  go_ret
  exact ⟨by first | rfl | simp, hb⟩


end Go.Proofs.Ytngoejcaabgidaa.Q
