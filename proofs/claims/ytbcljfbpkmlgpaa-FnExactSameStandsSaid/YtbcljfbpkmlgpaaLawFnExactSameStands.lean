-- Written by a session's own program (wip/tools/myprint.py) over the kit's printer, out of the translation. Not trusted: Lean checks it.
import Derived.Test.YtbcljfbpkmlgpaaRows
import Derived.Test.YtbcljfbpkmlgpaaQ10
import Derived.Test.YtbcljfbpkmlgpaaPureFnExactSameStands
import Derived.Test.YtbcljfbpkmlgpaaOpens
import Derived.WalkKit
import Derived.ProofKit
import Derived.OpenShut
import Derived.ShutString
import Derived.ChangeOld
import Derived.Below
import Derived.SizedLaws
import Derived.Test.YtbcljfbpkmlgpaaWSized
namespace Go.Proofs.Ytbcljfbpkmlgpaa.fnExactSameStands
open Go.ChangeShapes Go.WideShapes Go.ChangeAt Go.RowKit Go.Proofs.YtbcljfbpkmlgpaaW.PrintWords Go.Proofs.Ytbcljfbpkmlgpaa.Q Go.Proofs.Ytbcljfbpkmlgpaa.Opens
open Go.ChangeMaps (open_string shut_string)
set_option linter.unusedVariables false
theorem own : ownKnob Try.prog.godebug = none := by kernel_rfl
theorem laidOut : laidOutB Try.prog = true := by kernel_rfl
theorem op0 : Opens Try.prog 22 (Kd.slice 41 k41) (fun x : List (S41) => ∀ x1_ ∈ x, (x1_.f0.length ≤ 9223372036854775807 ∧ ∀ x6_ ∈ x1_.f0, (Lit.int .i64 x6_).wf = true)) := (opens_slice Try.underlying22 (by kernel_rfl) (show Opens _ _ k41 _ from opens_iso (fun x : S41 => x.f0) (fun p => ⟨p⟩) (fun _ => rfl) (opens_struct Try.underlying41 (by kernel_rfl) (opens_last _ rfl rfl (by kernel_rfl) (opens_sliceL Try.underlying34 (by kernel_rfl) (opens_int Try.underlying3))))))
theorem op1 : Opens Try.prog 22 (Kd.slice 41 k41) (fun x : List (S41) => ∀ x1_ ∈ x, (x1_.f0.length ≤ 9223372036854775807 ∧ ∀ x6_ ∈ x1_.f0, (Lit.int .i64 x6_).wf = true)) := (opens_slice Try.underlying22 (by kernel_rfl) (show Opens _ _ k41 _ from opens_iso (fun x : S41 => x.f0) (fun p => ⟨p⟩) (fun _ => rfl) (opens_struct Try.underlying41 (by kernel_rfl) (opens_last _ rfl rfl (by kernel_rfl) (opens_sliceL Try.underlying34 (by kernel_rfl) (opens_int Try.underlying3))))))
set_option maxRecDepth 100000 in
theorem lifted (os : Os) (started : os.Started) (H : Type) (enc : TypeId × Value → H) :
    ReturnsInHanded {} Try.checked os 12 .any (Rows.fnExactSameStandsSpec.pre6 enc Try.prog Try.f12 Rows.fnExactSameStandsRow.domain false) (Rows.fnExactSameStandsSpec.post enc Try.prog Try.f12 false true false false) := by
  refine returnsInHanded_of_change_sized (C := Try.checked) own started (by kernel_rfl) Try.func12
    (ChangeSpec.witness6 (enc := enc) (C := Try.checked) false ⟨#[], #[.slice none 0 0, .slice none 0 0], []⟩ 8 (by kernel_rfl) (by kernel_rfl) (by kernel_rfl) (by kernel_rfl)) ?_
  intro W base args ds gs before hval0 hW hcnd hsz0 _
  have hsz : (DataW.weightsEach Try.prog (Try.f12.params.toList ++ Rows.fnExactSameStandsSpec.plain.varTypes Try.prog) (ds ++ gs)).all (· ≤ reachBytes) = true := hsz0
  have hval : ∀ (j : Nat) t v, Try.f12.params[j]? = some t → args[j]? = some v → Value.okWide Try.prog W .any base t v := hval0
  have hW' := hW
  obtain ⟨p, q, hA0, hV, rfl, hfz, hnd⟩ := hW
  have hA : DataW.TrodAll enc Try.prog W 0 (fun _ => true) true Try.f12.params.toList args.toList ds p := hA0
  rw [Try.params12] at hA hval hsz
  obtain ⟨v0, vs0, d0, ds0, p0, q0, hargs, rfl, rfl, h0, r0⟩ := trodAll_cons hA
  obtain ⟨v1, vs1, d1, ds1, p1, q1, rfl, rfl, rfl, h1, r1⟩ := trodAll_cons r0
  obtain ⟨rfl, rfl, rfl⟩ := trodAll_nil r1
  obtain rfl : args = #[v0, v1] := by cases args; simp_all
  obtain ⟨rfl, rfl⟩ := trodVars_none hV
  obtain ⟨a0, len0, cap0, rfl⟩ := okWide_slice Try.underlying22 (hval 0 22 v0 rfl rfl)
  have k0 := h0
  have lt0 : ∀ x ∈ p0, x.block < W.heap.size := by obtain ⟨m, hm⟩ := k0; exact DataW.trod_lt m _ _ _ hm
  obtain ⟨l0, ⟨A0, c0, e0, hc0, hr0⟩, hg0⟩ := (by obtain ⟨fuel, hf⟩ := h0; exact op0 _ _ _ _ _ _ _ _ _ hf : ∃ l : List (S41), Kd.K (Kd.slice 41 k41) W l (Value.cells (.slice a0 len0 cap0)).toList ∧ (∀ x1_ ∈ l, (x1_.f0.length ≤ 9223372036854775807 ∧ ∀ x6_ ∈ x1_.f0, (Lit.int .i64 x6_).wf = true)))
  obtain ⟨rfl, rfl, rfl⟩ : a0 = A0 ∧ len0 = l0.length ∧ cap0 = c0 := by simpa [Value.cells] using e0
  obtain ⟨a1, len1, cap1, rfl⟩ := okWide_slice Try.underlying22 (hval 1 22 v1 rfl rfl)
  have k1 := h1
  have lt1 : ∀ x ∈ p1, x.block < W.heap.size := by obtain ⟨m, hm⟩ := k1; exact DataW.trod_lt m _ _ _ hm
  obtain ⟨l1, ⟨A1, c1, e1, hc1, hr1⟩, hg1⟩ := (by obtain ⟨fuel, hf⟩ := h1; exact op1 _ _ _ _ _ _ _ _ _ hf : ∃ l : List (S41), Kd.K (Kd.slice 41 k41) W l (Value.cells (.slice a1 len1 cap1)).toList ∧ (∀ x1_ ∈ l, (x1_.f0.length ≤ 9223372036854775807 ∧ ∀ x6_ ∈ x1_.f0, (Lit.int .i64 x6_).wf = true)))
  obtain ⟨rfl, rfl, rfl⟩ : a1 = A1 ∧ len1 = l1.length ∧ cap1 = c1 := by simpa [Value.cells] using e1
  clear hA0 hval0 hsz0 hsz
  obtain ⟨k, h⟩ := Pure.FnExactSameStands l0 l1 hr0.2.1 hg0 hr1.2.1 hg1
  refine (Q.laws_FnExactSameStands.calls k _ _ l0 _ _ l1 true W hr0 hc0 hr1 hc1 rfl h).mono fun e W' ⟨he, bel0⟩ => ?_
  have bel := bel0
  subst he
  exact ⟨_, rfl, _, _, _, [], _, [], hW', trodAll_mk1 (shut_bool Try.underlying4 _), (trodAll_cons_mk (Below.trod laidOut (by kernel_rfl) (of_decide_eq_true (by kernel_rfl)) k0 bel lt0) (trodAll_cons_mk (Below.trod laidOut (by kernel_rfl) (of_decide_eq_true (by kernel_rfl)) k1 bel lt1) trodAll_mk0)), rfl, bel.frame _, fun h => by cases h⟩
theorem over : Rows.fnExactSameStandsRow.holds Try.pinned (OpenSpec.ofChange Rows.fnExactSameStandsSpec) :=
  OpenClaim.holds_of_wide 12 Try.f12 rfl rfl rfl rfl rfl rfl rfl ⟨rfl, rfl, rfl, rfl, rfl⟩ rfl rfl rfl rfl rfl (by kernel_rfl) Try.func12 (by kernel_rfl)
    (of_decide_eq_true (by kernel_rfl)) (by unfold Func.isWrapper; first | (rw [if_pos (by decide +kernel)]; kernel_rfl) | (rw [if_neg (by decide +kernel)]; exact ⟨rfl, rfl⟩))
    (fun os started H enc _ => lifted os started H enc)
theorem proved : Rows.FnExactSameStandsSaid := over
#print axioms proved
end Go.Proofs.Ytbcljfbpkmlgpaa.fnExactSameStands
namespace Go.Proofs.Ytbcljfbpkmlgpaa
/-- The row, under a short name, for the claim. -/
theorem fnExactSameStands_holds : Rows.FnExactSameStandsSaid := fnExactSameStands.proved
end Go.Proofs.Ytbcljfbpkmlgpaa
