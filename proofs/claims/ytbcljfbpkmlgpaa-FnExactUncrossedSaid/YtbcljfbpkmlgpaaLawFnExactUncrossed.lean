-- Written by a session's own program (wip/tools/myprint.py) over the kit's printer, out of the translation. Not trusted: Lean checks it.
import Derived.Test.YtbcljfbpkmlgpaaRows
import Derived.Test.YtbcljfbpkmlgpaaQ8
import Derived.Test.YtbcljfbpkmlgpaaPureFnExactUncrossed
import Derived.Test.YtbcljfbpkmlgpaaOpens
import Derived.WalkKit
import Derived.ProofKit
import Derived.OpenShut
import Derived.ShutString
import Derived.ChangeOld
import Derived.Below
import Derived.SizedLaws
import Derived.Test.YtbcljfbpkmlgpaaWSized
namespace Go.Proofs.Ytbcljfbpkmlgpaa.fnExactUncrossed
open Go.ChangeShapes Go.WideShapes Go.ChangeAt Go.RowKit Go.Proofs.YtbcljfbpkmlgpaaW.PrintWords Go.Proofs.Ytbcljfbpkmlgpaa.Q Go.Proofs.Ytbcljfbpkmlgpaa.Opens
open Go.ChangeMaps (open_string shut_string)
set_option linter.unusedVariables false
theorem own : ownKnob Try.prog.godebug = none := by kernel_rfl
theorem laidOut : laidOutB Try.prog = true := by kernel_rfl
theorem op0 : Opens Try.prog 22 (Kd.slice 41 k41) (fun x : List (S41) => ∀ x1_ ∈ x, (x1_.f0.length ≤ 9223372036854775807 ∧ ∀ x6_ ∈ x1_.f0, (Lit.int .i64 x6_).wf = true)) := (opens_slice Try.underlying22 (by kernel_rfl) (show Opens _ _ k41 _ from opens_iso (fun x : S41 => x.f0) (fun p => ⟨p⟩) (fun _ => rfl) (opens_struct Try.underlying41 (by kernel_rfl) (opens_last _ rfl rfl (by kernel_rfl) (opens_sliceL Try.underlying34 (by kernel_rfl) (opens_int Try.underlying3))))))
set_option maxRecDepth 100000 in
theorem lifted (os : Os) (started : os.Started) (H : Type) (enc : TypeId × Value → H) :
    ReturnsInHanded {} Try.checked os 9 .any (Rows.fnExactUncrossedSpec.pre6 enc Try.prog Try.f9 Rows.fnExactUncrossedRow.domain false) (Rows.fnExactUncrossedSpec.post enc Try.prog Try.f9 false true false false) := by
  refine returnsInHanded_of_change_sized (C := Try.checked) own started (by kernel_rfl) Try.func9
    (ChangeSpec.witness6 (enc := enc) (C := Try.checked) false ⟨#[], #[.slice none 0 0], []⟩ 8 (by kernel_rfl) (by kernel_rfl) (by kernel_rfl) (by kernel_rfl)) ?_
  intro W base args ds gs before hval0 hW hcnd hsz0 _
  have hsz : (DataW.weightsEach Try.prog (Try.f9.params.toList ++ Rows.fnExactUncrossedSpec.plain.varTypes Try.prog) (ds ++ gs)).all (· ≤ reachBytes) = true := hsz0
  have hval : ∀ (j : Nat) t v, Try.f9.params[j]? = some t → args[j]? = some v → Value.okWide Try.prog W .any base t v := hval0
  have hW' := hW
  obtain ⟨p, q, hA0, hV, rfl, hfz, hnd⟩ := hW
  have hA : DataW.TrodAll enc Try.prog W 0 (fun _ => true) true Try.f9.params.toList args.toList ds p := hA0
  rw [Try.params9] at hA hval hsz
  obtain ⟨v0, vs0, d0, ds0, p0, q0, hargs, rfl, rfl, h0, r0⟩ := trodAll_cons hA
  obtain ⟨rfl, rfl, rfl⟩ := trodAll_nil r0
  obtain rfl : args = #[v0] := by cases args; simp_all
  obtain ⟨rfl, rfl⟩ := trodVars_none hV
  obtain ⟨a0, len0, cap0, rfl⟩ := okWide_slice Try.underlying22 (hval 0 22 v0 rfl rfl)
  have k0 := h0
  have lt0 : ∀ x ∈ p0, x.block < W.heap.size := by obtain ⟨m, hm⟩ := k0; exact DataW.trod_lt m _ _ _ hm
  obtain ⟨l0, ⟨A0, c0, e0, hc0, hr0⟩, hg0⟩ := (by obtain ⟨fuel, hf⟩ := h0; exact op0 _ _ _ _ _ _ _ _ _ hf : ∃ l : List (S41), Kd.K (Kd.slice 41 k41) W l (Value.cells (.slice a0 len0 cap0)).toList ∧ (∀ x1_ ∈ l, (x1_.f0.length ≤ 9223372036854775807 ∧ ∀ x6_ ∈ x1_.f0, (Lit.int .i64 x6_).wf = true)))
  obtain ⟨rfl, rfl, rfl⟩ : a0 = A0 ∧ len0 = l0.length ∧ cap0 = c0 := by simpa [Value.cells] using e0
  clear hA0 hval0 hsz0 hsz
  obtain ⟨k, h⟩ := Pure.FnExactUncrossed l0 hr0.2.1 hg0
  refine (Q.laws_FnExactUncrossed.calls k _ _ l0 true W hr0 hc0 rfl h).mono fun e W' ⟨he, bel0⟩ => ?_
  have bel := bel0
  subst he
  exact ⟨_, rfl, _, _, _, [], _, [], hW', trodAll_mk1 (shut_bool Try.underlying4 _), (trodAll_cons_mk (Below.trod laidOut (by kernel_rfl) (of_decide_eq_true (by kernel_rfl)) k0 bel lt0) trodAll_mk0), rfl, bel.frame _, fun h => by cases h⟩
theorem over : Rows.fnExactUncrossedRow.holds Try.pinned (OpenSpec.ofChange Rows.fnExactUncrossedSpec) :=
  OpenClaim.holds_of_wide 9 Try.f9 rfl rfl rfl rfl rfl rfl rfl ⟨rfl, rfl, rfl, rfl, rfl⟩ rfl rfl rfl rfl rfl (by kernel_rfl) Try.func9 (by kernel_rfl)
    (of_decide_eq_true (by kernel_rfl)) (by unfold Func.isWrapper; first | (rw [if_pos (by decide +kernel)]; kernel_rfl) | (rw [if_neg (by decide +kernel)]; exact ⟨rfl, rfl⟩))
    (fun os started H enc _ => lifted os started H enc)
theorem proved : Rows.FnExactUncrossedSaid := over
#print axioms proved
end Go.Proofs.Ytbcljfbpkmlgpaa.fnExactUncrossed
namespace Go.Proofs.Ytbcljfbpkmlgpaa
/-- The row, under a short name, for the claim. -/
theorem fnExactUncrossed_holds : Rows.FnExactUncrossedSaid := fnExactUncrossed.proved
end Go.Proofs.Ytbcljfbpkmlgpaa
