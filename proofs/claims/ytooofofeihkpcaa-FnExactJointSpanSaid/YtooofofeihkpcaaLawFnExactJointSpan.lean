-- Written by a session's own program (wip/tools/myprint.py) over the kit's printer, out of the translation. Not trusted: Lean checks it.
import Derived.Test.YtooofofeihkpcaaRows
import Derived.Test.YtooofofeihkpcaaQ16
import Derived.Test.YtooofofeihkpcaaPureFnExactJointSpan
import Derived.Test.YtooofofeihkpcaaOpens
import Derived.WalkKit
import Derived.ProofKit
import Derived.OpenShut
import Derived.ShutString
import Derived.ChangeOld
import Derived.Below
import Derived.SizedLaws
import Derived.Test.YtooofofeihkpcaaWSized
namespace Go.Proofs.Ytooofofeihkpcaa.fnExactJointSpan
open Go.ChangeShapes Go.WideShapes Go.ChangeAt Go.RowKit Go.Proofs.YtooofofeihkpcaaW.PrintWords Go.Proofs.Ytooofofeihkpcaa.Q Go.Proofs.Ytooofofeihkpcaa.Opens
open Go.ChangeMaps (open_string shut_string)
set_option linter.unusedVariables false
theorem own : ownKnob Try.prog.godebug = none := by kernel_rfl
theorem laidOut : laidOutB Try.prog = true := by kernel_rfl
theorem op0 : Opens Try.prog 23 k23 (fun x : S23 => ((Lit.int .i64 x.f0).wf = true) ∧ ((Lit.int .i64 x.f1).wf = true) ∧ (x.f2.size ≤ maxLen)) := (show Opens _ _ k23 _ from opens_iso (fun x : S23 => (x.f0, x.f1, x.f2)) (fun p => ⟨p.1, p.2.1, p.2.2⟩) (fun _ => rfl) (opens_struct Try.underlying23 (by kernel_rfl) (opens_pair _ rfl rfl (by kernel_rfl) (opens_int Try.underlying3) (opens_pair _ rfl rfl (by kernel_rfl) (opens_int Try.underlying3) (opens_last _ rfl rfl (by kernel_rfl) (opens_string Try.underlying9))))))
theorem op1 : Opens Try.prog 29 (Kd.slice 3 (Kd.int .i64)) (fun x : List Int => ∀ x1_ ∈ x, (Lit.int .i64 x1_).wf = true) := (opens_slice Try.underlying29 (by kernel_rfl) (opens_int Try.underlying3))
theorem op2 : Opens Try.prog 29 (Kd.slice 3 (Kd.int .i64)) (fun x : List Int => ∀ x1_ ∈ x, (Lit.int .i64 x1_).wf = true) := (opens_slice Try.underlying29 (by kernel_rfl) (opens_int Try.underlying3))
set_option maxRecDepth 100000 in
theorem lifted (os : Os) (started : os.Started) (H : Type) (enc : TypeId × Value → H) :
    ReturnsInHanded {} Try.checked os 14 .any (Rows.fnExactJointSpanSpec.pre6 enc Try.prog Try.f14 Rows.fnExactJointSpanRow.domain false) (Rows.fnExactJointSpanSpec.post enc Try.prog Try.f14 false true false false) := by
  refine returnsInHanded_of_change_sized (C := Try.checked) own started (by kernel_rfl) Try.func14
    (ChangeSpec.witness6 (enc := enc) (C := Try.checked) false ⟨#[], #[.agg #[.int .i64 0, .int .i64 0, .string ByteArray.empty], .slice none 0 0, .slice none 0 0, .int .i64 0], []⟩ 8 (by kernel_rfl) (by kernel_rfl) (by kernel_rfl) (by kernel_rfl)) ?_
  intro W base args ds gs before hval0 hW hcnd hsz0 _
  have hsz : (DataW.weightsEach Try.prog (Try.f14.params.toList ++ Rows.fnExactJointSpanSpec.plain.varTypes Try.prog) (ds ++ gs)).all (· ≤ reachBytes) = true := hsz0
  have hval : ∀ (j : Nat) t v, Try.f14.params[j]? = some t → args[j]? = some v → Value.okWide Try.prog W .any base t v := hval0
  have hW' := hW
  obtain ⟨p, q, hA0, hV, rfl, hfz, hnd⟩ := hW
  have hA : DataW.TrodAll enc Try.prog W 0 (fun _ => true) true Try.f14.params.toList args.toList ds p := hA0
  rw [Try.params14] at hA hval hsz
  obtain ⟨v0, vs0, d0, ds0, p0, q0, hargs, rfl, rfl, h0, r0⟩ := trodAll_cons hA
  obtain ⟨v1, vs1, d1, ds1, p1, q1, rfl, rfl, rfl, h1, r1⟩ := trodAll_cons r0
  obtain ⟨v2, vs2, d2, ds2, p2, q2, rfl, rfl, rfl, h2, r2⟩ := trodAll_cons r1
  obtain ⟨v3, vs3, d3, ds3, p3, q3, rfl, rfl, rfl, h3, r3⟩ := trodAll_cons r2
  obtain ⟨rfl, rfl, rfl⟩ := trodAll_nil r3
  obtain rfl : args = #[v0, v1, v2, v3] := by cases args; simp_all
  obtain ⟨rfl, rfl⟩ := trodVars_none hV
  obtain ⟨cs0, rfl, hsz0⟩ := okWide_struct Try.underlying23 (hval 0 23 v0 rfl rfl)
  have k0 := h0
  have lt0 : ∀ x ∈ p0, x.block < W.heap.size := by obtain ⟨m, hm⟩ := k0; exact DataW.trod_lt m _ _ _ hm
  obtain ⟨x0, hK0, hg0⟩ := (by obtain ⟨fuel, hf⟩ := h0; exact op0 _ _ _ _ _ _ _ _ _ hf : ∃ x : S23, Kd.K k23 W x cs0.toList ∧ (((Lit.int .i64 x.f0).wf = true) ∧ ((Lit.int .i64 x.f1).wf = true) ∧ (x.f2.size ≤ maxLen)))
  obtain ⟨_, _, ecs0, rfl, ⟨_, _, rfl, rfl, rfl⟩⟩ := hK0
  obtain rfl : cs0 = #[.int .i64 x0.f0, .int .i64 x0.f1, .string x0.f2] := by cases cs0; simp_all
  obtain ⟨a1, len1, cap1, rfl⟩ := okWide_slice Try.underlying29 (hval 1 29 v1 rfl rfl)
  have k1 := h1
  have lt1 : ∀ x ∈ p1, x.block < W.heap.size := by obtain ⟨m, hm⟩ := k1; exact DataW.trod_lt m _ _ _ hm
  obtain ⟨l1, ⟨A1, c1, e1, hc1, hr1⟩, hg1⟩ := (by obtain ⟨fuel, hf⟩ := h1; exact op1 _ _ _ _ _ _ _ _ _ hf : ∃ l : List Int, Kd.K (Kd.slice 3 (Kd.int .i64)) W l (Value.cells (.slice a1 len1 cap1)).toList ∧ (∀ x1_ ∈ l, (Lit.int .i64 x1_).wf = true))
  obtain ⟨rfl, rfl, rfl⟩ : a1 = A1 ∧ len1 = l1.length ∧ cap1 = c1 := by simpa [Value.cells] using e1
  obtain ⟨a2, len2, cap2, rfl⟩ := okWide_slice Try.underlying29 (hval 2 29 v2 rfl rfl)
  have k2 := h2
  have lt2 : ∀ x ∈ p2, x.block < W.heap.size := by obtain ⟨m, hm⟩ := k2; exact DataW.trod_lt m _ _ _ hm
  obtain ⟨l2, ⟨A2, c2, e2, hc2, hr2⟩, hg2⟩ := (by obtain ⟨fuel, hf⟩ := h2; exact op2 _ _ _ _ _ _ _ _ _ hf : ∃ l : List Int, Kd.K (Kd.slice 3 (Kd.int .i64)) W l (Value.cells (.slice a2 len2 cap2)).toList ∧ (∀ x1_ ∈ l, (Lit.int .i64 x1_).wf = true))
  obtain ⟨rfl, rfl, rfl⟩ : a2 = A2 ∧ len2 = l2.length ∧ cap2 = c2 := by simpa [Value.cells] using e2
  obtain ⟨a3, rfl, rfl, rfl, w3⟩ := open_int Try.underlying3 (hval 3 3 v3 rfl rfl) h3
  clear hA0 hval0 hsz0 hsz
  obtain ⟨k, h⟩ := Pure.FnExactJointSpan x0.f0 x0.f1 x0.f2 l1 l2 a3 hg0.1 hg0.2.1 hg0.2.2 hr1.2.1 hg1 hr2.2.1 hg2 w3
  refine (Q.laws_FnExactJointSpan.calls k x0.f0 x0.f1 x0.f2 _ _ l1 _ _ l2 a3 true W hr1 hc1 hr2 hc2 rfl h).mono fun e W' ⟨he, bel0⟩ => ?_
  have bel := bel0
  subst he
  exact ⟨_, rfl, _, _, _, [], _, [], hW', trodAll_mk1 (shut_bool Try.underlying4 _), (trodAll_cons_mk (Below.trod laidOut (by kernel_rfl) (of_decide_eq_true (by kernel_rfl)) k0 bel lt0) (trodAll_cons_mk (Below.trod laidOut (by kernel_rfl) (of_decide_eq_true (by kernel_rfl)) k1 bel lt1) (trodAll_cons_mk (Below.trod laidOut (by kernel_rfl) (of_decide_eq_true (by kernel_rfl)) k2 bel lt2) (trodAll_cons_mk (shut_int Try.underlying3 w3) trodAll_mk0)))), rfl, bel.frame _, fun h => by cases h⟩
theorem over : Rows.fnExactJointSpanRow.holds Try.pinned (OpenSpec.ofChange Rows.fnExactJointSpanSpec) :=
  OpenClaim.holds_of_wide 14 Try.f14 rfl rfl rfl rfl rfl rfl rfl ⟨rfl, rfl, rfl, rfl, rfl⟩ rfl rfl rfl rfl rfl (by kernel_rfl) Try.func14 (by kernel_rfl)
    (of_decide_eq_true (by kernel_rfl)) (by unfold Func.isWrapper; first | (rw [if_pos (by decide +kernel)]; kernel_rfl) | (rw [if_neg (by decide +kernel)]; exact ⟨rfl, rfl⟩))
    (fun os started H enc _ => lifted os started H enc)
theorem proved : Rows.FnExactJointSpanSaid := over
#print axioms proved
end Go.Proofs.Ytooofofeihkpcaa.fnExactJointSpan
namespace Go.Proofs.Ytooofofeihkpcaa
/-- The row, under a short name, for the claim. -/
theorem fnExactJointSpan_holds : Rows.FnExactJointSpanSaid := fnExactJointSpan.proved
end Go.Proofs.Ytooofofeihkpcaa
